import Derived.ChangeSlices
import Derived.ChangeReads
import Derived.ChangeSame
import Derived.OpenShut
import Derived.Lib.AtoiErrMem
import Derived.Laws.Externs
import Derived.Attr
import Derived.Test.YtabhmepaflffeaaGreatDoorWao
set_option linter.all false
set_option maxRecDepth 100000
open Array renaming getElem?_eq_some_iff->xC
open BitVec renaming ofInt->xT,ofInt_natCast->tP,ofNat->tO,toNat_ofNat->ui
open Bool renaming and_eq_true->yf,and_self->wg,and_true->uk,false_and->wH,false_eq_true->yH,false_or->vT,true_and->wI
open Classical renaming propDecidable->tj
open Go renaming Addr->uX,ChangeSpec->ycR,DataW->xX,Field->uj,IntKind->xh,MemPlace->wZ,Program->xA,TypeId->yF,Value->yj,World->yo
open Int renaming ediv_emod_unique->yat,gcd->vA,gcd_dvd_left->yav,gcd_dvd_right->yap,mul_ediv_cancel'->ybu,natAbs_ediv_of_dvd->tv,natCast_mul->xx,reduceEq->yaG,tdiv_eq_ediv_of_dvd->yba,tdiv_eq_ediv_of_nonneg->xV,tmod_eq_emod_of_nonneg->xN,toNat_natCast->wY
open List renaming all_cons->yau,append_assoc->xM,append_nil->wu,cons_append->xe,drop->uh,drop_drop->vV,drop_eq_getElem_cons->yS,drop_eq_nil_of_le->xb,drop_left'->tJ,drop_zero->yg,eq_nil_of_length_eq_zero->yD,filter_cons->ybS,filter_eq_nil_iff->yad,flatMap_cons->ybH,getD_cons_succ->ybt,getD_eq_getElem?_getD->y9,getElem?_cons_zero->uC,getElem?_eq_getElem->xu,length->uE,length_append->yW,length_cons->yB,length_drop->wh,length_map->yU,length_nil->yM,length_pos_iff->tx,length_reverse->ybv,length_singleton->tN,length_take->yP,mapM_cons->ta,mapM_nil->yaR,map_append->xB,map_cons->yV,map_take->yaP,mem_append->wB,mem_append_left->tU,mem_append_right->uD,mem_flatMap->tB,mem_singleton->wE,nil_append->xt,range->wR,range'->wq,range'_succ->ua,range'_zero->ybQ,range_eq_range'->ybk,replicate->yk,replicate_succ->wQ,reverse_cons->ybI,set_append_right->ybf,set_cons_succ->ybz,set_eq_take_append_cons_drop->yaj,take_append_drop->wo,take_length->xR,take_of_length_le->yK,take_succ_eq_append_getElem->xn
open Nat renaming add_comm->vU,add_mul->we,add_sub_cancel->tg,add_zero->y7,beq->yt,beq_refl->wK,ble->yJ,ble_eq_true_of_le->yz,blt->yQ,div_add_mod->xL,div_eq_of_lt->xU,div_le_self->vD,div_lt_iff_lt_mul->xH,eq_of_beq_eq_true->yi,eq_zero_or_pos->xj,gcd->wU,gcd_comm->yai,gcd_rec->ydg,le_div_iff_mul_le->tS,le_max_left->uV,le_max_right->uJ,le_of_ble_eq_true->yA,le_of_lt->uY,le_refl->yx,le_trans->xi,lt_of_le_of_lt->xQ,lt_of_lt_of_le->yI,lt_of_mul_lt_mul_right->th,min_eq_left->xo,mod_add_div->uF,mod_eq_of_lt->yR,mod_lt->xE,mul_add->xJ,mul_add_div->tA,mul_add_mod->yal,mul_assoc->xk,mul_comm->xg,mul_div_mul_right->tT,mul_le_mul->yZ,mul_le_mul_left->y5,mul_le_mul_right->yX,mul_lt_mul_of_pos_right->xZ,mul_mod_mul_right->uH,mul_one->yh,mul_pos->wV,mul_zero->xI,one_mul->yah,or_comm->ydh,pos_of_ne_zero->vY,pow_add->xF,pow_le_pow_right->y8,pow_lt_pow_iff_right->uB,pow_pos->ycl,pow_succ->xp,pow_zero->vX,reduceAdd->yb,reduceEqDiff->ya,reduceLT->yG,reduceLeDiff->yq,reduceMul->xv,strongRecOn->ub,sub_zero->ycQ,two_pow_pos->xf,zero_add->ye,zero_le->tG,zero_mul->wz
open Option renaming bind_eq_bind->ug,bind_some->wT,map_some->vd,pure_def->vn
open Option.some renaming injEq->yc
open Prod.mk renaming injEq->yr
open Option renaming some->Gr,none->Gs
open Bool renaming true->ydy,false->ydz
namespace VE
open Go (IntKind)
variable {P:aF}{L:Lib}
variable{v:AV}{again apart fresh handsOn:Bool}{tm:Env}{Q:Ex->St->Prop}{hp old:Hp}{hi:Int}{aw:List AV}{live post pre vs:List Nat}{A B K U0 V Y a base bo ct d la p q0 q1 sz u0 u1 u2 x:Nat}{I:Nat->St->Prop}
section
open Go
section
variable (P:xA)
def Gx(self:yF->Bool):List uj->Nat->Nat->Bool
 | [],o,n=>yt o n
 | f::r,o,n=>yt f.offset o&&(self f.type&&Gx self r (o+P.cellsOf f.type) n)
def flat:Nat->yF->Bool
 | 0,_=>ydz
 | n+1,t=>
  match P.underlying t with
  | some .bool | some (.int _) | some (.float _) | some .string=>yt (P.cellsOf t) 1
  | some (.slice e)=>yt (P.cellsOf t) 1&&(yQ 0 (P.cellsOf e)&&flat n e)
  | some (.struct fs)=>Gx P (fun u=>flat n u) fs.toList 0 (P.cellsOf t)
  | some (.array k e)=>yt (P.cellsOf t) (k*P.cellsOf e)&&flat n e
  | _=>ydz
def cV{H:Type}:Nat->yF->xX H->List AV
 | 0,_,_=>[]
 | n+1,t,d=>
  match P.underlying t,d with
  | some .bool,.lit (.bool b)=>[.bool b]
  | some (.int k),.lit (.int _ m)=>[.int k m]
  | some (.float k),.lit (.float _ b)=>[.an k b]
  | some .string,.lit (.string s)=>[.str (s.map UInt8.toNat)]
  | some (.slice _),.nil=>[.aj]
  | some (.slice e),.slice lB spare=>[.au spare.isEmpty lB.length (lB.flatMap fun x=>cV n e x)]
  | some (.struct fs),.agg parts=>(fs.toList.zip parts).flatMap fun x=>cV n x.1.type x.2
  | some (.array _ e),.agg parts=>parts.flatMap fun x=>cV n e x
  | _,_=>[]
end
section
variable {ae:Nat->Nat}{m:Mp}{S:Nat->Prop}{w:yo}
def acD:∀{a b:List AV} {iR o:Nat},cd ae m S w a iR o->cd ae m S w b iR (o+a.length)->cd ae m S w (a++b) iR o
 | [],b,iR,o,_,h=>by simpa using h
 | x::a,b,iR,o,h1,h2=>by
  exact⟨h1.1,acD h1.2 (by rw[yB] at h2;rw[show o+1+a.length=o+(a.length+1) by lia];exact h2)⟩
def Ot:∀{a b:List AV},aH a=ydy->aH b=ydy->aH (a++b)=ydy
 | [],_,_,h=>h
 | x::a,b,h1,h2=>by
  simp only[aH,xe,yf] at h1 ⊢;exact⟨h1.1,Ot h1.2 h2⟩
def acE:∀{a:List AV} {us:List yj},aE ae m S w a us->a.length=us.length
 | [],us,h=>by simp only[aE] at h;subst h;rfl
 | x::a,us,h=>by
  obtain⟨u,r,rfl,_,h2⟩:=h;simp[acE h2]
end
section
variable {H:Type}{enc:yF×yj->H}{P:xA}{w:yo}{held:Bool}{ae:Nat->Nat}{m:Mp}{S:Nat->Prop}
def aeK{a:uX}{i:Nat}{u:yj}(h:w.cell? (a.add i)=Gr u):w.cell? ⟨a.block,a.off+i,Gs⟩=Gr u/\(i=0->a.spot=Gs):=by
 by_cases hi:i=0
 .subst hi;have e:a.add 0=a:=by simp[Addr.add]
  rw[e] at h;have hs:a.spot=Gs:=by
   cases hq:a.spot with
   | none=>rfl
   | some k=>
    unfold World.cell? at h
    split at h
    .simp [hq] at h
    all_goals simp_all
  have⟨b,o,sp⟩:=a;simp only at hs;subst hs;exact⟨by simpa using h,fun _=>rfl⟩
 .have e:a.add i=⟨a.block,a.off+i,Gs⟩:=by simp[Addr.add,hi]
  rw[e] at h;exact⟨h,fun h=>(hi h).elim⟩
def aow(a:uX)(i:Nat):(a.add i).block=a.block:=by unfold Addr.add;split<;>rfl
def asH(a:uX)(i:Nat):(a.add i).off=a.off+i:=by unfold Addr.add;split<;>simp_all
def OI{α β:Type}{f:α->Option β}:∀{l:List α} {r:List β},l.mapM f=Gr r->r.length=l.length
 | [],r,h=>by simp only[yaR,vn,yc] at h;subst h;rfl
 | x::l,r,h=>by
  rw[ta] at h
  cases h1:f x with
  | none=>simp[h1] at h
  | some y=>
   cases h2:l.mapM f with
   | none=>simp[h1,h2] at h
   | some ys=>
    simp only[h1,h2,wT,ug,vn,yc] at h;subst h;simp[OI h2]
def aqu{c:AV}{l:List AV}{b o:Nat}(h:cd ae m S w (c::l) b o):b<w.heap.size:=by
 have⟨⟨u,h1,_⟩,_⟩:=h;unfold World.cell? at h1
 cases hq:w.heap[b]? with
 | none=>simp[hq] at h1
 | some o=>exact (xC.1 hq).1
def Ut{e:yF}{bq sz:Nat}{f:xX H->List AV}{a:uX}(eS:0<sz)(IH:∀(cs:List yj) (d:xX H) (ps:List wZ),DataW.trod enc P w 0 (fun _=>ydy) held bq e cs=Gr (d,ps)->aE ae m S w (f d) cs/\aH (f d)=ydy/\cs.length=sz):
  ∀(k j:Nat) (xs:List (xX H×List wZ)),(wq j k).mapM (fun i=>(w.cells? 0 (a.add (i*sz)) sz).bind (DataW.trod enc P w 0 (fun _=>ydy) held bq e))=Gr xs->
   cd ae m S w ((xs.map (·.1)).flatMap f) a.block (a.off+j*sz)/\aH ((xs.map (·.1)).flatMap f)=ydy/\((xs.map (·.1)).flatMap f).length=k*sz/\xs.length=k/\(0<k->a.spot=Gs\/0<j)
 | 0,j,xs,h=>by
  simp only[ybQ,yaR,vn,yc] at h;subst h;simp[cd,aH]
 | k+1,j,xs,h=>by
  rw[ua,ta] at h
  cases h1:(w.cells? 0 (a.add (j*sz)) sz) with
  | none=>simp[h1] at h
  | some us=>
   cases h2:DataW.trod enc P w 0 (fun _=>ydy) held bq e us with
   | none=>simp[h1,h2] at h
   | some x=>
    cases h3:(wq (j+1) k).mapM (fun i=>(w.cells? 0 (a.add (i*sz)) sz).bind (DataW.trod enc P w 0 (fun _=>ydy) held bq e)) with
    | none=>simp[h1,h2,h3] at h
    | some ys=>
     simp only[h1,h2,h3,wT,ug,vn,yc] at h;subst h;have⟨d,ps⟩:=x;have⟨g1,g2,g3⟩:=IH us d ps h2;have⟨k1,k2,k3,k4,_⟩:=Ut eS IH k (j+1) ys h3;have⟨_,c2,c3⟩:=World.cells?_some h1;have hl:(f d).length=sz:=by rw[acE g1,g3]
     have hc:∀(i:Nat) (u:yj),us[i]? =Gr u->w.cell? ⟨a.block,a.off+j*sz+i,Gs⟩=Gr u:=by
      intro i u hi;have Cd:i<sz:=by grind
      have h:=c3 i Cd;rw[hi] at h
      have:=(aeK h).1
      rwa[aow,asH] at this
     refine⟨?_,?_,?_,by simp[k4],?_⟩
     .simp only [yV,ybH];refine acD (GD _ us _ g1 hc) ?_
      grind
     .simp only [yV,ybH];exact Ot g2 k2
     .grind
     .intro _;rcases xj j with hj | hj
      .left
       have h:=c3 0 eS;have hu:us[0]? =Gr us[0]:=by simp_all
       rw[hu] at h
       have:=(aeK h).2 rfl
       subst hj;simpa[Addr.add] using this
      .grind
def abO{bq N:Nat}{n:Nat}{cs:List yj}(hN:cs.length=N)(IH:∀(t:yF) (cs:List yj) (d:xX H) (ps:List wZ),flat P n t=ydy->DataW.trod enc P w 0 (fun _=>ydy) held bq t cs=Gr (d,ps)->aE ae m S w (cV P n t d) cs/\aH (cV P n t d)=ydy/\cs.length=P.cellsOf t):
  ∀(r:List uj) (o:Nat) (xs:List (xX H×List wZ)),Gx P (fun u=>flat P n u) r o N=ydy->r.mapM (fun f=>DataW.trod enc P w 0 (fun _=>ydy) held bq f.type ((cs.drop f.offset).take (P.cellsOf f.type)))=Gr xs->
   aE ae m S w ((r.zip (xs.map (·.1))).flatMap fun x=>cV P n x.1.type x.2) (cs.drop o)/\aH ((r.zip (xs.map (·.1))).flatMap fun x=>cV P n x.1.type x.2)=ydy
 | [],o,xs,hf,h=>by
  have:=yi hf
  rw[xb (by lia)];simp[aE,aH]
 | f::r,o,xs,hf,h=>by
  simp only[Gx,yf] at hf;have⟨e1,e2,e3⟩:=hf;have e1:=yi e1;rw[ta] at h
  cases h2:DataW.trod enc P w 0 (fun _=>ydy) held bq f.type ((cs.drop f.offset).take (P.cellsOf f.type)) with
  | none=>simp[h2] at h
  | some x=>
   cases h3:r.mapM (fun f=>DataW.trod enc P w 0 (fun _=>ydy) held bq f.type ((cs.drop f.offset).take (P.cellsOf f.type))) with
   | none=>simp[h2,h3] at h
   | some ys=>
    simp only[h2,h3,wT,ug,vn,yc] at h;subst h;have⟨d,ps⟩:=x;have⟨g1,g2,g3⟩:=IH f.type _ d ps e2 h2;have⟨k1,k2⟩:=abO hN IH r _ ys e3 h3;rw[e1] at g1;have e:cs.drop o=(cs.drop o).take (P.cellsOf f.type)++cs.drop (o+P.cellsOf f.type):=by rw[<-vV];exact (wo _ _).symm
    rw[e];exact⟨nK g1 k1,Ot g2 k2⟩
def aeL{bq sz:Nat}{e:yF}{f:xX H->List AV}{cs:List yj}(IH:∀(cs:List yj) (d:xX H) (ps:List wZ),DataW.trod enc P w 0 (fun _=>ydy) held bq e cs=Gr (d,ps)->aE ae m S w (f d) cs/\aH (f d)=ydy/\cs.length=sz):
  ∀(k j:Nat) (xs:List (xX H×List wZ)),(wq j k).mapM (fun i=>DataW.trod enc P w 0 (fun _=>ydy) held bq e ((cs.drop (i*sz)).take sz))=Gr xs->cs.length=(j+k)*sz->
   aE ae m S w ((xs.map (·.1)).flatMap f) (cs.drop (j*sz))/\aH ((xs.map (·.1)).flatMap f)=ydy
 | 0,j,xs,h,hl=>by
  simp only[ybQ,yaR,vn,yc] at h;subst h;rw[xb (by rw[hl];simp)]
  simp[aE,aH]
 | k+1,j,xs,h,hl=>by
  rw[ua,ta] at h
  cases h2:DataW.trod enc P w 0 (fun _=>ydy) held bq e ((cs.drop (j*sz)).take sz) with
  | none=>simp[h2] at h
  | some x=>
   cases h3:(wq (j+1) k).mapM (fun i=>DataW.trod enc P w 0 (fun _=>ydy) held bq e ((cs.drop (i*sz)).take sz)) with
   | none=>simp[h2,h3] at h
   | some ys=>
    simp only[h2,h3,wT,ug,vn,yc] at h;subst h;have⟨d,ps⟩:=x;have⟨g1,g2,g3⟩:=IH _ d ps h2;have⟨k1,k2⟩:=aeL IH k (j+1) ys h3 (by rw[hl];congr 1;lia)
    have e:cs.drop (j*sz)=(cs.drop (j*sz)).take sz++cs.drop ((j+1)*sz):=by rw[we,yah,<-vV];exact (wo _ _).symm
    rw[e];exact⟨nK g1 k1,Ot g2 k2⟩
def adx(hS:∀b,b<w.heap.size->S b):∀(n bq:Nat) (t:yF) (cs:List yj) (d:xX H) (ps:List wZ),flat P n t=ydy->DataW.trod enc P w 0 (fun _=>ydy) held bq t cs=Gr (d,ps)->
  aE ae m S w (cV P n t d) cs/\aH (cV P n t d)=ydy/\cs.length=P.cellsOf t
 | 0,bq,t,cs,d,ps,hf,h=>by simp[flat] at hf
 | n+1,0,t,cs,d,ps,hf,h=>by simp[DataW.trod] at h
 | n+1,bq+1,t,cs,d,ps,hf,h=>by
  have IH:=adx hS n bq;unfold DataW.trod at h;simp only[flat] at hf
  split at h
  .rename_i hu;simp only[hu] at hf;simp only[yc,yr] at h;obtain⟨rfl,rfl⟩:=h;simp only[cV,hu];exact⟨by simp[aE,af],by simp[aH,aV],by rw[yi hf];rfl⟩
  .rename_i hu;simp only[hu] at hf
   split at h
   .rename_i hk;simp only[yc,yr] at h;obtain⟨rfl,rfl⟩:=h;simp only[cV,hu];refine⟨?_,by simp[aH,aV],by rw[yi hf];rfl⟩
    rw[hk.1];simp[aE,af]
   .cases h
  .rename_i hu;simp only[hu] at hf
   split at h
   .rename_i hk;simp only[yc,yr] at h;obtain⟨rfl,rfl⟩:=h;simp only[cV,hu];refine⟨?_,by simp[aH,aV],by rw[yi hf];rfl⟩
    rw[hk.1];simp[aE,af]
   .cases h
  .rename_i hu;simp only[hu] at hf
   split at h
   .simp only [yc,yr] at h;obtain⟨rfl,rfl⟩:=h;simp only[cV,hu];refine⟨?_,by simp[aH,aV],by rw[yi hf];rfl⟩
    simp only[aE,af];exact⟨_,_,rfl,⟨_,rfl,rfl⟩,rfl⟩
   .cases h
  .rename_i hu;simp[hu] at hf
  .rename_i hu;simp[hu] at hf
  .rename_i hu;simp only[hu,yf] at hf;simp only[yc,yr] at h;obtain⟨rfl,rfl⟩:=h;simp only[cV,hu];exact⟨by simp[aE,af],by simp[aH,aV],by rw[yi hf.1];rfl⟩
  .rename_i e a len cap hu;simp only[hu,yf] at hf;have⟨f1,f2,f3⟩:=hf;have eS:=rL.1 f2;simp only at h
   split at h
   case isFalse=>cases h
   rename_i hc;simp only[xS] at h
   cases h1:(wR len).mapM fun i=>(w.cells? 0 (a.add (i*P.cellsOf e)) (P.cellsOf e)).bind (DataW.trod enc P w 0 (fun _=>ydy) held bq e) with
   | none=>rw[h1] at h;simp at h
   | some lB=>
    cases h2:(wR (cap-len)).mapM fun j=>(w.cells? 0 (a.add ((len+j)*P.cellsOf e)) (P.cellsOf e)).bind (DataW.trod enc P w 0 (fun _=>ydy) held bq e) with
    | none=>rw[h1] at h;simp[h2] at h
    | some rest=>
     rw[h1] at h;simp only[wT,h2,vd,yc,yr] at h;obtain⟨rfl,rfl⟩:=h;have hIH:=fun cs d ps h=>IH e cs d ps f3 h
     rw[ybk] at h1 h2;have⟨k1,k2,k3,k4,k5⟩:=Ut (ae:=ae) (m:=m) (S:=S) eS hIH len 0 lB h1;have No:rest.length=cap-len:=by rw[OI h2];simp
     have gJ:cap≠0->a.spot=Gs:=by
      intro XQ;rcases xj len with h0 | h0
      .subst h0;simp only[ye,ycQ] at h2;have⟨_,_,_,_,q5⟩:=Ut (ae:=ae) (m:=m) (S:=S) eS hIH cap 0 rest h2;exact (q5 (by lia)).resolve_right (by lia)
      .exact (k5 h0).resolve_right (by lia)
     simp only[cV,hu,yU];refine⟨?_,by simp[aH,aV],by rw[yi f1];rfl⟩
     simp only[aE];refine⟨_,_,rfl,?_,rfl⟩;simp only[af];by_cases XQ:cap=0
     .subst XQ;have kT:len=0:=by lia
      subst kT;have he:lB=[]:=yD k4;subst he;exact .inr ⟨a,rfl,rfl,rfl⟩
     .have ⟨b,o,sp⟩:=a;have gJ:=gJ XQ;simp only at gJ;subst gJ;refine .inl ⟨b,o,cap,by rw[k4],by lia,fun hx=>?_,?_,k2,by simpa using k1⟩
      .have:rest.length=0:=by simpa using hx
       lia
      .generalize hg:((lB.map (·.1)).flatMap fun x=>cV P n e x)=l at k1
       cases l with
       | nil=>exact .inl rfl
       | cons c l=>exact .inr (hS b (aqu k1))
  .rename_i A5 x1 Np fs hu;simp only[hu] at hf
   split at h
   case isFalse=>cases h
   rename_i hlen
   cases h1:fs.toList.mapM fun f=>DataW.trod enc P w 0 (fun _=>ydy) held bq f.type ((A5.drop f.offset).take (P.cellsOf f.type)) with
   | none=>rw[h1] at h;simp at h
   | some xs=>
    rw[h1] at h;simp only[vd,yc,yr] at h;obtain⟨rfl,rfl⟩:=h;have⟨k1,k2⟩:=abO hlen (fun t cs d ps hf h=>IH t cs d ps hf h) fs.toList 0 xs hf h1;simp only[cV,hu];exact⟨by simpa using k1,k2,hlen⟩
  .rename_i A5 x1 Np k e hu;simp only[hu,yf] at hf;have⟨f1,f2⟩:=hf;have f1:=yi f1
   split at h
   case isFalse=>cases h
   rename_i hlen
   cases h1:(wR k).mapM fun i=>DataW.trod enc P w 0 (fun _=>ydy) held bq e ((A5.drop (i*P.cellsOf e)).take (P.cellsOf e)) with
   | none=>rw[h1] at h;simp at h
   | some xs=>
    rw[h1] at h;simp only[vd,yc,yr] at h;obtain⟨rfl,rfl⟩:=h;rw[ybk] at h1;have⟨k1,k2⟩:=aeL (ae:=ae) (m:=m) (S:=S) (fun cs d ps h=>IH e cs d ps f2 h) k 0 xs h1 (by rw[hlen,f1];simp)
    simp only[cV,hu];exact⟨by simpa using k1,k2,hlen⟩
  all_goals first
   | (cases h;done)
   | (simp_all;done)
def mZ(P:xA)(n:Nat)(t:yF)(d:xX H):AV:=
 match P.underlying t with
 | some (.struct _) | some (.array _ _)=>.agg (cV P n t d)
 | _=>(cV P n t d).headD .undef
def asI(hS:∀b,b<w.heap.size->S b){n:Nat}{t:yF}{v:yj}{d:xX H}{ps:List wZ}(hf:flat P n t=ydy)(h:DataW.Trod enc P w 0 (fun _=>ydy) held t v d ps)(hv:Value.okWide P w .any base t v):af ae m S w (mZ P n t d) v/\aV (mZ P n t d)=ydy:=by
 have⟨bq,h⟩:=h;have⟨h1,h2,h3⟩:=adx (ae:=ae) (m:=m) hS n bq t _ d ps hf h;have one:v.cells=#[v]->(∀fs,P.underlying t≠Gr (.struct fs))->(∀k e,P.underlying t≠Gr (.array k e))->af ae m S w (mZ P n t d) v/\aV (mZ P n t d)=ydy:=by
  intro hc Iq hna;have e:mZ P n t d=(cV P n t d).headD .undef:=by
   unfold mZ
   grind
  rw[e];rw[hc] at h1;generalize cV P n t d=l at h1 h2
  cases l with
  | nil=>simp[aE] at h1
  | cons x l=>
   simp only[aE] at h1;simp only[aH,yf] at h2
   grind
 cases n with
 | zero=>simp[flat] at hf
 | succ n=>
  unfold Value.okWide at hv;simp only[flat] at hf
  cases hu:P.underlying t with
  | none=>simp[hu] at hf
  | some ty=>
   rw[hu] at hv hf;cases ty<;>simp only[yH] at hf hv
   case struct fs=>
    obtain⟨cs,rfl,_,_⟩:=hv;have e:mZ P (n+1) t d=.agg (cV P (n+1) t d):=by simp only[mZ,hu]
    rw[e];exact⟨by simp only[af];exact⟨cs,rfl,h1⟩,by simpa only[aV] using h2⟩
   case array k e=>
    obtain⟨cs,rfl,_,_⟩:=hv;have e:mZ P (n+1) t d=.agg (cV P (n+1) t d):=by simp only[mZ,hu]
    rw[e];exact⟨by simp only[af];exact⟨cs,rfl,h1⟩,by simpa only[aV] using h2⟩
   all_goals
    refine one ?_ (by simp[hu]) (by simp[hu])
    cases v with
    | agg cs=>exfalso;simp only[Cell.okWide,Cell.ok,hu] at hv
    | _=>rfl
def BD(P:xA)(n:Nat):List yF->List (xX H)->List AV
 | t::ts,d::ds=>mZ P n t d::BD P n ts ds
 | _,_=>[]
def ady(hS:∀b,b<w.heap.size->S b){n base:Nat}:∀{ts:List yF} {vs:List yj} {ds:List (xX H)} {ps:List wZ},ts.all (flat P n)=ydy->DataW.TrodAll enc P w 0 (fun _=>ydy) held ts vs ds ps->
  (∀(j:Nat) t v,ts[j]? =Gr t->vs[j]? =Gr v->Value.okWide P w .any base t v)->aE ae m S w (BD P n ts ds) vs/\aH (BD P n ts ds)=ydy
 | [],[],[],_,_,_,_=>by simp[BD,aE,aH]
 | t::ts,v::vs,d::ds,ps,hf,h,hv=>by
  simp only[yau,yf] at hf;have⟨p,q,h1,h2,_⟩:=h;have⟨a1,a2⟩:=asI (ae:=ae) (m:=m) hS hf.1 h1 (hv 0 t v rfl rfl);have⟨b1,b2⟩:=ady hS hf.2 h2 (fun j t v h1 h2=>hv (j+1) t v h1 h2);simp only[BD,aE,aH,yf]
  grind
 | [],_::_,_,_,_,h,_=>by simp[DataW.TrodAll] at h
 | [],[],_::_,_,_,h,_=>by simp[DataW.TrodAll] at h
 | _::_,[],_,_,_,h,_=>by simp[DataW.TrodAll] at h
 | _::_,_::_,[],_,_,h,_=>by simp[DataW.TrodAll] at h
end
end
section
open Go
section
variable {H:Type}{enc:yF×yj->H}{P:xA}{w w':yo}{held:Bool}{sp:Nat->Bool}
def anp(hs:∀b,b<w.heap.size->w'.heap[b]? =w.heap[b]?){a:uX}{u:yj}(h:w.cell? a=Gr u):w'.cell? a=Gr u:=by
 unfold World.cell? at h ⊢
 grind
def amU(hs:∀b,b<w.heap.size->w'.heap[b]? =w.heap[b]?){a:uX}{n:Nat}{us:List yj}(h:w.cells? base a n=Gr us):w'.cells? base a n=Gr us:=by
 unfold World.cells? at h ⊢
 split at h
 .rename_i hb;rw[yE hb];exact mapM_carry h (fun x y _ _ hx=>anp hs hx)
 .cases h
def asJ{a:uX}{n:Nat}(h:0<n):MemPlace.cell a.block (a.off+0)∈MemPlace.row a n:=by
 unfold MemPlace.row
 simp_all
def abP(hs:∀b,b<w.heap.size->w'.heap[b]? =w.heap[b]?):∀(n bq:Nat) (t:yF) (cs:List yj) (d:xX H) (ps:List wZ),flat P n t=ydy->DataW.trod enc P w 0 (fun _=>ydy) held bq t cs=Gr (d,ps)->
  (∀p,p∈ps->sp p.block=ydy)->DataW.trod enc P w' 0 sp held bq t cs=Gr (d,ps)
 | 0,bq,t,cs,d,ps,hf,h,hp=>by simp[flat] at hf
 | n+1,0,t,cs,d,ps,hf,h,hp=>by simp[DataW.trod] at h
 | n+1,bq+1,t,cs,d,ps,hf,h,hp=>by
  have IH:=abP hs n bq;have elem:∀{e:yF} {a:uX} {y:xX H×List wZ},flat P n e=ydy->(w.cells? 0 a (P.cellsOf e)).bind (DataW.trod enc P w 0 (fun _=>ydy) held bq e)=Gr y->(∀p,p∈y.2->sp p.block=ydy)->
    (w'.cells? 0 a (P.cellsOf e)).bind (DataW.trod enc P w' 0 sp held bq e)=Gr y:=by
   intro e a y he h hq
   cases h1:w.cells? 0 a (P.cellsOf e) with
   | none=>simp[h1] at h
   | some us=>
    rw[h1] at h;rw[amU hs h1]
    grind
  unfold DataW.trod at h ⊢;simp only[flat] at hf
  split at h
  .grind
  .grind
  .grind
  .grind
  .grind
  .grind
  .grind
  .rename_i e a len cap hu;simp only[hu,yf] at hf;obtain⟨f1,f2,f3⟩:=hf;have eS:=rL.1 f2;simp only at h ⊢
   split at h
   case isFalse=>cases h
   rename_i hc;rw[yE hc];simp only[xS] at h
   cases h1:(wR len).mapM fun i=>(w.cells? 0 (a.add (i*P.cellsOf e)) (P.cellsOf e)).bind (DataW.trod enc P w 0 (fun _=>ydy) held bq e) with
   | none=>rw[h1] at h;simp at h
   | some lB=>
    cases h2:(wR (cap-len)).mapM fun j=>(w.cells? 0 (a.add ((len+j)*P.cellsOf e)) (P.cellsOf e)).bind (DataW.trod enc P w 0 (fun _=>ydy) held bq e) with
    | none=>rw[h1] at h;simp[h2] at h
    | some rest=>
     rw[h1] at h;simp only[wT,h2,vd,yc,yr] at h;obtain⟨rfl,rfl⟩:=h;have k1:((wR len).mapM fun i=>(w'.cells? 0 (a.add (i*P.cellsOf e)) (P.cellsOf e)).bind (DataW.trod enc P w' 0 sp held bq e))=Gr lB:=
      mapM_carry h1 (fun x y _ hy hx=>elem f3 hx (fun p hq=>hp p (uD _ (tB.2 ⟨y,tU _ hy,hq⟩))))
     have k2:((wR (cap-len)).mapM fun j=>(w'.cells? 0 (a.add ((len+j)*P.cellsOf e)) (P.cellsOf e)).bind (DataW.trod enc P w' 0 sp held bq e))=Gr rest:=
      mapM_carry h2 (fun x y _ hy hx=>elem f3 hx (fun p hq=>hp p (uD _ (tB.2 ⟨y,uD _ hy,hq⟩))))
     have hr:(if sp a.block=ydy then (wR (cap-len)).mapM fun j=>(w'.cells? 0 (a.add ((len+j)*P.cellsOf e)) (P.cellsOf e)).bind (DataW.trod enc P w' 0 sp held bq e) else Gr [])=Gr rest:=by
      by_cases gJ:sp a.block=ydy
      .rw [yE gJ];exact k2
      .rw [yp gJ];have h0:¬0<(lB.length+rest.length)*P.cellsOf e:=fun h0=>gJ (hp _ (tU _ (asJ h0)))
       have hz:lB.length+rest.length=0:=by
        rcases xj (lB.length+rest.length) with h | h
        .exact h
        .exact (h0 (wV h eS)).elim
       have:rest=[]:=yD (by omega)
       rw[this]
     rw[k1];simp only[wT];rw[hr];rfl
  .rename_i A5 x1 Np fs hu;simp only[hu] at hf
   split at h
   case isFalse=>cases h
   rename_i hlen;rw[yE hlen]
   cases h1:fs.toList.mapM fun f=>DataW.trod enc P w 0 (fun _=>ydy) held bq f.type ((A5.drop f.offset).take (P.cellsOf f.type)) with
   | none=>rw[h1] at h;simp at h
   | some xs=>
    rw[h1] at h;simp only[vd,yc,yr] at h;obtain⟨rfl,rfl⟩:=h;have mN:∀(r:List uj) (o:Nat),Gx P (fun u=>flat P n u) r o (P.cellsOf t)=ydy->∀f,f∈r->flat P n f.type=ydy:=by
     intro r
     induction r with
     | nil=>intro o _ f hm;cases hm
     | cons g r ih=>
      intro o hq f hm;simp only[Gx,yf] at hq;rcases List.mem_cons.1 hm with rfl | hm
      .exact hq.2.1
      .exact ih _ hq.2.2 f hm
    have k1:(fs.toList.mapM fun f=>DataW.trod enc P w' 0 sp held bq f.type ((A5.drop f.offset).take (P.cellsOf f.type)))=Gr xs:=
     mapM_carry h1 (fun f y hm hy hx=>IH _ _ y.1 y.2 (mN _ _ hf f hm) hx (fun p hq=>hp p (tB.2 ⟨y,hy,hq⟩)))
    rw[k1];rfl
  .rename_i A5 x1 Np k e hu;simp only[hu,yf] at hf
   split at h
   case isFalse=>cases h
   rename_i hlen;rw[yE hlen]
   cases h1:(wR k).mapM fun i=>DataW.trod enc P w 0 (fun _=>ydy) held bq e ((A5.drop (i*P.cellsOf e)).take (P.cellsOf e)) with
   | none=>rw[h1] at h;simp at h
   | some xs=>
    rw[h1] at h;simp only[vd,yc,yr] at h;obtain⟨rfl,rfl⟩:=h;have k1:((wR k).mapM fun i=>DataW.trod enc P w' 0 sp held bq e ((A5.drop (i*P.cellsOf e)).take (P.cellsOf e)))=Gr xs:=
     mapM_carry h1 (fun i y _ hy hx=>IH _ _ y.1 y.2 hf.2 hx (fun p hq=>hp p (tB.2 ⟨y,hy,hq⟩)))
    rw[k1];rfl
  all_goals first
   | (cases h;done)
   | (simp_all;done)
def aaW(hs:∀b,b<w.heap.size->w'.heap[b]? =w.heap[b]?){n:Nat}:∀{ts:List yF} {vs:List yj} {ds:List (xX H)} {ps:List wZ},ts.all (flat P n)=ydy->DataW.TrodAll enc P w 0 (fun _=>ydy) held ts vs ds ps->
  (∀p,p∈ps->sp p.block=ydy)->DataW.TrodAll enc P w' 0 sp held ts vs ds ps
 | [],[],[],ps,_,h,_=>by simpa only[DataW.TrodAll] using h
 | t::ts,v::vs,d::ds,ps,hf,h,hp=>by
  simp only[yau,yf] at hf;obtain⟨p,q,⟨bq,h1⟩,h2,rfl⟩:=h;exact⟨p,q,⟨bq,abP hs n bq t _ d p hf.1 h1 (fun x hx=>hp x (tU _ hx))⟩,aaW hs hf.2 h2 (fun x hx=>hp x (uD _ hx)),rfl⟩
 | [],_::_,_,_,_,h,_=>by simp[DataW.TrodAll] at h
 | [],[],_::_,_,_,h,_=>by simp[DataW.TrodAll] at h
 | _::_,[],_,_,_,h,_=>by simp[DataW.TrodAll] at h
 | _::_,_::_,[],_,_,h,_=>by simp[DataW.TrodAll] at h
end
end
section
open Go Go.ChangeShapes Go.WideShapes
section
variable {H:Type}{enc:yF×yj->H}{P:xA}{W W':yo}
def aox(hc:Calm W W')(may:wZ->Prop):W.keptBut W' may:=by
 refine⟨hc.os,hc.output,fun i hi=>?_⟩;rw[hc.same i hi]
 cases hq:W.heap[i]? with
 | none=>rfl
 | some o=>cases o<;>simp
def amV(hc:Calm W W'){b off:Nat}(hb:b<W.heap.size):W'.frozen? ⟨b,off,Gs⟩=W.frozen? ⟨b,off,Gs⟩:=by
 unfold World.frozen?;rw[hc.same b hb]
def aqv{fn:Func}{s:ycR}{args:Array yj}{ds gs:List (xX H)}{before:List wZ}{n:Nat}{tb:yF}(hW:DataW.Whole enc P fn.params.toList s.vars apart W args.toList ds gs before)(hv:s.vars=[])(Qk:fn.params.toList.all (flat P n)=ydy)(hc:Calm W W')(mQ:s.fn H (ds++gs)={results:=[.lit (.bool ydy)],args:=ds})(zI:fn.resultTypes=#[tb])(mu:P.underlying tb=Gr .bool):
  s.post enc P fn apart fresh handsOn again W args (.bool ydy) W':=by
 have aG:=hW.lt;have hW0:=hW;obtain⟨p,q,hA,hV,hpq,hz,hn⟩:=hW;rw[hv] at hV;have hq:gs=[]/\q=[]:=by
  cases gs with
  | nil=>exact⟨rfl,by simpa only[DataW.TrodVars] using hV⟩
  | cons g gs=>simp[DataW.TrodVars] at hV
 obtain⟨rfl,rfl⟩:=hq;have hbp:before=p:=by simp_all
 subst hbp;have fj:∀sp:Nat->Bool,(∀p∈before,sp p.block=ydy)->DataW.TrodAll enc P W' 0 sp ydy fn.params.toList args.toList ds before:=fun sp h=>aaW hc.same Qk hA h
 have ag5:∀(b:Nat) (sp:Nat->Bool) (hd:Bool),DataW.TrodAll enc P W' b sp hd fn.resultTypes.toList ((Value.bool ydy).resultList fn.resultTypes.size) [.lit (.bool ydy)] []:=by
  intro b sp hd;rw[zI];refine⟨[],[],⟨1,?_⟩,rfl,rfl⟩;simp[DataW.trod,mu,Value.cells]
 have hold:∀p∈before,(fun b=>decide (b<W.heap.size)) p.block=ydy:=fun p hp=>by simpa using aG p hp
 have ag6:∀sp:Nat->Bool,DataW.TrodVars enc P W' sp s.vars ([]:List (xX H)) []:=fun sp=>by rw[hv];rfl
 refine⟨ds,[],before,[],before,[],hW0,by rw[mQ];exact ag5 _ _ _,by rw[mQ];exact fj _ hold,by rw[mQ];exact ag6 _,aox hc _,fun _=>?_⟩
 refine⟨?_,[.lit (.bool ydy)]++ds,[],[]++before++[],⟨[]++before,[],trodAll_append (fj _ (fun _ _=>rfl)) (ag5 _ _ _),ag6 _,rfl,?_,?_⟩,?_⟩
 .intro j t r h1 h2;rw[zI] at h1 h2
  cases j with
  | zero=>
   simp only[List.getElem?_toArray,uC,yc] at h1;simp only[Value.resultList,List.size_toArray,yB,yM,xS,ye,uC,yc] at h2;subst h1;subst h2;simp[Value.okWide,mu,Cell.okWide,Cell.ok]
  | succ j=>simp at h1
 .intro b off hp;have hp:MemPlace.cell b off∈before:=by grind
  rw[amV hc (b:=b) (aG _ hp)];exact hz b off hp
 .grind
 .grind
def aoy{O:bC}{n k:Nat}{fn:Func}{s:ycR}{args:Array yj}{ds gs:List (xX H)}{before:List wZ}{tb:yF}(hp:eJ O n (BD O.P k fn.params.toList ds) (.bool ydy))(DW:O.w0=W)(mQ:O.P.funcs[O.ae n]? =Gr fn)(hb:fn.body.isSome=ydy)(sM:fn.name≠ "runtime.NumGoroutine")(aK:∀(j:Nat) t v,fn.params[j]? =Gr t->args[j]? =Gr v->Value.okWide O.P W .any base t v)(hW:DataW.Whole enc O.P fn.params.toList s.vars apart W args.toList ds gs before)(hv:s.vars=[])(Qk:fn.params.toList.all (flat O.P k)=ydy)(hfs:s.fn H (ds++gs)={results:=[.lit (.bool ydy)],args:=ds})(zI:fn.resultTypes=#[tb])(mu:O.P.underlying tb=Gr .bool):
  Calls O.P (O.ae n) args W fun e W'=>∃v,e=.returned v/\s.post enc O.P fn apart fresh handsOn again W args v W':=by
 have hA:=hW;obtain⟨p,q,hA,_⟩:=hA;obtain⟨h1,h2⟩:=ady (ae:=O.ae) (m:=fA) (S:=fun b=>b<W.heap.size) (fun b hb=>hb) Qk hA (fun j t v a b=>aK j t v (by simpa using a) (by simpa using b));have hi:=hp W (fun b=>b<W.heap.size) args ⟨fun b _=>by rw[DW],by rw[DW];exact yx _⟩ (fun b hb=>hb) h1 h2
 have key:∀e W',adg O W (fun b=>b<W.heap.size) (.bool ydy) e W'->∃v,e=.returned v/\s.post enc O.P fn apart fresh handsOn again W args v W':=by
  rintro e W' ⟨u,S',rfl,hc,_,_,_,hr⟩;obtain⟨_,_,hu,_⟩:=hr;subst hu;exact⟨_,rfl,aqv hW hv Qk hc hfs zI mu⟩
 rcases hi with ⟨_,hi⟩ | ⟨u,w',hi,_⟩
 .exact callsIn_wide.1 (hi.mono key)
 .rw [GG mQ hb sM] at hi;cases hi
end
end
namespace J1
open Go Go.Proofs
noncomputable def O(W:yo):bC:=⟨Tryz.prog,VE.aJ,BR mP.ae,VE.prog,Qe mP.br mP.hd,W⟩
def acF{w:yo}{k:Nat}{os:Array Go.Obj}:Calm w (Go.Sort.grow (w.drewN k) os):=JQ (Lib.below_grow w.heap.size w (yx _) k os)
def adz{W w:yo}(h:Lib.TabIs Tryz.prog W "internal/strconv.uint64pow10" .u64 Lib.pow10Tab)(hg:Db (O W) w):Lib.TabIs Tryz.prog w "internal/strconv.uint64pow10" .u64 Lib.pow10Tab:=by
 unfold Lib.TabIs World.var? at h ⊢
 cases hn:Tryz.prog.globalNamed "internal/strconv.uint64pow10" with
 | none=>rw[hn] at h;exact h
 | some g=>
  rw[hn] at h;simp only[wT] at h ⊢;have hb:g<W.heap.size:=by
   cases hq:W.heap[g]? with
   | none=>rw[hq] at h;cases h
   | some o=>exact (xC.1 hq).1
  rw[hg.1 g hb];exact h
def aA7:∀args w,(callFunc 145 args).run Tryz.prog w=.ok (.enter 145 args) w:=enters_of Tryz.func145 (by kernel_rfl) rfl
def aA8:∀args w,(callFunc 212 args).run Tryz.prog w=.ok (.enter 212 args) w:=enters_of Tryz.func212 (by kernel_rfl) rfl
def aA9:∀args w,(callFunc 249 args).run Tryz.prog w=.ok (.enter 249 args) w:=enters_of Tryz.func249 (by kernel_rfl) rfl
def aBa:∀args w,(callFunc 251 args).run Tryz.prog w=.ok (.enter 251 args) w:=enters_of Tryz.func251 (by kernel_rfl) rfl
def aBb:∀args w,(callFunc 252 args).run Tryz.prog w=.ok (.enter 252 args) w:=enters_of Tryz.func252 (by kernel_rfl) rfl
def aBc:∀args w,(callFunc 225 args).run Tryz.prog w=.ok (.enter 225 args) w:=enters_of Tryz.func225 (by kernel_rfl) rfl
def aBd:∀args w,(callFunc 218 args).run Tryz.prog w=.ok (.enter 218 args) w:=enters_of Tryz.func218 (by kernel_rfl) rfl
def aBe:∀args w,(callFunc 219 args).run Tryz.prog w=.ok (.enter 219 args) w:=enters_of Tryz.func219 (by kernel_rfl) rfl
def aBf:∀args w,(callFunc 220 args).run Tryz.prog w=.ok (.enter 220 args) w:=enters_of Tryz.func220 (by kernel_rfl) rfl
def aBg:∀args w,(callFunc 266 args).run Tryz.prog w=.ok (.enter 266 args) w:=enters_of Tryz.func266 (by kernel_rfl) rfl
def aBh:∀args w,(callFunc 278 args).run Tryz.prog w=.ok (.enter 278 args) w:=enters_of Tryz.func278 (by kernel_rfl) rfl
def aBi:∀args w,(callFunc 259 args).run Tryz.prog w=.ok (.enter 259 args) w:=enters_of Tryz.func259 (by kernel_rfl) rfl
def asK(b:Nat)(w:yo):(callFunc 277 #[.float .f64 b]).run Tryz.prog w=.ok (.value (.int .u64 b)) w:=by
 rw[run_callFunc_extern Tryz.func277 (by kernel_rfl) (by kernel_rfl) (by kernel_rfl) (e:=Extern.MathFloatBits.float64bits) (by kernel_rfl)];rfl
def amW(b:Nat)(w:yo):(callFunc 276 #[.int .u64 b]).run Tryz.prog w=.ok (.value (.float .f64 b)) w:=by
 rw[run_callFunc_extern Tryz.func276 (by kernel_rfl) (by kernel_rfl) (by kernel_rfl) (e:=Extern.MathFloatBits.float64frombits) (by kernel_rfl)];rfl
def azw(W:yo)(n:Nat)(sp:List AV->Option AV):Prop:=∀aw r,sp aw=Gr r->eJ (O W) n aw r
section
variable {W:yo}{m:Int}(hm:W.cell? ⟨4,0,Gs⟩=Gr (.int .i64 m))(ht:Lib.TabIs Tryz.prog W "internal/strconv.uint64pow10" .u64 Lib.pow10Tab)
include hm ht
theorem awa:aie.mO (azw W):=
 (Tr.lA (aqm (O:=O W) (f:=220) (by rfl) aBf (fun s z w hl h=>(Tryz.strconv_Atoi s z hl h w).mono fun _ _ ⟨h1,t,h2⟩=>⟨h1,h2▸JQ (Lib.bytesWorld_below _ _ _)⟩))
  (Tr.lA (ann (O:=O W) (f:=252) (by rfl) aBb Tryz.strings_Repeat)
  (Tr.lA (aql (O:=O W) (f:=249) (by rfl) aA9 (fun z w h0 h1 hg=>(Tryz.strconv_Itoa z h0 h1 w (adz ht hg)).mono fun _ _ ⟨h1,k,os,h2⟩=>⟨h1,h2▸acF⟩))
  (Tr.lA (amf (O:=O W) (f:=212) (by rfl) aA8 Tryz.strings_CutPrefix)
  (Tr.lA (asr (O:=O W) (f:=145) (by rfl) aA7 (a:=⟨4,0,Gs⟩) (m:=m) hm (fun s sep w hs hc=>Tryz.strings_Cut s sep m w hs hc))
  Tr.jX Tr.jX) Tr.jX) (Tr.lA (amd (O:=O W) (f:=251) (by rfl) aBa (fun z w hz hg=>(Tryz.al4 z hz w (adz ht hg)).mono fun _ _ ⟨h1,k,os,h2⟩=>⟨h1,h2▸acF⟩))
  Tr.jX Tr.jX)) (Tr.lA (amg (O:=O W) (f:=218) (by rfl) aBd Tryz.strings_HasPrefix)
  (Tr.lA (aop (O:=O W) (f:=225) (by rfl) aBc (fun x y w hx hy=>Tryz.bits_Mul64 x y hx hy w))
  Tr.jX Tr.jX) (Tr.lA (amc (O:=O W) (f:=219) (by rfl) aBe Tryz.strings_TrimPrefix)
  Tr.jX Tr.jX))) (Tr.lA (aos (O:=O W) (f:=274) (by rfl) (fun x y b w h=>Tryz.bits_Sub64 x y b h w))
  (Tr.lA (aqn (O:=O W) (f:=278) (by rfl) aBh (fun x w h0 h1=>Tryz.bits_LeadingZeros64 x w h0 h1))
  (Tr.lA (aqk (O:=O W) (f:=266) (by rfl) aBg (fun s cs w hs dY ha=>Tryz.amv s cs w hs dY ha))
  Tr.jX Tr.jX) (Tr.lA (aor (O:=O W) (f:=272) (by rfl) (fun x y c w h=>Tryz.bits_Add64 x y c h w))
  Tr.jX Tr.jX)) (Tr.lA (amJ (O:=O W) (f:=277) (by rfl) asK)
  (Tr.lA (aoq (O:=O W) (f:=259) (by rfl) aBi (fun x w h0 h1=>Tryz.bits_Len64 x w h0 h1))
  Tr.jX Tr.jX) (Tr.lA (al9 (O:=O W) (f:=276) (by rfl) amW)
  Tr.jX Tr.jX))))
theorem asL:iZ (O W) where
 hint n f g h:=Tr.Et (p:=fun f g=>BR mP.ae g=f) (TR mP.avh) h
 mixed:=by kernel_rfl
 prog n F h:=Tr.Et mP.asG h
 aJ n sp aw r h hs:=Tr.Et (awa hm ht) h aw r hs
 Hw n sp hp ct aw v ap aO h:=by cases h
end
end J1
def bf:List Int->Int
 | []=>0
 | a::r=>if a=0 then bf r else a
def TD{l:List Int}{i:Nat}(h:i<l.length):bf (l.drop i)=if l[i]=0 then bf (l.drop (i+1)) else l[i]:=by
 rw[yS h,bf]
def pk(lo hi:Int):List Int->Bool
 | []=>ydz
 | a::r=>if a<lo\/hi<a then ydy else pk lo hi r
def ag7(n:Nat)(lo hi:Int):List (List Int)->Int
 | []=>0
 | r::s=>if r.length≠n then 2 else if pk lo hi r=ydy then 3 else ag7 n lo hi s
def aoz(s:List (List Int)):Int:=if s.length=0 then 12 else if 16<s.length then 5 else ag7 s.length (-1000) 1000 s
def adA{lo:Int}{l:List Int}(h:pk lo hi l=ydz):∀i (da:i<l.length),lo<=l[i]/\l[i]<=hi:=by
 induction l with
 | nil=>intro i da;exact absurd da (Nat.not_lt_zero _)
 | cons a r ih=>
  simp only[pk] at h
  grind
def aoA{lo:Int}{l:List Int}(h:pk lo hi l=ydz):∀i,pk lo hi (l.take i)=ydz:=by
 induction l with
 | nil=>intro i;simp[pk]
 | cons a r ih=>
  intro i;simp only[pk] at h
  split at h
  .grind
  .rename_i hc
   cases i with
   | zero=>simp[pk]
   | succ i=>simp only[List.take_succ_cons,pk,hc,xz,ih h i]
section
variable {x:Int}{a b l:List Int}
def dv:List Int->Nat
 | []=>0
 | a::r=>a.toNat+1000000000*dv r
def nL:∀(a b:List Int),dv (a++b)=dv a+1000000000^a.length*dv b
 | [],b=>by simp[dv]
 | x::a,b=>by
  simp only[xe,dv,nL a b,yB,xp,xJ]
  grind
def rO(i:Nat):dv (l.take (i+1))=dv (l.take i)+1000000000^i*(l.getD i 0).toNat:=by
 by_cases h:i<l.length
 .rw [xn h,nL,yP,xo (by lia)];simp[dv,y9,xu h]
 .rw [yK (by lia),yK (by lia)]
  grind
abbrev dg(l:List Int):Prop:=pk 0 999999999 l=ydz
def iY:dg (a++b)↔dg a/\dg b:=by
 induction a with
 | nil=>simp[dg,pk]
 | cons x a ih=>
  simp only[dg,xe,pk] at ih ⊢
  grind
def lm:dg [x]↔0<=x/\x<1000000000:=by
 simp only[dg,pk]
 grind
def jv(h:dg l)(i:Nat):0<=l.getD i 0/\l.getD i 0<1000000000:=by
 by_cases hi:i<l.length
 .have:=adA h i hi
  grind
 .grind
def EA(h:dg l)(i:Nat):dg (l.take i):=aoA h i
def lC:∀{l:List Int},dg l->dv l<1000000000^l.length
 | [],_=>by simp[dv]
 | x::l,h=>by
  have h':dg ([x]++l):=h;have⟨h1,h2⟩:=iY.1 h';have h1:=lm.1 h1
  have:=lC h2
  simp only[dv,yB,xp]
  lia
def eF:List Int->List Int
 | []=>[]
 | a::r=>match eF r with | []=>if a=0 then [] else [a] | t::q=>a::t::q
def JS:∀l:List Int,eF (l++[0])=eF l
 | []=>rfl
 | a::l=>by simp only[xe,eF,JS l]
def Ou{a:Int}(h:a≠0):∀l:List Int,eF (l++[a])=l++[a]
 | []=>by simp[eF,h]
 | b::l=>by
  simp only[xe,eF,Ou h l]
  cases hq:l++[a] with
  | nil=>simp at hq
  | cons t q=>rfl
def Br:∀l:List Int,dv (eF l)=dv l
 | []=>rfl
 | a::l=>by
  have ih:=Br l;simp only[eF,dv]
  split
  .rename_i h;rw[h] at ih
   split
   .rename_i h0;subst h0;simp[dv,<-ih]
   .simp [dv,<-ih]
  .rename_i t q h;rw[h] at ih;simp only[dv] at ih ⊢
   lia
def CK:∀{l:List Int},dg l->dg (eF l)
 | [],_=>rfl
 | a::l,h=>by
  have h':dg ([a]++l):=h;have⟨h1,h2⟩:=iY.1 h';have ih:=CK h2;simp only[eF]
  split
  .grind
  .rename_i t q hq;rw[hq] at ih
   exact (iY (a:=[a]) (b:=t::q)).2 ⟨h1,ih⟩
def OJ:∀l:List Int,(eF l).length<=l.length
 | []=>yx _
 | a::l=>by
  have ih:=OJ l;simp only[eF]
  grind
def snoc{α:Type}(l:List α):l=[]\/∃m a,l=m++[a]:=by
 rcases List.eq_nil_or_concat l with h | ⟨m,a,h⟩
 .grind
 .grind
def amX:∀(n:Nat) (l:List Int),l.length=n->eF (eF l)=eF l:=by
 intro n
 induction n with
 | zero=>intro l h;rw[yD h];rfl
 | succ n ih=>
  intro l h;rcases snoc l with rfl | ⟨m,a,rfl⟩
  .rfl
  .by_cases h0:a=0
   .subst h0;rw[JS]
    grind
   .rw [Ou h0,Ou h0]
def anq(l:List Int):eF (eF l)=eF l:=amX _ l rfl
abbrev nz(l:List Int):Prop:=eF l=l
def GL(l:List Int):nz (eF l):=anq l
def Ql(h:nz l)(hd:dg l)(h0:l≠[]):1000000000^(l.length-1)<=dv l:=by
 rcases snoc l with rfl | ⟨m,a,rfl⟩
 .grind
 .by_cases ha:a=0
  .subst ha
   have:=OJ m
   have e:=congrArg uE h;rw[JS] at e
   grind
  .rw [nL]
   have:=lm.1 (iY.1 hd).2
   simp only[dv,yW,tN,tg,xI,y7];have h1:1<=a.toNat:=by lia
   have:=y5 (1000000000^m.length) h1
   lia
def Vp(h:nz l)(hd:dg l)(h0:dv l=0):l=[]:=by
 by_cases hl:l=[]
 .grind
 .have:=Ql h hd hl
  grind
def VW(ha:dg a)(hb:nz b)(bE:dg b)(h:a.length<b.length):dv a<dv b:=by
 have h1:=lC ha;have h2:=Ql hb bE (fun e=>by subst e;simp at h);have h3:1000000000^a.length<=1000000000^(b.length-1):=y8 (by decide) (by lia)
 lia
def er(m n:Nat):Int:=if m<n then -1 else if n<m then 1 else 0
def afs{i:Nat}(h:i<l.length):dv l=dv (l.take i)+1000000000^i*(l[i].toNat+1000000000*dv (l.drop (i+1))):=by
 have e:l=l.take i++l[i]::l.drop (i+1):=by simp_all
 have:dv l=dv (l.take i++l[i]::l.drop (i+1)):=congrArg dv e
 rw[this,nL,yP,xo (by lia)];rfl
def aeM{i:Nat}(ha:dg a)(hb:dg b)(h1:i<a.length)(h2:i<b.length)(he:a.drop (i+1)=b.drop (i+1))(h:a[i]<b[i]):dv a<dv b:=by
 rw[afs h1,afs h2,he];have hl:=lC (EA ha i);have g1:=adA ha i h1;have h3:a[i].toNat+1000000000*dv (b.drop (i+1))+1<=b[i].toNat+1000000000*dv (b.drop (i+1)):=by lia
 have:=y5 (1000000000^i) h3
 grind
def VX:∀{l:List Int} {j:Nat} {x:Int},j<l.length->dv (l.set j x)+1000000000^j*(l.getD j 0).toNat=dv l+1000000000^j*x.toNat
 | [],j,x,h=>by simp at h
 | a::l,0,x,_=>by simp[dv];lia
 | a::l,j+1,x,h=>by
  have ih:=VX (l:=l) (j:=j) (x:=x) (by simpa using h);simp only[ybz,dv,ybt,xp]
  grind
def PV(h:dg l){j:Nat}(hx:0<=x/\x<1000000000):dg (l.set j x):=by
 by_cases hj:j<l.length
 .rw [yaj,yE hj];have e:l=l.take (j+1)++l.drop (j+1):=(wo _ _).symm;have hd:dg (l.drop (j+1)):=by rw[e] at h;exact (iY.1 h).2
  exact iY.2 ⟨EA h j,(iY (a:=[x]) (b:=l.drop (j+1))).2 ⟨lm.2 hx,hd⟩⟩
 .rw [List.set_eq_of_length_le (by lia)];exact h
def adB{j m:Nat}(h:m≠j):(l.set j x).getD m 0=l.getD m 0:=by grind
def aqw{V0 V' q X o c s:Nat}(hs:s=o+A*X+c)(aR:V'+p*q*o=V+p*q*(s%1000000000))(hv:V+p*q*c=V0+p*(A*Y)):
  V'+p*(q*1000000000)*(s/1000000000)=V0+p*(A*(Y+q*X)):=by
 have e:=uF s 1000000000;have e2:p*q*s=p*q*(s%1000000000)+p*(q*1000000000)*(s/1000000000):=by
  conv=>lhs;rw[<-e]
  rw[xJ,<-xk (p*q),<-xk p q]
 have e3:p*q*s=p*q*o+p*q*(A*X)+p*q*c:=by rw[hs,xJ,xJ]
 have e4:p*(A*(Y+q*X))=p*(A*Y)+p*q*(A*X):=by
  rw[xJ,xJ,xk p q,<-xk A q X,xg A q,xk q A X]
 lia
def adC(n:Nat):dv (yk n 0)=0:=by
 induction n with
 | zero=>rfl
 | succ n ih=>simp[wQ,dv,ih]
def adD(n:Nat):dg (yk n 0):=by
 induction n with
 | zero=>rfl
 | succ n ih=>exact (iY (a:=[0]) (b:=yk n 0)).2 ⟨by decide,ih⟩
end
section
variable {l m:List Nat}{U V i p u0 u1 u2 ur v1 v2 vr x:Nat}
def bv(b:Nat):List Nat->Nat
 | []=>0
 | a::r=>a+b*bv b r
def lo(b:Nat)(l:List Nat):Prop:=∀x,x∈l->x<b
section
variable {b:Nat}
def C3(a:Nat):bv b [a]=a:=by simp[bv]
def An:∀(l m:List Nat),bv b (l++m)=bv b l+b^l.length*bv b m
 | [],m=>by simp[bv]
 | x::l,m=>by
  simp only[xe,bv,An l m,yB,xp,xJ]
  grind
def gd(h:i<l.length):l[i]=l.getD i 0:=by simp_all
def VY(h:l.length<=i):l.getD i 0=0:=by simp_all
def jU(i:Nat):bv b (l.take (i+1))=bv b (l.take i)+b^i*l.getD i 0:=by
 by_cases h:i<l.length
 .rw [xn h,An,yP,xo (by lia),C3,gd h]
 .rw [yK (by lia),yK (by lia),VY (by lia),xI,y7]
def PW:lo b []:=fun _ h=>by simp at h
def OK:lo b (l++m)↔lo b l/\lo b m:=by
 constructor
 .intro h;exact⟨fun x hx=>h x (by simp[hx]),fun x hx=>h x (by simp[hx])⟩
 .rintro ⟨h1,h2⟩ x hx;rcases wB.1 hx with h | h
  .exact h1 x h
  .exact h2 x h
def Hf:lo b [x]↔x<b:=by simp[lo]
def iJ(hb:0<b)(h:lo b l)(i:Nat):l.getD i 0<b:=by
 by_cases hi:i<l.length
 .rw [<-gd hi];exact h _ (List.getElem_mem hi)
 .grind
def Bv(h:lo b l)(i:Nat):lo b (l.take i):=fun x hx=>h x (List.mem_of_mem_take hx)
def aeN(h:lo b l)(i:Nat):lo b (l.drop i):=fun x hx=>h x (List.mem_of_mem_drop hx)
def nV(h:lo b l)(hx:x<b):lo b (l.set i x):=fun y hy=>by
 rcases List.mem_or_eq_of_mem_set hy with h1 | h1
 .exact h y h1
 .lia
def Hg(hb:0<b)(n:Nat):lo b (yk n 0):=fun x hx=>by
 grind
def Hh(n:Nat):bv b (yk n 0)=0:=by
 induction n with
 | zero=>rfl
 | succ n ih=>simp[wQ,bv,ih]
def EB(n m:Nat):(yk n (0:Nat)).getD m 0=0:=by grind
def nc:∀{l:List Nat},lo b l->bv b l<b^l.length
 | [],_=>by simp[bv]
 | x::l,h=>by
  have h1:=h x (by simp);have h2:=nc (l:=l) (fun y hy=>h y (by simp[hy]));simp only[bv,yB,xp,xg _ b]
  have:=y5 b (show bv b l+1<=b^l.length from h2)
  grind
def qc:∀{l:List Nat} {i x:Nat},i<l.length->bv b (l.set i x)+b^i*l.getD i 0=bv b l+b^i*x
 | [],i,x,h=>by simp at h
 | a::l,0,x,_=>by simp[bv];lia
 | a::l,i+1,x,h=>by
  have ih:=qc (l:=l) (i:=i) (x:=x) (by simpa using h)
  have:=congrArg (fun t=>b*t) ih
  simp only[xJ] at this;simp only[ybz,bv,ybt,xp,xg _ b,xk] at this ⊢
  lia
def rP{m:Nat}(h:i≠m):(l.set i x).getD m 0=l.getD m 0:=by simp_all
def anr(h:i<l.length):(l.set i x).getD i 0=x:=by simp_all
def Kb(l:List Nat)(i:Nat)(h:i<=l.length):bv b l=bv b (l.take i)+b^i*bv b (l.drop i):=by
 have:=An (b:=b) (l.take i) (l.drop i)
 simp_all
def eG:List Nat->List Nat
 | []=>[]
 | a::r=>match eG r with | []=>if a=0 then [] else [a] | t::q=>a::t::q
def Ov:∀l:List Nat,eG (l++[0])=eG l
 | []=>rfl
 | a::l=>by simp only[xe,eG,Ov l]
def Gy{a:Nat}(h:a≠0):∀l:List Nat,eG (l++[a])=l++[a]
 | []=>by simp[eG,h]
 | b::l=>by
  simp only[xe,eG,Gy h l]
  cases hq:l++[a] with
  | nil=>simp at hq
  | cons t q=>rfl
abbrev iW(l:List Nat):Prop:=eG l=l
def ans:∀(n:Nat) (l:List Nat),l.length=n->∃i,i<=n/\eG l=l.take i/\iW (l.take i)/\bv b (l.take i)=bv b l:=by
 intro n
 induction n with
 | zero=>intro l h;rw[yD h];exact⟨0,yx _,rfl,rfl,rfl⟩
 | succ n ih=>
  intro l h;rcases snoc l with rfl | ⟨m,a,rfl⟩
  .grind
  .have hm:m.length=n:=by simp_all
   by_cases h0:a=0
   .subst h0;have⟨i,h1,h2,h3,h4⟩:=ih m hm;have e:(m++[0]).take i=m.take i:=by grind
    refine⟨i,by lia,by rw[Ov,h2,e],by rw[e];exact h3,?_⟩
    rw[e,h4,An];simp[bv]
   .have e:(m++[a]).take (n+1)=m++[a]:=yK (by simp[hm]);exact⟨n+1,yx _,by rw[e,Gy h0],by rw[e];exact Gy h0 m,by rw[e]⟩
def OL(l:List Nat):∃i,i<=l.length/\eG l=l.take i/\iW (eG l)/\bv b (eG l)=bv b l:=by
 have⟨i,h1,h2,h3,h4⟩:=ans (b:=b) l.length l rfl
 grind
def CL(l:List Nat):bv b (eG l)=bv b l:=by
 have⟨_,_,_,_,h⟩:=OL (b:=b) l;exact h
def CM(l:List Nat):iW (eG l):=by
 have⟨_,_,_,h,_⟩:=OL (b:=2) l;exact h
def CN(h:lo b l):lo b (eG l):=by
 have⟨i,_,h2,_⟩:=OL (b:=b) l;rw[h2];exact Bv h i
def aoB(l:List Nat):(eG l).length<=l.length:=by
 have⟨i,_,h2,_⟩:=OL (b:=2) l
 grind
def Kc(h:iW l)(h0:l≠[]):l.getD (l.length-1) 0≠0:=by
 rcases snoc l with rfl | ⟨m,a,rfl⟩
 .grind
 .intro ha
  have:a=0:=by
   grind
  subst this;have e:=congrArg uE h;rw[Ov] at e
  have:=aoB m
  grind
def VZ(hb:0<b)(h:iW l)(h0:l≠[]):b^(l.length-1)<=bv b l:=by
 rcases snoc l with rfl | ⟨m,a,rfl⟩
 .grind
 .have ha:=Kc h h0;simp[y9] at ha;rw[An,C3];simp only[yW,tN,tg]
  have:=y5 (b^m.length) (show 1<=a by lia)
  lia
def Pt(hb:1<b)(hl:lo b l)(hm:iW m)(h:l.length<m.length):bv b l<bv b m:=by
 have h1:=nc hl;have h2:=VZ (b:=b) (by lia) hm (fun e=>by subst e;simp at h);have h3:b^l.length<=b^(m.length-1):=y8 (by lia) (by lia)
 lia
def aeO(hl:lo b l)(h1:i<l.length)(h2:i<m.length)(he:l.drop (i+1)=m.drop (i+1))(h:l.getD i 0<m.getD i 0):bv b l<bv b m:=by
 rw[Kb l (i+1) (by lia),Kb m (i+1) (by lia),he,jU,jU]
 have:=nc (Bv hl i)
 have:=y5 (b^i) (show l.getD i 0+1<=m.getD i 0 from h)
 grind
def aoC(hb:1<b){k:Nat}(h:iW l)(hk:bv b l<b^k):l.length<=k:=by
 by_cases h0:l=[]
 .grind
 .have h1:=VZ (b:=b) (by lia) h h0;have h2:b^(l.length-1)<b^k:=xQ h1 hk
  have:=(uB hb).1 h2
  lia
def abQ{t r:Nat}(hV:V=(v1*b+v2)*p+vr)(hU:U=((u0*b+u1)*b+u2)*p+ur)(hur:ur<p)(ht:t*v1+r=u0*b+u1)(h:r*b+u2<t*v2):U/V<=t-1:=by
 have h1:U<t*V:=by
  have e:t*((v1*b+v2)*p)=((t*v1)*b+t*v2)*p:=by
   grind
  have h2:((u0*b+u1)*b+u2)+1<=(t*v1)*b+t*v2:=by rw[<-ht,we];lia
  have h3:=yX p h2;rw[hV,hU,xJ,e]
  grind
 have z7:0<V:=by
  grind
 have:=(xH z7).2 h1
 lia
def acG{t r:Nat}(hb:0<b)(hV:V=(v1*b+v2)*p+vr)(Nq:vr<p)(hU:U=((u0*b+u1)*b+u2)*p+ur)(fB:0<v1)(cU:v2<b)(mu:t<b)(ht:t*v1+r=u0*b+u1)(h:b<=r\/t*v2<=r*b+u2):t<=U/V+1:=by
 have h2:t*v2<=r*b+u2:=by
  rcases h with h | h
  .have:=yZ (uY mu) (uY cU)
   have:=yX b h
   lia
  .exact h
 have h3:t*(v1*b+v2)<=(u0*b+u1)*b+u2:=by
  rw[xJ,<-xk,<-ht,we];lia
 have hp:0<p:=by lia
 have aHO:b<=v1*b:=Nat.le_mul_of_pos_left b fB;have z7:0<V:=by
  have:=wV (show 0<v1*b+v2 by lia) hp
  lia
 rcases xj t with h0 | h0
 .grind
 .obtain ⟨s,rfl⟩:∃s,t=s+1:=⟨t-1,by lia⟩;have h4:s*V<=U:=by
   have h5:V<=(v1*b+v2+1)*p:=by grind
   have h6:=y5 s h5;have h7:s*(v1*b+v2+1)<=(s+1)*(v1*b+v2):=by
    grind
   have h8:=yX p (xi h7 h3)
   grind
  exact Nat.succ_le_succ ((tS z7).2 h4)
def TE(hV:V=(v1*b+v2)*p+vr)(hU:U=((u0*b+u1)*b+u2)*p+ur)(hur:ur<p)(Cg:u2<b)(fB:0<v1):U/V<=(u0*b+u1)/v1:=by
 by_cases z7:V=0
 .grind
 .refine (tS fB).2 ?_;have h1:=Nat.div_mul_le_self U V;generalize U/V=q at h1 ⊢;have h2:q*v1*(b*p)<=q*V:=by
   rw[hV,xk]
   grind
  have h3:U<(u0*b+u1+1)*(b*p):=by
   have:(u0*b+u1)*b+u2+1<=(u0*b+u1+1)*b:=by grind
   have:=yX p this
   grind
  have h4:q*v1*(b*p)<(u0*b+u1+1)*(b*p):=by lia
  have:=th h4
  lia
def acH(hV:V=(v1*b+v2)*p+vr)(hU:U=((u0*b+u1)*b+u2)*p+ur)(Nq:vr<p)(cU:v2<b)(h:U<b*V):u0<=v1:=by
 refine Nat.le_of_lt_succ ?_;have h1:V<(v1+1)*(b*p):=by
  have:v1*b+v2+1<=(v1+1)*b:=by grind
  have:=yX p this
  grind
 have h2:u0*(b*(b*p))<=U:=by
  grind
 have h3:=y5 b (uY h1);have e:b*((v1+1)*(b*p))=(v1+1)*(b*(b*p)):=by grind
 rw[e] at h3;have h4:u0*(b*(b*p))<(v1+1)*(b*(b*p)):=xQ h2 (yI h h3);exact th h4
end
end
section
variable {P:aF}{L:Lib}{f:cu}{F:Nat->cu}
def DX(f:cu)(F:Nat->cu):Prop:=∀c s r,f c s=Gr r->∃n,F n c s=Gr r
def Mon(F:Nat->cu):Prop:=∀n m,n<=m->Le (F n) (F m)
def N7(h:DX f F)(n:Nat)(aw:List AV)(r:AV)(hr:bO P L f n aw=Gr r):∃k,bO P L (F k) n aw=Gr r:=by
 unfold bO at hr ⊢
 cases hL:L.pure n with
 | some sp=>exact⟨0,by simpa only[hL] using hr⟩
 | none=>
  simp only[hL] at hr ⊢
  cases hP:P n with
  | none=>simp[hP] at hr
  | some G=>
   simp only[hP] at hr ⊢
   cases hf:f G.body ⟨fa 0 aw,[],0,0⟩ with
   | none=>simp[hf] at hr
   | some q=>
    have⟨k,hk⟩:=h _ _ _ hf
    grind
def TS(h:DX f F)(hp:Hp)(ct:Nat)(n:Nat)(aw:List AV)(r:AV×Hp×Nat)(hr:jG P L f hp ct n aw=Gr r):∃k,jG P L (F k) hp ct n aw=Gr r:=by
 unfold jG at hr ⊢
 cases hL:L.heap n with
 | some sp=>exact⟨0,by simpa only[hL] using hr⟩
 | none=>
  simp only[hL] at hr ⊢
  cases hP:P n with
  | none=>simp[hP] at hr
  | some G=>
   simp only[hP] at hr ⊢
   cases hf:f G.body ⟨fa 0 aw,hp,ct,ct⟩ with
   | none=>simp[hf] at hr
   | some q=>
    have⟨k,hk⟩:=h _ _ _ hf
    grind
def abl(h:DX f F)(hm:Mon F)(hp:Hp)(ct:Nat)(l:Nat)(xs:List AV)(r:AV×Hp×Nat)(hr:jT f hp ct l xs=Gr r):∃k,jT (F k) hp ct l xs=Gr r:=by
 have key:∃k,∀g,Le (F k) g->jT g hp ct l xs=Gr r:=by
  unfold jT at hr
  cases hl:ak hp l with
  | none=>simp[hl] at hr
  | some o=>
   split at hr
   .rename_i tm ps as_ body pe zY
    cases hb:zA tm ps xs with
    | none=>simp[hb] at hr
    | some tm'=>
     simp only[hb] at hr
     cases h1:f as_ ⟨tm',hp,ct,ct⟩ with
     | none=>simp[h1] at hr
     | some q=>
      have⟨k1,ie⟩:=h _ _ _ h1
      split at hr
      .rename_i s1 aA5
       split at hr
       .rename_i jk A0 DF E6 sH aA6
        cases h2:f body ⟨s1.tm,aR s1.hp l (.lp jk A0 DF E6 1 sH),s1.ct,s1.ct⟩ with
        | none=>simp[h2] at hr
        | some q2=>
         have⟨k2,iA⟩:=h _ _ _ h2;refine⟨max k1 k2,fun g hg=>?_⟩;have e1:=hg _ _ _ (hm k1 _ (uV k1 k2) _ _ _ ie);have e2:=hg _ _ _ (hm k2 _ (uJ k1 k2) _ _ _ iA);unfold jT
         grind
       .simp at hr
      .simp at hr
   .simp at hr
 have⟨k,hk⟩:=key;exact⟨k,hk _ (fun _ _ _ h=>h)⟩
def abR(h:DX f F)(hm:Mon F)(hp:Hp)(ct:Nat)(m:Md)(fv:AV)(xs:List AV)(r:AV×Hp×Nat)(hr:fb P L f hp ct m fv xs=Gr r):∃k,fb P L (F k) hp ct m fv xs=Gr r:=by
 unfold fb at hr ⊢
 split at hr
 .rename_i n first cap
  cases m with
  | pure=>
   cases hz:cA deep hp (first++(xs++cap)) with
   | none=>simp[hz] at hr
   | some q=>
    simp only[hz] at hr ⊢
    cases hc:bO P L f n q.1 with
    | none=>simp[hc] at hr
    | some u=>
     have⟨k,hk⟩:=N7 h n q.1 u hc
     grind
  | own=>
   cases hz:cA deep hp (first++(xs++cap)) with
   | none=>simp[hz] at hr
   | some q=>
    simp only[hz] at hr ⊢
    cases hc:bO P L f n q.1 with
    | none=>simp[hc] at hr
    | some u=>
     have⟨k,hk⟩:=N7 h n q.1 u hc
     grind
  | heap=>exact TS h _ _ _ _ _ hr
  | dyn=>
   cases hz:aH (first++(xs++cap)) with
   | true=>
    simp only[hz,yy] at hr ⊢
    cases hc:bO P L f n (first++(xs++cap)) with
    | none=>simp[hc] at hr
    | some u=>
     have⟨k,hk⟩:=N7 h n _ u hc
     grind
   | false=>
    simp only[hz,yT] at hr ⊢;exact TS h _ _ _ _ _ hr
 .split at hr
  .exact abl h hm _ _ _ _ _ hr
  .exact abl h hm _ _ _ _ _ hr
  .simp at hr
 .simp at hr
def aqx(h:DX f F)(hm:Mon F)(tm:Env)(hp:Hp)(ct:Nat)(o:Op)(r:AV×Hp×Nat)(hr:a7 P L f tm hp ct o=Gr r):∃k,a7 P L (F k) tm hp ct o=Gr r:=by
 unfold a7 at hr ⊢
 split at hr
 .exact abR h hm _ _ _ _ _ _ hr
 .rename_i rs fv xs
  cases hc:fb P L f hp ct .dyn (aB tm fv) (dM tm xs) with
  | none=>simp[hc] at hr
  | some q=>
   have⟨k,hk⟩:=abR h hm _ _ _ _ _ _ hc
   grind
 all_goals exact⟨0,by simpa only using hr⟩
def Uu(h:DX f F)(hm:Mon F):∀(ops:List aU) (s s':St),dh P L f ops s=Gr s'->∃k,dh P L (F k) ops s=Gr s'
 | [],s,s',hr=>⟨0,by simpa only[dh] using hr⟩
 | ⟨d,gd,o⟩::r,s,s',hr=>by
  simp only[dh] at hr ⊢
  split at hr
  .rename_i hw
   cases ho:a7 P L f s.tm s.hp s.ct o with
   | none=>simp[ho] at hr
   | some q=>
    have⟨k1,ie⟩:=aqx h hm _ _ _ _ _ ho;simp only[ho] at hr;have⟨k2,iA⟩:=Uu h hm r _ _ hr;refine⟨max k1 k2,?_⟩;rw[acz (hm k1 _ (uV k1 k2)) _ _ _ _ _ ie];exact On (hm k2 _ (uJ k1 k2)) r _ _ iA
  .rename_i hw;exact Uu h hm r _ _ hr
  .simp at hr
def Eo(h:DX f F)(hm:Mon F):∀(c:VC) (s:St) (r:Ex×St),bF P L f c s=Gr r->∃k,bF P L (F k) c s=Gr r
 | .skip,s,r,hr=>⟨0,by simpa only[bF] using hr⟩
 | .qR ops,s,r,hr=>by
  simp only[bF] at hr ⊢
  cases ho:dh P L f ops s with
  | none=>simp[ho] at hr
  | some s'=>
   have⟨k,hk⟩:=Uu h hm _ _ _ ho
   grind
 | .seq a b,s,r,hr=>by
  simp only[bF] at hr ⊢
  cases ha:bF P L f a s with
  | none=>simp[ha] at hr
  | some q=>
   have⟨k1,ie⟩:=Eo h hm a s q ha;have⟨ex,s1⟩:=q
   cases ex with
   | normal=>
    simp only[ha] at hr;have⟨k2,iA⟩:=Eo h hm b s1 r hr;refine⟨max k1 k2,?_⟩;rw[zg (hm k1 _ (uV k1 k2)) a s _ ie];exact zg (hm k2 _ (uJ k1 k2)) b s1 r iA
   | ret=>exact⟨k1,by rw[ie];simpa only[ha] using hr⟩
   | exit id=>exact⟨k1,by rw[ie];simpa only[ha] using hr⟩
 | .cond x a b,s,r,hr=>by
  simp only[bF] at hr ⊢
  split at hr
  .rename_i t ht
   cases t with
   | true=>simp only[yy] at hr ⊢;exact Eo h hm a s r hr
   | false=>simp only[yT] at hr ⊢;exact Eo h hm b s r hr
  .simp at hr
 | .iR id a,s,r,hr=>by
  simp only[bF] at hr ⊢
  cases ha:bF P L f a s with
  | none=>simp[ha] at hr
  | some q=>
   have⟨k,hk⟩:=Eo h hm a s q ha
   grind
 | .kp live,s,r,hr=>⟨0,by simpa only[bF] using hr⟩
 | .fz ts,s,r,hr=>⟨0,by simpa only[bF] using hr⟩
 | .loop live a,s,r,hr=>by
  simp only[bF] at hr ⊢
  cases ha:bF P L f a (bB live s) with
  | none=>simp[ha] at hr
  | some q=>
   have⟨k1,ie⟩:=Eo h hm a _ q ha;have⟨ex,s1⟩:=q
   cases ex with
   | normal=>
    simp only[ha] at hr;have⟨k2,iA⟩:=h _ _ _ hr;refine⟨max k1 k2,?_⟩;rw[zg (hm k1 _ (uV k1 k2)) a _ _ ie];exact hm k2 _ (uJ k1 k2) _ _ _ iA
   | ret=>exact⟨k1,by rw[ie];simpa only[ha] using hr⟩
   | exit id=>exact⟨k1,by rw[ie];simpa only[ha] using hr⟩
 | .rf fv ps as_ body,s,r,hr=>by
  simp only[bF] at hr ⊢
  split at hr
  .rename_i n first cap hx
   split at hr
   .grind
   .rename_i hL
    cases hc:jG P L f ((s.ct,.lp s.tm ps as_ body 0 .none)::s.hp) (s.ct+1) n (first++(.fn (.y s.ct) [] []::cap)) with
    | none=>simp[hc] at hr
    | some q=>
     have⟨k,hk⟩:=TS h _ _ _ _ _ hc
     grind
  .simp at hr
 | .exit id,s,r,hr=>⟨0,by simpa only[bF] using hr⟩
 | .ret,s,r,hr=>⟨0,by simpa only[bF] using hr⟩
end
section
variable (P:aF)(L:Lib)
noncomputable def D:cu:=fun c s=>@dite _ (∃r n,ev P L n c s=Gr r) (tj _) (fun h=>Gr h.choose) (fun _=>Gs)
variable {P L}
def aih{c:VC}{s:St}{r:Ex×St}{n:Nat}(h:ev P L n c s=Gr r):D P L c s=Gr r:=by
 have hx:∃r n,ev P L n c s=Gr r:=⟨r,n,h⟩;unfold D;have⟨m,hm⟩:=hx.choose_spec;have e1:=Vm P L (uV n m) _ _ _ h;have e2:=Vm P L (uJ n m) _ _ _ hm
 grind
def XR{c:VC}{s:St}{r:Ex×St}(h:D P L c s=Gr r):∃n,ev P L n c s=Gr r:=by
 unfold D at h;by_cases hx:∃r n,ev P L n c s=Gr r
 .grind
 .grind
def aBj(n:Nat):Le (ev P L n) (D P L):=fun _ _ _ h=>aih h
def ag8:DX (D P L) (ev P L):=fun _ _ _ h=>XR h
def awb:Mon (ev P L):=fun _ _ h=>Vm P L h
def ma(c:VC)(s:St):D P L c s=bF P L (D P L) c s:=by
 cases h:D P L c s with
 | some r=>
  have⟨n,hn⟩:=XR h
  cases n with
  | zero=>rw[Ko] at hn;cases hn
  | succ n=>rw[Ps] at hn;exact (zg (aBj n) c s r hn).symm
 | none=>
  cases hs:bF P L (D P L) c s with
  | none=>rfl
  | some r=>
   have⟨n,hn⟩:=Eo ag8 awb c s r hs;rw[<-Ps] at hn;rw[aih hn] at h;cases h
def aft{f:Nat}{r:AV}(h:bO P L (D P L) f aw=Gr r):∃n,Za P L n f aw=Gr r:=N7 ag8 f aw r h
end
section
open Go (IntKind BinOp UnOp)
structure Has(P:aF)(L:Lib)(n:Nat)(F:ax):Prop where
 pure:L.pure n=Gs
 heap:L.heap n=Gs
 code:P n=Gr F
noncomputable def r7(P:aF)(L:Lib)(r:Option (Ex×St))(b:VC):Option (Ex×St):=match r with | some (.normal,s)=>D P L b s | r=>r
def BG(id:Nat)(r:Option (Ex×St)):Option (Ex×St):=match r with | some (.exit j,s)=>bif yt j id then Gr (.normal,s) else Gr (.exit j,s) | r=>r
noncomputable def LJ(P:aF)(L:Lib)(live:List Nat)(a:VC)(r:Option (Ex×St)):Option (Ex×St):=match r with | some (.normal,s)=>D P L (.loop live a) s | r=>r
def norm(r:Option St):Option (Ex×St):=match r with | some s=>Gr (.normal,s) | none=>Gs
noncomputable def Qm(P:aF)(L:Lib)(v:AV)(a b:VC)(s:St):Option (Ex×St):=match v with | .bool t=>bif t then D P L a s else D P L b s | _=>Gs
def awc(s:St):D P L .skip s=Gr (.normal,s):=by rw[ma];rfl
def awd(id:Nat)(s:St):D P L (.exit id) s=Gr (.exit id,s):=by rw[ma];rfl
def azx(s:St):D P L .ret s=Gr (.ret,s):=by rw[ma];rfl
def aii(live:List Nat)(s:St):D P L (.kp live) s=Gr (.normal,bB live s):=by rw[ma];rfl
def aBk(ts:List Nat)(s:St):D P L (.fz ts) s=norm (rX ts s):=by rw[ma];rfl
def azy(ops:List aU)(s:St):D P L (.qR ops) s=norm (dh P L (D P L) ops s):=by rw[ma];rfl
def nZ(a b:VC)(s:St):D P L (.seq a b) s=r7 P L (D P L a s) b:=by
 rw[ma,ma a];simp only[bF,r7]
 cases bF P L (D P L) a s with
 | none=>rfl
 | some q=>
  have⟨e,s1⟩:=q
  cases e with
  | normal=>exact (ma b s1).symm
  | ret=>rfl
  | exit id=>rfl
def awe(x:X)(a b:VC)(s:St):D P L (.cond x a b) s=Qm P L (aB s.tm x) a b s:=by
 rw[ma];simp only[bF,Qm]
 cases aB s.tm x with
 | bool t=>
  cases t with
  | true=>exact (ma a s).symm
  | false=>exact (ma b s).symm
 | _=>rfl
def azz(id:Nat)(a:VC)(s:St):D P L (.iR id a) s=BG id (D P L a s):=by
 rw[ma,ma a];simp only[bF,BG]
 cases bF P L (D P L) a s with
 | none=>rfl
 | some q=>have⟨e,s1⟩:=q;cases e<;>rfl
def Hi(live:List Nat)(a:VC)(s:St):D P L (.loop live a) s=LJ P L live a (D P L a (bB live s)):=by
 rw[ma,ma a];simp only[bF,LJ]
 cases bF P L (D P L) a (bB live s) with
 | none=>rfl
 | some q=>have⟨e,s1⟩:=q;cases e<;>rfl
def ju(s:St)(b:VC):r7 P L (Gr (.normal,s)) b=D P L b s:=rfl
def asM(s:St)(b:VC):r7 P L (Gr (.ret,s)) b=Gr (.ret,s):=rfl
def asP(id:Nat)(s:St)(b:VC):r7 P L (Gr (.exit id,s)) b=Gr (.exit id,s):=rfl
def aeP(live:List Nat)(a:VC)(s:St):LJ P L live a (Gr (.normal,s))=D P L (.loop live a) s:=rfl
def asQ(live:List Nat)(a:VC)(s:St):LJ P L live a (Gr (.ret,s))=Gr (.ret,s):=rfl
def asR(live:List Nat)(a:VC)(id:Nat)(s:St):LJ P L live a (Gr (.exit id,s))=Gr (.exit id,s):=rfl
def asS(id:Nat)(s:St):BG id (Gr (.normal,s))=Gr (.normal,s):=rfl
def asT(id:Nat)(s:St):BG id (Gr (.ret,s))=Gr (.ret,s):=rfl
def aeQ(id:Nat)(s:St):BG id (Gr (.exit id,s))=Gr (.normal,s):=by simp only[BG,wK,yy]
def asU{id j:Nat}(s:St)(h:j≠id):BG id (Gr (.exit j,s))=Gr (.exit j,s):=by
 have:yt j id=ydz:=by
  cases hq:yt j id with
  | false=>rfl
  | true=>exact absurd (yi hq) h
 simp only[BG,this,yT]
def awf(s:St):norm (Gr s)=Gr (.normal,s):=rfl
def awg:norm Gs=Gs:=rfl
def asV(a b:VC)(s:St):Qm P L (.bool ydy) a b s=D P L a s:=rfl
def asW(a b:VC)(s:St):Qm P L (.bool ydz) a b s=D P L b s:=rfl
noncomputable def WL(P:aF)(L:Lib)(d:Option Nat)(r:List aU)(tm:Env)(base:Nat)(q:gQ):Option St:=
 match q with | some (v,hp,ct)=>dh P L (D P L) r ⟨put d v tm,hp,ct,base⟩ | none=>Gs
noncomputable def EX(P:aF)(L:Lib)(v:AV)(b:Bool)(d:Option Nat)(o:Op)(r:List aU)(s:St):Option St:=
 match v with
 | .bool c=>bif c==b then dh P L (D P L) (⟨d,Gs,o⟩::r) s else dh P L (D P L) r ⟨put d (.av []) s.tm,s.hp,s.ct,s.base⟩
 | .av []=>dh P L (D P L) r ⟨put d (.av []) s.tm,s.hp,s.ct,s.base⟩
 | _=>Gs
def asX(s:St):dh P L (D P L) [] s=Gr s:=rfl
def aqy(d:Option Nat)(o:Op)(r:List aU)(tm:Env)(hp:Hp)(ct base:Nat):
  dh P L (D P L) (⟨d,Gs,o⟩::r) ⟨tm,hp,ct,base⟩=WL P L d r tm base (a7 P L (D P L) tm hp ct o):=by
 simp only[dh,WL]
 grind
def aoD(d:Option Nat)(t:Nat)(b:Bool)(o:Op)(r:List aU)(tm:Env)(hp:Hp)(ct base:Nat):
  dh P L (D P L) (⟨d,Gr (t,b),o⟩::r) ⟨tm,hp,ct,base⟩=EX P L (ai tm t) b d o r ⟨tm,hp,ct,base⟩:=by
 simp only[dh,EX]
 cases ai tm t with
 | bool c=>
  simp only
  cases hc:(c==b) with
  | true=>simp only[yy]
  | false=>simp only[yT]
 | av vs=>cases vs<;>rfl
 | _=>rfl
def asY(d:Option Nat)(r:List aU)(tm:Env)(base:Nat)(v:AV)(hp:Hp)(ct:Nat):WL P L d r tm base (Gr (v,hp,ct))=dh P L (D P L) r ⟨put d v tm,hp,ct,base⟩:=rfl
def azA(i:Nat)(v:AV)(tm:Env):put (Gr i) v tm=(i,v)::tm:=rfl
def azB(v:AV)(tm:Env):put Gs v tm=tm:=rfl
def aqz(d:Option Nat)(o:Op)(r:List aU)(s:St):EX P L (.bool ydy) ydy d o r s=dh P L (D P L) (⟨d,Gs,o⟩::r) s:=rfl
def aqA(d:Option Nat)(o:Op)(r:List aU)(s:St):EX P L (.bool ydz) ydz d o r s=dh P L (D P L) (⟨d,Gs,o⟩::r) s:=rfl
def aqB(d:Option Nat)(o:Op)(r:List aU)(tm:Env)(hp:Hp)(ct base:Nat):EX P L (.bool ydy) ydz d o r ⟨tm,hp,ct,base⟩=dh P L (D P L) r ⟨put d (.av []) tm,hp,ct,base⟩:=rfl
def aqC(d:Option Nat)(o:Op)(r:List aU)(tm:Env)(hp:Hp)(ct base:Nat):EX P L (.bool ydz) ydy d o r ⟨tm,hp,ct,base⟩=dh P L (D P L) r ⟨put d (.av []) tm,hp,ct,base⟩:=rfl
def asZ(b:Bool)(d:Option Nat)(o:Op)(r:List aU)(tm:Env)(hp:Hp)(ct base:Nat):EX P L (.av []) b d o r ⟨tm,hp,ct,base⟩=dh P L (D P L) r ⟨put d (.av []) tm,hp,ct,base⟩:=rfl
def gW{j i:Nat}(h:j≠i):yt j i=ydz:=by
 cases hq:yt j i with
 | false=>rfl
 | true=>exact absurd (yi hq) h
def awh(tm:Env)(i:Nat):aB tm (.t i)=ai tm i:=rfl
def awi(tm:Env)(v:AV):aB tm (.c v)=v:=rfl
def aoE(tm:Env):dM tm []=[]:=rfl
def ant(tm:Env)(x:X)(r:List X):dM tm (x::r)=aB tm x::dM tm r:=rfl
def aqD(i:Nat)(v:AV)(r:Env):ai ((i,v)::r) i=v:=by simp only[ai,wK,yy]
def aoF{j i:Nat}(v:AV)(r:Env)(h:j≠i):ai ((j,v)::r) i=ai r i:=by simp only[ai,gW h,yT]
def ll(i:Nat)(o:Obj)(r:Hp):ak ((i,o)::r) i=Gr o:=by simp only[ak,wK,yy]
def fF{j i:Nat}(o:Obj)(r:Hp)(h:j≠i):ak ((j,o)::r) i=ak r i:=by simp only[ak,gW h,yT]
def O0(i:Nat)(o u:Obj)(r:Hp):aR ((i,o)::r) i u=(i,u)::r:=by simp only[aR,wK,yy]
def rF{j i:Nat}(o u:Obj)(r:Hp)(h:j≠i):aR ((j,o)::r) i u=(j,o)::aR r i u:=by simp only[aR,gW h,yT]
def aqE(i:Nat):cN [] i=[]:=rfl
def UX(i:Nat)(o:Obj)(r:Hp):cN ((i,o)::r) i=cN r i:=by simp only[cN,wK,yy]
def GA{j i:Nat}(o:Obj)(r:Hp)(h:j≠i):cN ((j,o)::r) i=(j,o)::cN r i:=by simp only[cN,gW h,yT]
def rd(hp:Hp)(ct:Nat)(q:Option AV):gQ:=match q with | some v=>Gr (v,hp,ct) | none=>Gs
def mk(hp:Hp)(ct:Nat)(q:Option (AV×Obj)):gQ:=match q with | some (v,b)=>Gr (v,(ct,b)::hp,ct+1) | none=>Gs
def aBl(hp:Hp)(ct:Nat)(v:AV):rd hp ct (Gr v)=Gr (v,hp,ct):=rfl
def aBm(hp:Hp)(ct:Nat)(v:AV)(b:Obj):mk hp ct (Gr (v,b))=Gr (v,(ct,b)::hp,ct+1):=rfl
def WM(c a b:AV):Option AV:=match c with | .bool t=>Gr (bif t then a else b) | _=>Gs
def Nr(k:Nat->Option AV)(n:Option Nat):Option AV:=match n with | some i=>k i | none=>Gs
def ag9(r:Option (List AV)):Option AV:=match r with | some cs=>Gr (.agg cs) | none=>Gs
def Mr(ne:Bool)(r:Option Bool):Option AV:=match r with | some b=>Gr (.bool (ne !=b)) | none=>Gs
def aBn:AV->Option AV
 | .ptr id o=>Gr (.ptr id o)
 | .bA cs=>Gr (.bA cs)
 | .fn f a b=>Gr (.fn f a b)
 | _=>Gs
def Ms(i:Nat):AV->Option AV | .av vs=>vs[i]? | _=>Gs
section
variable {f:cu}{tm:Env}{hp:Hp}{ct:Nat}
def awj(x:X):a7 P L f tm hp ct (.zR x)=Gr (aB tm x,hp,ct):=rfl
def as3(c a b:X):a7 P L f tm hp ct (.pick c a b)=rd hp ct (WM (aB tm c) (aB tm a) (aB tm b)):=by
 rfl
def aqF(z:List AV)(ps:List (Nat×Nat×X)):a7 P L f tm hp ct (.E1 z ps)=rd hp ct (ag9 (fill tm z ps)):=by
 rfl
def azC(sz:Nat)(ag:Bool)(x:X):a7 P L f tm hp ct (.ld sz ag x)=rd hp ct (gH hp sz ag (aB tm x)):=rfl
def as4(x:X):a7 P L f tm hp ct (.LQ x)=rd hp ct (aBn (aB tm x)):=by
 rfl
def awk(op:BinOp)(x y:X):a7 P L f tm hp ct (.bin op x y)=rd hp ct (binOp op (aB tm x) (aB tm y)):=rfl
def azD(ne:Bool)(k:Sm)(x y:X):a7 P L f tm hp ct (.eq ne k x y)=rd hp ct (Mr ne (lI k (aB tm x) (aB tm y))):=by
 rfl
def azE(op:UnOp)(x:X):a7 P L f tm hp ct (.un op x)=rd hp ct (unOp op (aB tm x)):=rfl
def azF(k:Conv)(x:X):a7 P L f tm hp ct (.cv k x)=rd hp ct (iv k (aB tm x)):=rfl
def awl(g:Fr)(a b:List X):a7 P L f tm hp ct (.Ii g a b)=Gr (.fn g (dM tm a) (dM tm b),hp,ct):=rfl
def awm(k:Cut)(x:X)(lo hi:Option X):a7 P L f tm hp ct (.sD k x lo hi)=rd hp ct (fY hp k (aB tm x) tm lo hi):=rfl
def awn(k:Nat)(x:X):a7 P L f tm hp ct (.off k x)=rd hp ct (C8 k (aB tm x)):=rfl
def awo(o sz:Nat)(ag:Bool)(x:X):a7 P L f tm hp ct (.MT o sz ag x)=rd hp ct (P8 o sz ag (aB tm x)):=rfl
def awp(sz:Nat)(x i:X):a7 P L f tm hp ct (.bj sz x i)=rd hp ct (Nr (fun j=>jb sz j (aB tm x)) (bT (aB tm i))):=by
 rfl
def awq(n sz:Nat)(x i:X):a7 P L f tm hp ct (.Ij n sz x i)=rd hp ct (Nr (fun j=>nY n sz j (aB tm x)) (bT (aB tm i))):=by
 rfl
def awr(x i:X):a7 P L f tm hp ct (.Ik x i)=rd hp ct (Nr (fun j=>oX j (aB tm x)) (bT (aB tm i))):=by
 rfl
def aws(n sz:Nat)(ag:Bool)(x i:X):a7 P L f tm hp ct (.Il n sz ag x i)=rd hp ct (Nr (fun j=>Lu n sz ag j (aB tm x)) (bT (aB tm i))):=by
 rfl
def awt(i:Nat)(x:X):a7 P L f tm hp ct (.ext i x)=rd hp ct (Ms i (aB tm x)):=by
 rfl
def awu(k:Nat)(x:X):a7 P L f tm hp ct (.len k x)=rd hp ct (gF hp k (aB tm x)):=rfl
def awv(sz:Nat)(x:X):a7 P L f tm hp ct (.box sz x)=mk hp ct (cM tm hp ct (.box sz x)):=rfl
def as5(n sz:Nat)(z:List AV)(ps:List (Nat×Nat×X)):a7 P L f tm hp ct (.kQ n sz z ps)=mk hp ct (cM tm hp ct (.kQ n sz z ps)):=rfl
def aww(sz by':Nat)(z:List AV)(l c:X):a7 P L f tm hp ct (.qP sz by' z l c)=mk hp ct (cM tm hp ct (.qP sz by' z l c)):=rfl
def awx:a7 P L f tm hp ct .B5=Gr (.map ct,(ct,.mp ydy [] [])::hp,ct+1):=rfl
def awy(x:X):a7 P L f tm hp ct (.sF x)=mk hp ct (cM tm hp ct (.sF x)):=rfl
def azG(sz:Nat)(x v:X):a7 P L f tm hp ct (.st sz x v)=cr tm hp ct (.st sz x v):=rfl
def awz(sz by':Nat)(s x:X):a7 P L f tm hp ct (.ew sz by' s x)=cr tm hp ct (.ew sz by' s x):=rfl
def Qn(hp:Hp)(ct:Nat)(r:Option AV):gQ:=match r with | some v=>Gr (shut v,hp,ct) | none=>Gs
def RL(hp:Hp)(ct:Nat)(r:Option AV):gQ:=match r with | some v=>Gr (own hp ct v) | none=>Gs
def WO(P:aF)(L:Lib)(f:cu)(ct n:Nat)(q:Option (List AV×Hp)):gQ:=match q with | some (aw,hp)=>Qn hp ct (bO P L f n aw) | none=>Gs
def WQ(P:aF)(L:Lib)(f:cu)(ct n:Nat)(q:Option (List AV×Hp)):gQ:=match q with | some (aw,hp)=>RL hp ct (bO P L f n aw) | none=>Gs
def WR(P:aF)(L:Lib)(f:cu)(hp:Hp)(ct:Nat)(fv:AV)(xs:List AV):gQ:=fb P L f hp ct .pure fv xs
def WS(P:aF)(L:Lib)(f:cu)(hp:Hp)(ct:Nat)(fv:AV)(xs:List AV):gQ:=fb P L f hp ct .own fv xs
def aqG(g:X)(xs:List X):a7 P L f tm hp ct (.call .pure g xs)=WR P L f hp ct (aB tm g) (dM tm xs):=rfl
def aqH(g:X)(xs:List X):a7 P L f tm hp ct (.call .own g xs)=WS P L f hp ct (aB tm g) (dM tm xs):=rfl
def aqI(g:X)(xs:List X):a7 P L f tm hp ct (.call .heap g xs)=fb P L f hp ct .heap (aB tm g) (dM tm xs):=rfl
def as6(n:Nat)(first cap xs:List AV):WR P L f hp ct (.fn (.f n) first cap) xs=WO P L f ct n (cA deep hp (first++(xs++cap))):=by
 simp only[WR,fb,WO,Qn]
 cases cA deep hp (first++(xs++cap)) with
 | none=>rfl
 | some q=>cases bO P L f n q.1<;>rfl
def as7(n:Nat)(first cap xs:List AV):WS P L f hp ct (.fn (.f n) first cap) xs=WQ P L f ct n (cA deep hp (first++(xs++cap))):=by
 simp only[WS,fb,WQ,RL]
 cases cA deep hp (first++(xs++cap)) with
 | none=>rfl
 | some q=>cases bO P L f n q.1<;>rfl
def as8(n:Nat)(aw:List AV):WO P L f ct n (Gr (aw,hp))=Qn hp ct (bO P L f n aw):=rfl
def as9(n:Nat)(aw:List AV):WQ P L f ct n (Gr (aw,hp))=RL hp ct (bO P L f n aw):=rfl
def ata(v:AV):Qn hp ct (Gr v)=Gr (shut v,hp,ct):=rfl
def awA(v:AV):RL hp ct (Gr v)=Gr (own hp ct v):=rfl
def RM(hp:Hp)(r:Option AV):Option AV:=match r with | some v=>result hp v | none=>Gs
def et(rs:List RV)(q:Option (Ex×St)):Option AV:=
 match q with
 | some (.normal,s) | some (.ret,s)=>RM s.hp (jD s rs)
 | _=>Gs
def aD{n:Nat}{F:ax}(h:Has P L n F)(aw:List AV):bO P L f n aw=et F.c9 (f F.body ⟨fa 0 aw,[],0,0⟩):=by
 simp only[bO,h.pure,h.code]
 cases hq:f F.body ⟨fa 0 aw,[],0,0⟩ with
 | none=>rfl
 | some q=>
  have⟨e,s⟩:=q
  cases e with
  | normal=>rfl
  | ret=>rfl
  | exit id=>rfl
def awB(rs:List RV)(s:St):et rs (Gr (.normal,s))=RM s.hp (jD s rs):=rfl
def awC(rs:List RV)(s:St):et rs (Gr (.ret,s))=RM s.hp (jD s rs):=rfl
def awD(v:AV):RM hp (Gr v)=result hp v:=rfl
def XS(r:RV)(s:St):jD s [r]=results1 s r:=by
 simp only[jD,mU];cases results1 s r<;>rfl
def aij(r:Option (List AV)):Option AV:=match r with | some vs=>Gr (.av vs) | none=>Gs
def aBo(r q:RV)(l:List RV)(s:St):jD s (r::q::l)=aij (mU s (r::q::l)):=by
 simp only[jD,mU];cases results1 s r<;>cases results1 s q<;>cases mU s l<;>rfl
def aha(r:Option AV)(l:Option (List AV)):Option (List AV):=match r,l with | some v,Gr vs=>Gr (v::vs) | _,_=>Gs
def aqJ(s:St):mU s []=Gr []:=rfl
def aoG(r:RV)(l:List RV)(s:St):mU s (r::l)=aha (results1 s r) (mU s l):=rfl
def atb(v:AV)(vs:List AV):aha (Gr v) (Gr vs)=Gr (v::vs):=rfl
def awE(vs:List AV):aij (Gr vs)=Gr (.av vs):=rfl
def WT(i:Nat)(s:St):results1 s (.t i)=Gr (ai s.tm i):=rfl
def azH(a:AV):fa 0 [a]=[(0,a)]:=rfl
def azI(a b:AV):fa 0 [a,b]=[(0,a),(1,b)]:=rfl
def azJ(a b c:AV):fa 0 [a,b,c]=[(0,a),(1,b),(2,c)]:=rfl
def azK(a b c d:AV):fa 0 [a,b,c,d]=[(0,a),(1,b),(2,c),(3,d)]:=rfl
def azL(a b c d e:AV):fa 0 [a,b,c,d,e]=[(0,a),(1,b),(2,c),(3,d),(4,e)]:=rfl
def anu(k:xh)(n:Int):result hp (.int k n)=Gr (.int k n):=rfl
def amY(b:Bool):result hp (.bool b)=Gr (.bool b):=rfl
def anv(s:List Nat):result hp (.str s)=Gr (.str s):=rfl
def amZ:result hp .aj=Gr .aj:=rfl
def anw(e:Bool)(n:Nat)(cs:List AV):result hp (.au e n cs)=Gr (.au e n cs):=rfl
def shut_int(k:xh)(n:Int):shut (.int k n)=.int k n:=rfl
def shut_bool(b:Bool):shut (.bool b)=.bool b:=rfl
def aqK(s:List Nat):shut (.str s)=.str s:=rfl
def aoH:shut .aj=.aj:=rfl
def aqL(e:Bool)(n:Nat)(cs:List AV):shut (.au e n cs)=.au e n cs:=rfl
def aqM(e:Bool)(sz n:Nat)(cs:List AV):shut (.cR e sz n cs)=.au e n cs:=rfl
def bh(cs:List AV):shut (.agg cs)=.agg cs:=rfl
def atc(g:Fr)(a b:List AV):shut (.fn g a b)=.fn g a b:=rfl
def fU(vs:List AV):shut (.av vs)=.av (E2 vs):=rfl
def fT:E2 []=[]:=rfl
def fS(v:AV)(r:List AV):E2 (v::r)=bH v::E2 r:=rfl
def Bo(k:xh)(n:Int):bH (.int k n)=.int k n:=rfl
def anx(b:Bool):bH (.bool b)=.bool b:=rfl
def aoI(s:List Nat):bH (.str s)=.str s:=rfl
def JT:bH .aj=.aj:=rfl
def aoJ(e:Bool)(n:Nat)(cs:List AV):bH (.au e n cs)=.au e n cs:=rfl
def aoK(e:Bool)(sz n:Nat)(cs:List AV):bH (.cR e sz n cs)=.au e n cs:=rfl
def Ao(cs:List AV):bH (.agg cs)=.agg cs:=rfl
def XT(n:Nat)(r:List AV)(q:Option (AV×Hp)):Option (List AV×Hp):=match q with | some (v,hp)=>(match cA n hp r with | some (vs,ic)=>Gr (v::vs,ic) | none=>Gs) | none=>Gs
def aik(v:AV)(q:Option (List AV×Hp)):Option (List AV×Hp):=match q with | some (vs,hp)=>Gr (v::vs,hp) | none=>Gs
def aqN(n:Nat):cA (n+1) hp []=Gr ([],hp):=rfl
def acI(n:Nat)(v:AV)(r:List AV):cA (n+1) hp (v::r)=XT n r (freeze n hp v):=by
 simp only[cA,XT];cases freeze n hp v<;>rfl
def afu(n:Nat)(r:List AV)(v:AV):XT n r (Gr (v,hp))=aik v (cA n hp r):=by
 rfl
def afv(v:AV)(vs:List AV):aik v (Gr (vs,hp))=Gr (v::vs,hp):=rfl
def atd(n:Nat)(k:xh)(a:Int):freeze (n+1) hp (.int k a)=Gr (.int k a,hp):=rfl
def aqO(n:Nat)(b:Bool):freeze (n+1) hp (.bool b)=Gr (.bool b,hp):=rfl
def ate(n:Nat)(s:List Nat):freeze (n+1) hp (.str s)=Gr (.str s,hp):=rfl
def aqP(n:Nat):freeze (n+1) hp .aj=Gr (.aj,hp):=rfl
def atf(n:Nat)(e:Bool)(k:Nat)(cs:List AV):freeze (n+1) hp (.au e k cs)=Gr (.au e k cs,hp):=rfl
def aqQ(n:Nat)(cs:List AV):freeze (n+1) hp (.bA cs)=Gr (.bA cs,hp):=rfl
end
section
variable {hp:Hp}
def awF(a b:AV):WM (.bool ydy) a b=Gr a:=rfl
def awG(a b:AV):WM (.bool ydz) a b=Gr b:=rfl
def azM(k:Nat->Option AV)(n:Nat):Nr k (Gr n)=k n:=rfl
def anz(k:xh)(n:Nat):bT (.int k (n:Int))=Gr n:=rfl
def awH(k:xh):bT (.int k 0)=Gr 0:=rfl
def awI(k:xh):bT (.int k 1)=Gr 1:=rfl
def awJ(k:xh):bT (.int k 2)=Gr 2:=rfl
def awK(k:xh):bT (.int k 3)=Gr 3:=rfl
def awL(k:xh):bT (.int k 4)=Gr 4:=rfl
def awM(k:xh):bT (.int k 5)=Gr 5:=rfl
def awN(k:xh):bT (.int k 6)=Gr 6:=rfl
def awO(k:xh):bT (.int k 7)=Gr 7:=rfl
def awP(k:xh):bT (.int k 8)=Gr 8:=rfl
def awQ(k:xh):bT (.int k 9)=Gr 9:=rfl
def atg(cs:List AV):ag9 (Gr cs)=Gr (.agg cs):=rfl
def aeR(k:xh)(a b:Int):binOp .add (.int k a) (.int k b)=Gr (.int k (k.wrap (a+b))):=by simp[binOp,mY]
def Pu(k:xh)(a b:Int):binOp .sub (.int k a) (.int k b)=Gr (.int k (k.wrap (a-b))):=by simp[binOp,mY]
def aeS(k:xh)(a b:Int):binOp .mul (.int k a) (.int k b)=Gr (.int k (k.wrap (a*b))):=by simp[binOp,mY]
def eO(k:xh)(a b:Int)(h:b≠0):binOp .quo (.int k a) (.int k b)=Gr (.int k (k.wrap (a.tdiv b))):=by simp[binOp,mY,h]
def eU(k:xh)(a b:Int)(h:b≠0):binOp .rem (.int k a) (.int k b)=Gr (.int k (a.tmod b)):=by simp[binOp,mY,h]
def ath(k:xh)(a b:Int):binOp .eql (.int k a) (.int k b)=Gr (.bool (decide (a=b))):=by
 simp[binOp,mY,intCmp,BEq.beq]
def ati(k:xh)(a b:Int):binOp .neq (.int k a) (.int k b)=Gr (.bool (!decide (a=b))):=by
 simp[binOp,mY,intCmp,bne,BEq.beq]
def atj(k:xh)(a b:Int):binOp .lss (.int k a) (.int k b)=Gr (.bool (decide (a<b))):=by simp[binOp,mY,intCmp]
def atk(k:xh)(a b:Int):binOp .leq (.int k a) (.int k b)=Gr (.bool (decide (a<=b))):=by simp[binOp,mY,intCmp]
def atl(k:xh)(a b:Int):binOp .gtr (.int k a) (.int k b)=Gr (.bool (decide (b<a))):=by simp[binOp,mY,intCmp]
def atm(k:xh)(a b:Int):binOp .geq (.int k a) (.int k b)=Gr (.bool (decide (b<=a))):=by simp[binOp,mY,intCmp]
def awR(k:xh)(a:Int):unOp .neg (.int k a)=Gr (.int k (k.wrap (0-a))):=rfl
def awS(b:Bool):unOp .not (.bool b)=Gr (.bool !b):=rfl
def aqR:gF hp 1 .aj=Gr (.int .i64 0):=rfl
def atn(e:Bool)(n:Nat)(cs:List AV):gF hp 1 (.au e n cs)=Gr (.int .i64 n):=rfl
def ato(id o n:Nat):gF hp 1 (.ay id o n)=Gr (.int .i64 n):=rfl
def EC(s:List Nat):gF hp 0 (.str s)=Gr (.int .i64 s.length):=rfl
def Pv{i n:Nat}(e:Bool)(cs:List AV)(h:i<n):jb sz i (.au e n cs)=Gr (.bA (cs.drop (i*sz))):=by
 have hb:yQ i n=ydy:=yz h;simp only[jb]
 grind
def dc{i n:Nat}(id o:Nat)(h:i<n):jb sz i (.ay id o n)=Gr (.ptr id (o+i*sz)):=by
 have hb:yQ i n=ydy:=yz h;simp only[jb]
 grind
def aqS(v:AV)(cs:List AV):gH hp 1 ydz (.bA (v::cs))=Gr v:=rfl
def SP(sz:Nat)(ag:Bool)(o:Nat)(q:Option Obj):Option AV:=match q with | some (.cells _ _ _ _ cs)=>jj sz ag (cs.drop o) | _=>Gs
def awT(sz:Nat)(ag:Bool)(id o:Nat):gH hp sz ag (.ptr id o)=SP sz ag o (ak hp id):=by
 rfl
def azN(sz:Nat)(ag:Bool)(o:Nat)(rw pu ex:Bool)(z:Nat)(cs:List AV):SP sz ag o (Gr (.cells rw pu ex z cs))=jj sz ag (cs.drop o):=rfl
def azO(sz:Nat)(v:AV)(cs:List AV):jj sz ydz (v::cs)=Gr v:=rfl
def aBp(a:AV)(l:List AV):Ms 0 (.av (a::l))=Gr a:=rfl
def ext1(a b:AV)(l:List AV):Ms 1 (.av (a::b::l))=Gr b:=rfl
def aBq(a b c:AV)(l:List AV):Ms 2 (.av (a::b::c::l))=Gr c:=rfl
def aBr(a b c d:AV)(l:List AV):Ms 3 (.av (a::b::c::d::l))=Gr d:=rfl
end
def qt:Env->Bool
 | []=>ydy
 | (_,v)::r=>aV v&&qt r
mutual
def mw:∀{v:AV},aV v=ydy->refs v=[]
 | .int _ _,_ | .bool _,_ | .an _ _,_ | .dj _ _ _,_ | .str _,_ | .kP,_ | .bA _,_ | .aj,_ | .au _ _ _,_ | .fZ,_ | .jI,_ | .jJ _ _,_ | .undef,_=>rfl
 | .ptr _ _,h | .ay _ _ _,h | .map _,h | .it _,h | .cR _ _ _ _,h=>by simp[aV] at h
 | .fn (.y _) _ _,h=>by simp[aV] at h
 | .fn (.f _) first cap,h=>by
  simp only[aV,yf] at h;simp only[refs,JU h.1,JU h.2,wu]
 | .agg cs,h=>by simp only[aV] at h;simp only[refs,JU h]
 | .av cs,h=>by simp only[aV] at h;simp only[refs,JU h]
def JU:∀{vs:List AV},aH vs=ydy->fX vs=[]
 | [],_=>rfl
 | v::r,h=>by
  simp only[aH,yf] at h;simp only[fX,mw h.1,JU h.2,wu]
end
mutual
def Kd(f:Nat->Option Nat):∀{v:AV},aV v=ydy->br f v=v
 | .int _ _,_ | .bool _,_ | .an _ _,_ | .dj _ _ _,_ | .str _,_ | .kP,_ | .bA _,_ | .aj,_ | .au _ _ _,_ | .fZ,_ | .jI,_ | .jJ _ _,_ | .undef,_=>rfl
 | .ptr _ _,h | .ay _ _ _,h | .map _,h | .it _,h | .cR _ _ _ _,h=>by simp[aV] at h
 | .fn (.y _) _ _,h=>by simp[aV] at h
 | .fn (.f _) first cap,h=>by
  simp only[aV,yf] at h;simp only[br,J4 f h.1,J4 f h.2]
 | .agg cs,h=>by simp only[aV] at h;simp only[br,J4 f h]
 | .av cs,h=>by simp only[aV] at h;simp only[br,J4 f h]
def J4(f:Nat->Option Nat):∀{vs:List AV},aH vs=ydy->dD f vs=vs
 | [],_=>rfl
 | v::r,h=>by
  simp only[aH,yf] at h;simp only[dD,Kd f h.1,J4 f h.2]
end
def TU:∀{tm:Env},qt tm=ydy->dN tm=[]
 | [],_=>rfl
 | (i,v)::r,h=>by
  simp only[qt,yf] at h;simp only[dN,mw h.1,TU h.2,wu]
def acJ(f:Nat->Option Nat):∀{tm:Env},qt tm=ydy->fM f tm=tm
 | [],_=>rfl
 | (i,v)::r,h=>by
  simp only[qt,yf] at h;simp only[fM,Kd f h.1,acJ f h.2]
def N8(h:qt (bD tm live)=ydy):bB live ⟨tm,[],ct,0⟩=⟨bD tm live,[],0,0⟩:=by
 simp only[bB,TU h,cG,wu];simp only[reach,ep,gM,acJ _ h,yM,y7]
def am0:bB [] ⟨tm,[],ct,0⟩=⟨[],[],0,0⟩:=rfl
def O1{P:aF}{L:Lib}{a:VC}(I:Nat->St->Prop)(Q:Ex->St->Prop)(step:∀k s,I k s->(∃s' k',D P L a (bB live s)=Gr (.normal,s')/\k'<k/\I k' s')\/(∃ex s',D P L a (bB live s)=Gr (ex,s')/\ex≠.normal/\Q ex s')):
  ∀k s,I k s->∃ex s',D P L (.loop live a) s=Gr (ex,s')/\Q ex s':=by
 intro k
 induction k using ub with
 | _ k ih=>
  intro s hI;rw[Hi];rcases step k s hI with ⟨s',k',h1,h2,h3⟩ | ⟨ex,s',h1,h2,h3⟩
  .rw [h1,aeP];exact ih k' h2 s' h3
  .rw [h1]
   cases ex with
   | normal=>exact absurd rfl h2
   | ret=>exact⟨.ret,s',rfl,h3⟩
   | exit id=>exact⟨.exit id,s',rfl,h3⟩
def UY{P:aF}{L:Lib}{a:VC}(I:Nat->St->Prop)(Q:Ex->St->Prop)(step:∀k s,I k s->(∃s' k',D P L a s=Gr (.normal,s')/\k'<k/\I k' (bB live s'))\/(∃ex s',D P L a s=Gr (ex,s')/\ex≠.normal/\Q ex s')):
  ∀k s,I k (bB live s)->∃ex s',D P L (.loop live a) s=Gr (ex,s')/\Q ex s':=
 O1 (fun k s=>I k (bB live s)) Q (fun k s h=>step k _ h)
def cE(P:aF)(L:Lib)(live:List Nat)(a:VC)(I:Nat->St->Prop)(Q:Ex->St->Prop):Prop:=∀k s,I k (bB live s)->∃ex s',D P L (.loop live a) s=Gr (ex,s')/\Q ex s'
def cI{P:aF}{L:Lib}{a:VC}(step:∀k s,I k s->(∃s' k',D P L a s=Gr (.normal,s')/\k'<k/\I k' (bB live s'))\/(∃ex s',D P L a s=Gr (ex,s')/\ex≠.normal/\Q ex s')):cE P L live a I Q:=UY I Q step
def aHz{P:aF}{L:Lib}{a:VC}(step:∀k s,I k s->(∃s' k',D P L a s=Gr (.normal,s')/\k'<k/\I k' (bB live s'))\/(∃ex s',D P L a s=Gr (ex,s')/\ex≠.normal/\Q ex s')):
  ∀k s s0,bB live s=s0->I k s0->∃ex s',D P L (.loop live a) s=Gr (ex,s')/\Q ex s':=fun k s s0 h hi=>UY I Q step k s (h▸hi)
def aC(h:aV v=ydy):refs v=[]/\∀f,br f v=v:=⟨mw h,fun f=>Kd f h⟩
def fK(P:aF)(L:Lib)(live:List Nat)(a:VC)(I:Nat->St->Prop)(Q:Ex->St->Prop)(step:∀k s,I k s->(∃s' k',D P L a s=Gr (.normal,s')/\k'<k/\I k' (bB live s'))\/(∃ex s',D P L a s=Gr (ex,s')/\ex≠.normal/\Q ex s')):
  ∀k s,I k (bB live s)->∃ex s',D P L (.loop live a) s=Gr (ex,s')/\Q ex s':=UY I Q step
def bg{P:aF}{L:Lib}{c:VC}{s:St}{q:Option (Ex×St)}{I:St->Prop}(hq:D P L c s=q)(key:∀s,I s->∃ex s',D P L c s=Gr (ex,s')/\Q ex s')(hI:I s):
  ∃ex s',q=Gr (ex,s')/\Q ex s':=by
 rw[<-hq];exact key s hI
def aqT(tm:Env):bD tm []=[]:=rfl
def aoL(tm:Env)(i:Nat)(r:List Nat):bD tm (i::r)=(i,ai tm i)::bD tm r:=rfl
def aoM:qt []=ydy:=rfl
def anA(i:Nat)(v:AV)(r:Env):qt ((i,v)::r)=(aV v&&qt r):=rfl
def afw(k:xh)(n:Int):aV (.int k n)=ydy:=(rfl)
def atp(b:Bool):aV (.bool b)=ydy:=(rfl)
def awU(s:List Nat):aV (.str s)=ydy:=(rfl)
def atq:aV .aj=ydy:=(rfl)
def awV(e:Bool)(n:Nat)(cs:List AV):aV (.au e n cs)=ydy:=(rfl)
def atr(cs:List AV):aV (.bA cs)=ydy:=(rfl)
def aqU:aV .undef=ydy:=(rfl)
attribute [go_sem] deep am0 aqT aoL aoM anA afw atp awU atq awV atr aqU uk wI
attribute [go_sem] awc awd azx aii aBk azy nZ awe azz ju asM asP aeP asQ asR asS asT aeQ asU awf awg asV asW
 asX aqy aoD asY azA azB aqz aqA aqB aqC asZ awh awi aoE ant aqD aoF ll fF O0 rF aqE UX GA
 aBl aBm awj as3 aqF azC as4 awk azD azE azF awl awm awn awo awp awq awr aws awt awu awv as5 aww awx awy azG awz aqG aqH aqI
 as6 as7 as8 as9 ata awA awB awC awD XS aBo aqJ aoG atb awE WT azH azI azJ azK azL
 anu amY anv amZ anw shut_int shut_bool aqK aoH aqL aqM bh atc fU fT fS Bo anx aoI JT aoJ aoK Ao
 aqN acI afu afv atd aqO ate aqP atf aqQ
 awF awG azM anz awH awI awJ awK awL awM awN awO awP awQ atg aeR Pu aeS ath ati atj atk atl atm awR awS aqR atn ato EC aqS awT azN azO aBp ext1 aBq aBr
 xt wu xe yv yu Bool.not_true Bool.not_false ybZ uS
end
abbrev aa(n:Int):AV:=.int .i64 n
def cF(v:AV)(cs:List AV):Prop:=(v=.aj/\cs=[])\/∃e,v=.au e cs.length cs
section
variable {v:AV}{cs:List AV}{hp:Hp}
def cF.len(h:cF v cs){hp:Hp}:gF hp 1 v=Gr (.int .i64 (cs.length:Nat)):=by
 rcases h with ⟨rfl,rfl⟩ | ⟨e,rfl⟩<;>rfl
def cF.pu(h:cF v cs):aV v=ydy:=by
 rcases h with ⟨rfl,rfl⟩ | ⟨e,rfl⟩<;>rfl
def cF.ah(h:cF v cs)(n:Nat){hp:Hp}:freeze (n+1) hp v=Gr (v,hp):=by
 rcases h with ⟨rfl,rfl⟩ | ⟨e,rfl⟩<;>rfl
def cF.shut(h:cF v cs):shut v=v:=by
 rcases h with ⟨rfl,rfl⟩ | ⟨e,rfl⟩<;>rfl
def cF.bH(h:cF v cs):bH v=v:=by
 rcases h with ⟨rfl,rfl⟩ | ⟨e,rfl⟩<;>rfl
def cF.c9(h:cF v cs){hp:Hp}:result hp v=Gr v:=by
 rcases h with ⟨rfl,rfl⟩ | ⟨e,rfl⟩<;>rfl
def cF.bj(h:cF v cs){i:Nat}(hi:i<cs.length):jb 1 i v=Gr (.bA (cs[i]::cs.drop (i+1))):=by
 rcases h with ⟨rfl,rfl⟩ | ⟨e,rfl⟩
 .grind
 .rw [Pv e _ hi,yh,yS hi]
def cF.one(h:cF v cs):dL v=ydy:=by
 rcases h with ⟨rfl,rfl⟩ | ⟨e,rfl⟩<;>rfl
def cF.cells(h:cF v cs):cellsOf v=[v]:=by
 rcases h with ⟨rfl,rfl⟩ | ⟨e,rfl⟩<;>rfl
def Kq(e:Bool)(cs:List AV):cF (.au e cs.length cs) cs:=.inr ⟨e,rfl⟩
def Aq:cF .aj []:=.inl ⟨rfl,rfl⟩
end
def bw(v:AV)(l:List Int):Prop:=cF v (l.map aa)
section
variable {v:AV}{l:List Int}
def bw.len(h:bw v l):gF hp 1 v=Gr (.int .i64 (l.length:Nat)):=by
 have:=cF.len (hp:=hp) h
 grind
def bw.pu(h:bw v l):aV v=ydy:=cF.pu h
def bw.ah(h:bw v l)(n:Nat):freeze (n+1) hp v=Gr (v,hp):=cF.ah h n
def bw.shut(h:bw v l):VE.shut v=v:=cF.shut h
def bw.bH(h:bw v l):VE.bH v=v:=cF.bH h
def bw.c9(h:bw v l):result hp v=Gr v:=cF.c9 h
def bw.one(h:bw v l):dL v=ydy:=cF.one h
def bw.cells(h:bw v l):cellsOf v=[v]:=cF.cells h
def bw.bj(h:bw v l){i:Nat}(hi:i<l.length):jb 1 i v=Gr (.bA (.int .i64 l[i]::(l.map aa).drop (i+1))):=by
 have:=cF.bj h (i:=i) (by simpa using hi)
 grind
def eP(e:Bool)(l:List Int):bw (.au e l.length (l.map aa)) l:=by
 have:=Kq e (l.map aa)
 rwa[yU] at this
end
def c7{α β:Type}(p:α->β->Prop):List α->List β->Prop
 | [],[]=>True
 | a::r,b::s=>p a b/\c7 p r s
 | _,_=>False
section
variable {α β:Type}{p:α->β->Prop}
def c7.len:∀{l:List α} {m:List β},c7 p l m->l.length=m.length
 | [],[],_=>rfl
 | _::_,_::_,h=>by rw[yB,yB,h.2.len]
def c7.get:∀{l:List α} {m:List β} (_:c7 p l m) {i:Nat} (h1:i<l.length) (h2:i<m.length),p l[i] m[i]
 | a::r,b::s,h,0,_,_=>h.1
 | a::r,b::s,h,i+1,h1,h2=>by
  exact h.2.get (by simpa using h1) (by simpa using h2)
end
def IsS(v:AV)(s:List (List Int)):Prop:=∃rows,cF v rows/\c7 bw rows s
def wrap64{n:Int}(h1: -9223372036854775808<=n)(h2:n<9223372036854775808):IntKind.wrap .i64 n=n:=by
 simp only[IntKind.wrap,IntKind.bits,IntKind.signed,wI]
 grind
def wrapN{n:Nat}(h:n<9223372036854775808):IntKind.wrap .i64 (n:Int)=n:=wrap64 (by lia) (by lia)
abbrev ab(P:aF)(L:Lib)(f:Nat)(aw:List AV)(r:AV):Prop:=bO P L (D P L) f aw=Gr r
section
variable {v:AV}{ex pu:Bool}{cs new:List AV}{by' n o sz z:Nat}
section
variable {P:aF}{L:Lib}{f:cu}{tm:Env}{hp:Hp}{ct:Nat}
def aoN(k:xh)(n:Int):cellsOf (.int k n)=[.int k n]:=(rfl)
def anB(b:Bool):cellsOf (.bool b)=[.bool b]:=(rfl)
def aoO(s:List Nat):cellsOf (.str s)=[.str s]:=(rfl)
def anC:cellsOf .aj=[.aj]:=(rfl)
def aoP(e:Bool)(n:Nat)(cs:List AV):cellsOf (.au e n cs)=[.au e n cs]:=(rfl)
def aoQ(id o n:Nat):cellsOf (.ay id o n)=[.ay id o n]:=(rfl)
def aoR(id o:Nat):cellsOf (.ptr id o)=[.ptr id o]:=(rfl)
def aqV(g:Fr)(a b:List AV):cellsOf (.fn g a b)=[.fn g a b]:=(rfl)
def aoS(cs:List AV):cellsOf (.agg cs)=cs:=(rfl)
def aeT(k:xh)(n:Int):dL (.int k n)=ydy:=(rfl)
def aqW(b:Bool):dL (.bool b)=ydy:=(rfl)
def ats(s:List Nat):dL (.str s)=ydy:=(rfl)
def aqX:dL .aj=ydy:=(rfl)
def att(e:Bool)(n:Nat)(cs:List AV):dL (.au e n cs)=ydy:=(rfl)
def atu(id o n:Nat):dL (.ay id o n)=ydy:=(rfl)
def atv(id o:Nat):dL (.ptr id o)=ydy:=(rfl)
def awW(g:Fr)(a b:List AV):dL (.fn g a b)=ydy:=(rfl)
def aqY:b9 []=ydy:=(rfl)
def acK(v:AV)(r:List AV):b9 (v::r)=(dL v&&b9 r):=(rfl)
def aoT:aH []=ydy:=(rfl)
def anD(v:AV)(r:List AV):aH (v::r)=(aV v&&aH r):=(rfl)
def awX(id o:Nat):aV (.ptr id o)=ydz:=(rfl)
def awY(id o n:Nat):aV (.ay id o n)=ydz:=(rfl)
def azP(g:Nat)(a b:List AV):aV (.fn (.f g) a b)=(aH a&&aH b):=(rfl)
def aBs(l:Nat)(a b:List AV):aV (.fn (.y l) a b)=ydz:=(rfl)
def awZ(cs:List AV):aV (.agg cs)=aH cs:=(rfl)
def aw0(cs:List AV):aV (.av cs)=aH cs:=(rfl)
def lJ(ct sz:Nat)(cs:List AV):Option (AV×Obj):=bif yt cs.length sz&&b9 cs then Gr (.ptr ct 0,.cells ydy (aH cs) ydy sz cs) else Gs
def aw1(sz:Nat)(x:X):cM tm hp ct (.box sz x)=lJ ct sz (cellsOf (aB tm x)):=rfl
def azQ(h:dL v=ydy):lJ ct 1 [v]=Gr (.ptr ct 0,.cells ydy (aV v&&ydy) ydy 1 [v]):=by
 simp[lJ,b9,aH,h]
def aQ(hn:cs.length=n)(h:b9 cs=ydy):lJ ct n cs=Gr (.ptr ct 0,.cells ydy (aH cs) ydy n cs):=by
 subst hn;simp[lJ,h]
def jr(hp:Hp)(ct id o sz:Nat)(new:List AV)(q:Option Obj):gQ:=
 match q with
 | some (.cells ydy pu ex z cs)=>bif yt new.length sz&&yJ (o+sz) cs.length&&b9 new then Gr (.av [],aR hp id (.cells ydy (pu&&aH new) ex z (over o new cs)),ct) else Gs
 | _=>Gs
def stV(hp:Hp)(ct sz:Nat)(p:AV)(new:List AV):gQ:=match p with | .ptr id o=>jr hp ct id o sz new (ak hp id) | _=>Gs
def adE(sz:Nat)(x v:X):cr tm hp ct (.st sz x v)=stV hp ct sz (aB tm x) (cellsOf (aB tm v)):=rfl
def ahb(sz id o:Nat)(new:List AV):stV hp ct sz (.ptr id o) new=jr hp ct id o sz new (ak hp id):=rfl
def XU{u:AV}{id:Nat}(h:dL v=ydy):jr hp ct id 0 1 [v] (Gr (.cells ydy pu ex z [u]))=Gr (.av [],aR hp id (.cells ydy (pu&&(aV v&&ydy)) ex z [v]),ct):=by
 simp[jr,b9,aH,h,over];rfl
def Hs{id:Nat}(h1:new.length=sz)(h2:o+sz<=cs.length)(h:b9 new=ydy):
  jr hp ct id o sz new (Gr (.cells ydy pu ex z cs))=Gr (.av [],aR hp id (.cells ydy (pu&&aH new) ex z (over o new cs)),ct):=by
 subst h1;simp[jr,h,yz h2]
def Qo(ct n sz:Nat)(q:Option (List AV)):Option (AV×Obj):=match q with | some cs=>bif yt cs.length (n*sz) then Gr (.ay ct 0 n,.cells ydy (aH cs) ydy sz cs) else Gs | none=>Gs
def atw(n sz:Nat)(z:List AV)(ps:List (Nat×Nat×X)):cM tm hp ct (.kQ n sz z ps)=Qo ct n sz (fill tm z ps):=by
 simp only[cM,Qo];cases fill tm z ps<;>rfl
def eQ(h:cs.length=n*sz):Qo ct n sz (Gr cs)=Gr (.ay ct 0 n,.cells ydy (aH cs) ydy sz cs):=by
 simp[Qo,h]
def lD(tm:Env)(cs:List AV)(o sz:Nat)(new:List AV)(r:List (Nat×Nat×X)):Option (List AV):=
 bif yt new.length sz&&yJ (o+sz) cs.length&&b9 new then fill tm (over o new cs) r else Gs
def aqZ(cs:List AV):fill tm cs []=Gr cs:=rfl
def aoU(cs:List AV)(o sz:Nat)(x:X)(r:List (Nat×Nat×X)):fill tm cs ((o,sz,x)::r)=lD tm cs o sz (cellsOf (aB tm x)) r:=rfl
def aeU{r:List (Nat×Nat×X)}(h1:o+1<=cs.length)(h2:dL v=ydy):lD tm cs o 1 [v] r=fill tm (over o [v] cs) r:=by
 simp[lD,b9,h2,yz h1]
def Pw{r:List (Nat×Nat×X)}(h0:new.length=sz)(h1:o+sz<=cs.length)(h2:b9 new=ydy):lD tm cs o sz new r=fill tm (over o new cs) r:=by
 subst h0;simp[lD,h2,yz h1]
def azR(v u:AV)(r:List AV):over 0 [v] (u::r)=v::r:=rfl
def azS(v a u:AV)(r:List AV):over 1 [v] (a::u::r)=a::v::r:=rfl
def azT(v a b u:AV)(r:List AV):over 2 [v] (a::b::u::r)=a::b::v::r:=rfl
def azU(v a b c u:AV)(r:List AV):over 3 [v] (a::b::c::u::r)=a::b::c::v::r:=rfl
def azV(v a b c d u:AV)(r:List AV):over 4 [v] (a::b::c::d::u::r)=a::b::c::d::v::r:=rfl
def azW(v a b c d e u:AV)(r:List AV):over 5 [v] (a::b::c::d::e::u::r)=a::b::c::d::e::v::r:=rfl
def zJ(ct sz by':Nat)(zero:List AV)(l c:Option Nat):Option (AV×Obj):=
 match l,c with
 | some l,Gr c=>bif yJ l c&&(yJ c room&&(yJ (c*by') room&&(yt zero.length sz&&b9 zero))) then Gr (.ay ct 0 l,.cells ydy (aH zero) (yt l c) sz (yk l zero).flatten) else Gs
 | _,_=>Gs
def aw2(sz by':Nat)(z:List AV)(l c:X):cM tm hp ct (.qP sz by' z l c)=zJ ct sz by' z (bT (aB tm l)) (bT (aB tm c)):=by
 simp only[cM,zJ]
 grind
def EY{l:Nat}{z:List AV}(h1:l<=1099511627776)(h2:l*by'<=1099511627776)(h3:z.length=sz)(h4:b9 z=ydy):
  zJ ct sz by' z (Gr l) (Gr l)=Gr (.ay ct 0 l,.cells ydy (aH z) ydy sz (yk l z).flatten):=by
 subst h3;simp[zJ,h4,yz (show l<=room from h1),yz (show l*by'<=room from h2),yz (yx l)]
def FE(hp:Hp)(ct sz by':Nat)(s:AV)(src:Option (Nat×List AV)):gQ:=
 match src with
 | none=>Gs
 | some (m,new)=>
  match s with
  | .aj=>
   bif yt m 0 then Gr (.aj,hp,ct)
   else bif yJ m room&&(yJ (m*by') room&&yQ 0 sz) then Gr (.ay ct 0 m,(ct,.cells ydy (aH new) ydz sz new)::hp,ct+1) else Gs
  | .au ydy n cs=>
   bif yt m 0 then Gr (.au ydy n cs,hp,ct)
   else bif yJ (n+m) room&&(yJ ((n+m)*by') room&&(yt cs.length (n*sz)&&yQ 0 sz)) then Gr (.ay ct 0 (n+m),(ct,.cells ydy (aH cs&&aH new) ydz sz (cs++new))::hp,ct+1) else Gs
  | .ay id o n=>
   match ak hp id with
   | some (.cells ydy pu _ z cs)=>
    bif yt z sz&&(yJ (n+m) room&&(yJ ((n+m)*by') room&&(yJ (o+n*sz) cs.length&&(yQ 0 sz&&b9 new)))) then
     Gr (.ay ct 0 (n+m),(ct,.cells ydy (pu&&aH new) ydz sz (slice o (n*sz) cs++new))::cN hp id,ct+1)
    else Gs
   | _=>Gs
  | _=>Gs
def aoV(sz by':Nat)(s x:X):cr tm hp ct (.ew sz by' s x)=FE hp ct sz by' (aB tm s) (pY hp sz (aB tm x)):=by
 simp only[cr,FE]
 cases pY hp sz (aB tm x) with
 | none=>rfl
 | some q=>have⟨m,new⟩:=q;cases aB tm s<;>rfl
def kL(sz id o n:Nat):pY hp sz (.ay id o n)=nP hp sz (.ay id o n):=rfl
def TV(sz:Nat)(e:Bool)(n:Nat)(cs:List AV):pY hp sz (.au e n cs)=nP hp sz (.au e n cs):=rfl
def TF(sz:Nat):pY hp sz .aj=Gr (0,[]):=rfl
def pG(o n sz:Nat)(q:Option Obj):Option (Nat×List AV):=match q with | some (.cells _ _ _ _ cs)=>bif yJ (o+n*sz) cs.length then Gr (n,slice o (n*sz) cs) else Gs | _=>Gs
def kK(sz id o n:Nat):nP hp sz (.ay id o n)=pG o n sz (ak hp id):=rfl
def azX(rw pu ex:Bool)(z:Nat)(v:AV):pG 0 1 1 (Gr (.cells rw pu ex z [v]))=Gr (1,[v]):=rfl
def aeV{rw:Bool}(h:cs.length=n*sz):pG 0 n sz (Gr (.cells rw pu ex z cs))=Gr (n,cs):=by
 simp only[pG,ye,<-h,yz (yx cs.length),yy,slice,yg,xR]
def gL{m:Nat}(hm:0<m)(h1:m<=1099511627776)(h2:m*by'<=1099511627776)(hs:0<sz):
  FE hp ct sz by' .aj (Gr (m,new))=Gr (.ay ct 0 m,(ct,.cells ydy (aH new) ydz sz new)::hp,ct+1):=by
 have e1:yt m 0=ydz:=gW (by lia);have e2:yQ 0 sz=ydy:=yz hs;simp[FE,e1,e2,yz (show m<=room from h1),yz (show m*by'<=room from h2)]
def ff{id m:Nat}(hg:ak hp id=Gr (.cells ydy pu ex sz cs))(hl:cs.length=n*sz)(h1:n+m<=1099511627776)(h2:(n+m)*by'<=1099511627776)(hs:0<sz)(ho:b9 new=ydy):
  FE hp ct sz by' (.ay id 0 n) (Gr (m,new))=Gr (.ay ct 0 (n+m),(ct,.cells ydy (pu&&aH new) ydz sz (cs++new))::cN hp id,ct+1):=by
 have e2:yQ 0 sz=ydy:=yz hs;simp only[FE,hg];simp[e2,ho,yz (show n+m<=room from h1),yz (show (n+m)*by'<=room from h2),<-hl,slice,yz (yx cs.length)]
def ail(n:Nat)(g:Nat)(cap:List AV)(q:Option (List AV×Hp)):Option (AV×Hp):=match q with | some (first,hp)=>(match cA n hp cap with | some (QG,ic)=>Gr (.fn (.f g) first QG,ic) | none=>Gs) | none=>Gs
def aim(g:Nat)(first:List AV)(q:Option (List AV×Hp)):Option (AV×Hp):=match q with | some (cap,hp)=>Gr (.fn (.f g) first cap,hp) | none=>Gs
def aw3(n g:Nat)(first cap:List AV):freeze (n+1) hp (.fn (.f g) first cap)=ail n g cap (cA n hp first):=rfl
def aw4(n g:Nat)(first cap:List AV):ail n g cap (Gr (first,hp))=aim g first (cA n hp cap):=rfl
def aw5(g:Nat)(first cap:List AV):aim g first (Gr (cap,hp))=Gr (.fn (.f g) first cap,hp):=rfl
def ain(o:Nat)(q:Option (Bool×Nat×List AV×Hp)):Option (AV×Hp):=match q with | some (_,_,cs,hp)=>Gr (.bA (cs.drop o),hp) | none=>Gs
def Vq(n id o:Nat):freeze (n+1) hp (.ptr id o)=ain o (zi n hp id):=rfl
def V1(o:Nat)(ex:Bool)(sz:Nat)(cs:List AV):ain o (Gr (ex,sz,cs,hp))=Gr (.bA (cs.drop o),hp):=rfl
def mG(o k:Nat)(q:Option (Bool×Nat×List AV×Hp)):Option (AV×Hp):=
 match q with
 | some (ex,sz,cs,hp)=>bif yJ (o+k*sz) cs.length then Gr (.au (ex&&yQ 0 sz&&yt (o+k*sz) cs.length) k (slice o (k*sz) cs),hp) else Gs
 | none=>Gs
def Vr(n id o k:Nat):freeze (n+1) hp (.ay id o k)=mG o k (zi n hp id):=rfl
def gD{k:Nat}(ex:Bool)(hl:cs.length=k*sz)(hs:0<sz):mG 0 k (Gr (ex,sz,cs,hp))=Gr (.au ex k cs,hp):=by
 have e2:yQ 0 sz=ydy:=yz hs;simp[mG,<-hl,e2,slice,yz (yx cs.length)]
def BV(n id:Nat)(hp:Hp)(q:Option Obj):Option (Bool×Nat×List AV×Hp):=
 match q with
 | some (.cells rw pu ex sz cs)=>
  bif pu then Gr (ex,sz,cs,bif rw then aR hp id (.cells ydz ydy ex sz cs) else hp)
  else match cA n hp cs with
   | some (dH,ap)=>Gr (ex,sz,dH,aR ap id (.cells ydz ydz ex sz cs))
   | none=>Gs
 | _=>Gs
def Kr(n id:Nat):zi (n+1) hp id=BV n id hp (ak hp id):=rfl
def afx(n id:Nat)(ex:Bool)(sz:Nat)(cs:List AV):BV n id hp (Gr (.cells ydy ydy ex sz cs))=Gr (ex,sz,cs,aR hp id (.cells ydz ydy ex sz cs)):=rfl
def V2(n id:Nat)(ex:Bool)(sz:Nat)(cs:List AV):BV n id hp (Gr (.cells ydz ydy ex sz cs))=Gr (ex,sz,cs,hp):=rfl
def bP(n:Nat)(cs:List AV)(h:cA n hp cs=Gr (cs,hp)):freeze (n+1) hp (.agg cs)=Gr (.agg cs,hp):=by
 simp only[freeze,h]
def abS{id:Nat}(hg:ak hp id=Gr (.cells ydy ydy ex sz cs))(hl:cs.length=n*sz)(hs:0<sz):result hp (.ay id 0 n)=Gr (.cR ex sz n cs):=by
 have e2:yQ 0 sz=ydy:=yz hs;simp only[result,zy,hg,ye,<-hl,yz (yx cs.length),yy,e2,uk,slice,yg,xR]
 simp
def aoW{k id:Nat}(hg:ak hp id=Gr (.cells ydy ydy ex sz cs))(hl:cs.length=n*sz)(hs:0<sz):zy k hp (.ay id 0 n)=Gr (.cR ex sz n cs,cN hp id):=by
 have e2:yQ 0 sz=ydy:=yz hs;simp only[zy,hg,ye,<-hl,yz (yx cs.length),yy,e2,uk,slice,yg,xR]
 simp
def aa0{id:Nat}{k:xh}{b:Int}(hg:ak hp id=Gr (.cells ydy ydy ex sz cs))(hl:cs.length=n*sz)(hs:0<sz):result hp (.av [.ay id 0 n,.int k b])=Gr (.av [.cR ex sz n cs,.int k b]):=by
 have h1:PN [.ay id 0 n,.int k b]=Gr [id]:=rfl;simp only[result,h1,Ew,aoW hg hl hs];rfl
def amh(b:Bool):result hp (.av [.aj,.bool b])=Gr (.av [.aj,.bool b]):=rfl
def ami(k:xh)(b:Int):result hp (.av [.aj,.int k b])=Gr (.av [.aj,.int k b]):=rfl
def amj(e:Bool)(n:Nat)(cs:List AV)(k:xh)(b:Int):result hp (.av [.au e n cs,.int k b])=Gr (.av [.au e n cs,.int k b]):=rfl
def aoX(s:St):rX [] s=Gr s:=rfl
def ZU(t:Nat)(r:List Nat)(tm:Env)(ct base:Nat)(q:Option (AV×Hp)):Option St:=match q with | some (v,hp)=>rX r ⟨(t,v)::tm,hp,ct,base⟩ | none=>Gs
def anE(t:Nat)(r:List Nat)(tm:Env)(hp:Hp)(ct base:Nat):rX (t::r) ⟨tm,hp,ct,base⟩=ZU t r tm ct base (freeze deep hp (ai tm t)):=by
 simp only[rX,ZU];cases freeze deep hp (ai tm t)<;>rfl
def azY(t:Nat)(r:List Nat)(tm:Env)(ct base:Nat)(v:AV)(hp:Hp):ZU t r tm ct base (Gr (v,hp))=rX r ⟨(t,v)::tm,hp,ct,base⟩:=rfl
end
attribute [go_sem] amh ami amj aoN anB aoO anC aoP aoQ aoR aqV aoS aeT aqW ats aqX att atu atv awW aqY acK
 aoT anD awX awY azP aBs awZ aw0 aw1 azQ adE ahb XU atw aqZ aoU azR azS azT azU azV azW aw2
 aoV kL TV TF kK azX aw3 aw4 aw5 Vq V1 Vr gD eQ aeU Kr afx V2 aoX anE azY
 Bool.and_false wH yg eq_self
end
def adF:∀hp:Hp,cG 0 hp=[]
 | []=>rfl
 | (id,o)::r=>by
  have:yQ id 0=ydz:=rfl
  simp only[cG,this,yT,adF r]
def afy(f:Nat->Option Nat):∀hp:Hp,gM 0 f hp=[]
 | []=>rfl
 | (id,o)::r=>by
  have:yQ id 0=ydz:=rfl
  simp only[gM,this,yT,afy f r]
def pos(seen:List Nat):Nat->Option Nat:=fun id=>fN id seen 0
def XV(tm:Env)(hp:Hp)(seen:List Nat):St:=⟨fM (pos seen) tm,ep hp (pos seen) seen 0 [],seen.length,0⟩
def mR(hp:Hp):Nat->List Nat->List Nat->List Nat:=reach hp 0
def aq(live:List Nat)(tm:Env)(hp:Hp)(ct:Nat):bB live ⟨tm,hp,ct,0⟩=XV (bD tm live) hp (mR hp 100000 (dN (bD tm live)) []):=by
 have e:∀seen,iK 0 seen=pos seen:=fun seen=>by
  funext id
  have:yQ id 0=ydz:=rfl
  simp only[iK,this,yT,pos]
 simp only[bB,adF,wu,e,afy,XV,mR,ye]
def aoY:dN []=[]:=rfl
def abT(i:Nat)(v:AV)(r:Env):dN ((i,v)::r)=refs v++dN r:=rfl
def aq0(k:xh)(n:Int):refs (.int k n)=[]:=rfl
def aoZ(b:Bool):refs (.bool b)=[]:=rfl
def aq1(s:List Nat):refs (.str s)=[]:=rfl
def ao0:refs .aj=[]:=rfl
def aq2(e:Bool)(n:Nat)(cs:List AV):refs (.au e n cs)=[]:=rfl
def ao1(cs:List AV):refs (.bA cs)=[]:=rfl
def anF:refs .undef=[]:=rfl
def aq3(id o:Nat):refs (.ptr id o)=[id]:=rfl
def aq4(id o n:Nat):refs (.ay id o n)=[id]:=rfl
def atx(g:Nat)(a b:List AV):refs (.fn (.f g) a b)=fX a++fX b:=rfl
def aw6(l:Nat)(a b:List AV):refs (.fn (.y l) a b)=[l]:=rfl
def aq5(cs:List AV):refs (.agg cs)=fX cs:=rfl
def ao2:fX []=[]:=rfl
def anG(v:AV)(r:List AV):fX (v::r)=refs v++fX r:=rfl
def RN(hp:Hp)(n id:Nat)(cW seen:List Nat)(q:Option Obj):List Nat:=match q with | some o=>mR hp n (eV o++cW) (seen++[id]) | none=>mR hp n cW seen
def RO(hp:Hp)(n id:Nat)(cW seen:List Nat)(b:Bool):List Nat:=bif b then mR hp n cW seen else RN hp n id cW seen (ak hp id)
def aeW(hp:Hp)(n:Nat)(seen:List Nat):mR hp (n+1) [] seen=seen:=rfl
def Ke(hp:Hp)(n id:Nat)(cW seen:List Nat):mR hp (n+1) (id::cW) seen=RO hp n id cW seen (jK id seen):=by
 have:yQ id 0=ydz:=rfl
 simp only[mR,reach,this,vT,RO,RN]
 cases jK id seen with
 | true=>rfl
 | false=>simp only[yT];cases ak hp id<;>rfl
def aw7(hp:Hp)(n id:Nat)(cW seen:List Nat):RO hp n id cW seen ydy=mR hp n cW seen:=rfl
def Lh(hp:Hp)(n id:Nat)(cW seen:List Nat):RO hp n id cW seen ydz=RN hp n id cW seen (ak hp id):=rfl
def Li(hp:Hp)(n id:Nat)(cW seen:List Nat)(o:Obj):RN hp n id cW seen (Gr o)=mR hp n (eV o++cW) (seen++[id]):=rfl
def adG(i:Nat):jK i []=ydz:=rfl
def adH(i:Nat)(r:List Nat):jK i (i::r)=ydy:=by simp only[jK,wK,yy]
def acL{i j:Nat}(r:List Nat)(h:j≠i):jK i (j::r)=jK i r:=by simp only[jK,gW h,yT]
def Vs(rw ex:Bool)(sz:Nat)(cs:List AV):eV (.cells rw ydy ex sz cs)=[]:=rfl
def Px(rw ex:Bool)(sz:Nat)(cs:List AV):eV (.cells rw ydz ex sz cs)=fX cs:=rfl
def aq6(tm:Env)(ps:List Nat)(a b:VC)(st:Nat)(pe:AG):eV (.lp tm ps a b st pe)=dN tm:=rfl
def aeX(i:Nat)(r:List Nat)(k:Nat):fN i (i::r) k=Gr k:=by simp only[fN,wK,yy]
def adI{i j:Nat}(r:List Nat)(k:Nat)(h:j≠i):fN i (j::r) k=fN i r (k+1):=by simp only[fN,gW h,yT]
def pos_eq(seen:List Nat)(i:Nat):pos seen i=fN i seen 0:=rfl
def Qp(o:Nat)(q:Option Nat):AV:=match q with | some j=>.ptr j o | none=>.undef
def Qq(o n:Nat)(q:Option Nat):AV:=match q with | some j=>.ay j o n | none=>.undef
def aq7(s:List Nat):fM (pos s) []=[]:=rfl
def ao3(s:List Nat)(i:Nat)(v:AV)(r:Env):fM (pos s) ((i,v)::r)=(i,br (pos s) v)::fM (pos s) r:=rfl
def aty(s:List Nat)(k:xh)(n:Int):br (pos s) (.int k n)=.int k n:=rfl
def aq8(s:List Nat)(b:Bool):br (pos s) (.bool b)=.bool b:=rfl
def atz(s:List Nat)(t:List Nat):br (pos s) (.str t)=.str t:=rfl
def aq9(s:List Nat):br (pos s) .aj=.aj:=rfl
def atA(s:List Nat)(e:Bool)(n:Nat)(cs:List AV):br (pos s) (.au e n cs)=.au e n cs:=rfl
def ara(s:List Nat)(cs:List AV):br (pos s) (.bA cs)=.bA cs:=rfl
def ao4(s:List Nat):br (pos s) .undef=.undef:=rfl
def atB(s:List Nat)(id o:Nat):br (pos s) (.ptr id o)=Qp o (fN id s 0):=rfl
def atD(s:List Nat)(id o n:Nat):br (pos s) (.ay id o n)=Qq o n (fN id s 0):=rfl
def aw8(s:List Nat)(g:Nat)(a b:List AV):br (pos s) (.fn (.f g) a b)=.fn (.f g) (dD (pos s) a) (dD (pos s) b):=rfl
def atE(s:List Nat)(cs:List AV):br (pos s) (.agg cs)=.agg (dD (pos s) cs):=rfl
def arb(s:List Nat):dD (pos s) []=[]:=rfl
def ao5(s:List Nat)(v:AV)(r:List AV):dD (pos s) (v::r)=br (pos s) v::dD (pos s) r:=rfl
def atF(o j:Nat):Qp o (Gr j)=.ptr j o:=rfl
def atG(o n j:Nat):Qq o n (Gr j)=.ay j o n:=rfl
def XW(hp:Hp)(f:Nat->Option Nat)(r:List Nat)(k:Nat)(acc:Hp)(q:Option Obj):Hp:=match q with | some o=>ep hp f r (k+1) ((k,fo f o)::acc) | none=>ep hp f r (k+1) acc
def ao6(hp:Hp)(s:List Nat)(k:Nat)(acc:Hp):ep hp (pos s) [] k acc=acc:=rfl
def anH(hp:Hp)(s:List Nat)(id:Nat)(r:List Nat)(k:Nat)(acc:Hp):ep hp (pos s) (id::r) k acc=XW hp (pos s) r k acc (ak hp id):=by
 simp only[ep,XW];cases ak hp id<;>rfl
def aw9(hp:Hp)(s r:List Nat)(k:Nat)(acc:Hp)(o:Obj):XW hp (pos s) r k acc (Gr o)=ep hp (pos s) r (k+1) ((k,fo (pos s) o)::acc):=rfl
def V3(f:Nat->Option Nat)(rw ex:Bool)(sz:Nat)(cs:List AV):fo f (.cells rw ydy ex sz cs)=.cells rw ydy ex sz cs:=rfl
def Lj(f:Nat->Option Nat)(rw ex:Bool)(sz:Nat)(cs:List AV):fo f (.cells rw ydz ex sz cs)=.cells rw ydz ex sz (dD f cs):=rfl
def atH(f:Nat->Option Nat)(tm:Env)(ps:List Nat)(a b:VC)(st:Nat)(pe:AG):fo f (.lp tm ps a b st pe)=.lp (fM f tm) ps a b st pe:=rfl
def Vt(tm:Env)(hp:Hp)(seen:List Nat):XV tm hp seen=⟨fM (pos seen) tm,ep hp (pos seen) seen 0 [],seen.length,0⟩:=rfl
attribute [go_sem] aoY abT aq0 aoZ aq1 ao0 aq2 ao1 anF aq3 aq4 atx aw6 aq5 ao2 anG aeW Ke aw7 Lh Li
 adG adH acL Vs Px aq6 aeX adI aq7 ao3 aty aq8 atz aq9 atA ara ao4 atB atD aw8 atE arb ao5 atF atG
 ao6 anH aw9 V3 Lj atH Vt yB yM
def adJ{α:Type}{p:α->Bool}{l:List α}{i:Nat}(h:i<l.length):(l.drop i).any p=(p l[i]||(l.drop (i+1)).any p):=by
 rw[yS h,List.any_cons]
def RP(f:Nat->Int):Nat->Int
 | 0=>0
 | n+1=>RP f n+f n
def aX(k id o:Nat):C8 k (.ptr id o)=Gr (.ptr id (o+k)):=rfl
def cP{α:Type}(a:α)(l:List α):uh 1 (a::l)=l:=rfl
def azZ{α:Type}(a b:α)(l:List α):uh 2 (a::b::l)=l:=rfl
def ahc{α:Type}(a b c:α)(l:List α):uh 3 (a::b::c::l)=l:=rfl
abbrev Nm(n:Int):AV:=.agg [aa n,.aj]
def Ay(hp:Hp)(ct id:Nat)(a:Int)(x y:AV):jr hp ct id 0 2 [.int .i64 a,.aj] (Gr (.cells ydy ydy ydy 2 [x,y]))=Gr (.av [],aR hp id (.cells ydy ydy ydy 2 [.int .i64 a,.aj]),ct):=rfl
def eI(b:Bool):Mr ydz (Gr b)=Gr (.bool b):=by cases b<;>rfl
def afz(f:cu)(tm:Env)(hp:Hp)(ct:Nat)(x y:X):a7 P L f tm hp ct (.mn [x,y])=rd hp ct (min2 (aB tm x) (aB tm y)):=by
 simp only[a7,rd,bm,dM,C7]
 grind
def oT(f:cu)(tm:Env)(hp:Hp)(ct:Nat)(x y:X):a7 P L f tm hp ct (.mx [x,y])=rd hp ct (max2 (aB tm x) (aB tm y)):=by
 simp only[a7,rd,bm,dM,C7]
 grind
def adK(k k':xh)(x y:Int):min2 (.int k x) (.int k' y)=Gr (.int k (if y<x then y else x)):=rfl
def rG(k k':xh)(x y:Int):max2 (.int k x) (.int k' y)=Gr (.int k (if y>x then y else x)):=rfl
def bK(n:Int):Int:=if n<0 then -1 else if n=0 then 0 else 1
def axa(n:Int):(if (if n<1 then n else 1)> -1 then (if n<1 then n else 1) else -1)=bK n:=by
 unfold bK
 grind
def n117(h:Has P L 117 QS)(n:Int):ab P L 117 [aa n] (Nm n):=by
 unfold ab;rw[aD h];simp only[go_sem,ya,yb,yq,QS,aQ,ye,Ay];rfl
def r9(hp:Hp)(p q:Bool):lI .b (.bool p) (.bool q)=Gr (p==q):=rfl
def jF{n:Nat}{sp:List AV->Option AV}(h:L.pure n=Gr sp){f:cu}(aw:List AV):bO P L f n aw=sp aw:=by simp only[bO,h]
abbrev U64(n:Int):AV:=.int .u64 n
def az0{n:Int}(h1:0<=n)(h2:n<18446744073709551616):IntKind.wrap .u64 n=n:=by
 simp only[IntKind.wrap,IntKind.signed,IntKind.bits]
 grind
def afA(n:Int):iv (.toInt .u64) (aa n)=Gr (U64 (IntKind.wrap .u64 n)):=rfl
def PX(n:Int):iv (.toInt .i64) (U64 n)=Gr (aa (IntKind.wrap .i64 n)):=rfl
def Lk(b:Bool):Mr ydy (Gr b)=Gr (.bool (!b)):=by cases b<;>rfl
def bZ(a b:AV)(r:List AV):jj 2 ydy (a::b::r)=Gr (.agg [a,b]):=rfl
def dV(a b c d:AV)(r:List AV):jj 4 ydy (a::b::c::d::r)=Gr (.agg [a,b,c,d]):=rfl
def ao7{a b:Int}(hb:0<b):(a.tmod b<0->a/b=a.tdiv b-1/\a%b=a.tmod b+b)/\(¬a.tmod b<0->a/b=a.tdiv b/\a%b=a.tmod b):=by
 have h1:=Int.mul_tdiv_add_tmod a b;have h2:a.tmod b<b:=Int.tmod_lt_of_pos a hb;have h3: -b<a.tmod b:=Int.lt_tmod_of_pos a hb;refine⟨fun h=>(yat hb).2 ⟨?_,?_,?_⟩,fun h=>(yat hb).2 ⟨?_,?_,?_⟩⟩
 .grind
 .lia
 .lia
 .lia
 .lia
 .lia
def arc(a b:Nat)(hb:b≠0):wU b (a%b)=wU a b:=by
 rw[yai b,<-ydg,yai]
def dG(a b:Int):Int:=a/(vA a b:Nat)
def dP(a b:Int):Int:=b/(vA a b:Nat)
def Py{a b:Int}(hb:0<b):(0:Int)<(vA a b:Nat):=by
 have:=Int.gcd_pos_of_ne_zero_right a (show b≠0 by lia)
 lia
def axb(a b:Int):a=(vA a b:Nat)*dG a b:=(ybu (yav a b)).symm
def axc(a b:Int):b=(vA a b:Nat)*dP a b:=(ybu (yap a b)).symm
def Kf{a b:Int}(hb:0<b):0<dP a b:=by
 have h1:=Py (a:=a) hb;have h2:=axc a b;rcases Int.lt_trichotomy (dP a b) 0 with h | h | h
 .have:=Int.mul_neg_of_pos_of_neg h1 h;lia
 .grind
 .exact h
def adL(a b:Int):(dG a b).natAbs<=a.natAbs:=by
 unfold dG;rw[tv (yav a b)];exact vD _ _
def adM(a b:Int):(dP a b).natAbs<=b.natAbs:=by
 unfold dP;rw[tv (yap a b)];exact vD _ _
def sn(a b:Int):List Nat:=if dP a b=1 then bc (dG a b) else bc (dG a b)++[47]++bc (dP a b)
section
variable {s:List Nat}{n:Nat}
def ahd{b:Nat}(h:¬a<b):yQ a b=ydz:=by
 cases hb:yQ a b with
 | false=>rfl
 | true=>exact absurd (yA hb) (by lia)
def Vu:∀(f n:Nat) (acc:List Nat),n<f->oR f n acc=oR f n []++acc
 | 0,_,_,h=>by lia
 | f+1,n,acc,h=>by
  simp only[oR];by_cases h1:n<10
  .rw [show yQ n 10=ydy from yz h1];rfl
  .rw [show yQ n 10=ydz from ahd (by lia)];rw[Vu f (n/10) _ (by lia),Vu f (n/10) [48+n%10] (by lia)]
   simp
def Uv{f:Nat}(h:n<10):oR (f+1) n []=[48+n]:=by
 simp only[oR];rw[show yQ n 10=ydy from yz h];rfl
def Vv{f:Nat}(h:¬n<10)(hf:n<=f):oR (f+1) n []=oR f (n/10) []++[48+n%10]:=by
 rw[<-Vu f (n/10) _ (by lia)];simp only[oR];rw[show yQ n 10=ydz from ahd (by lia)];rfl
def ard:∀(n f:Nat),n<f->oR f n []=az n:=by
 intro n
 induction n using ub with
 | _ n ih=>
  intro f hf;obtain⟨g,rfl⟩:∃g,f=g+1:=⟨f-1,by lia⟩;by_cases h:n<10
  .rw [Uv h];unfold az;rw[Uv h]
  .rw [Vv h (by lia),ih (n/10) (by lia) g (by lia)];unfold az;rw[Vv h (yx n),ih (n/10) (by lia) n (by lia)];rfl
def pQ(h:n<10):az n=[48+n]:=Uv h
def rH(h:¬n<10):az n=az (n/10)++[48+n%10]:=by
 rw[show az n=oR (n+1) n [] from rfl,Vv h (yx n),ard (n/10) n (by lia)]
def zm:∀{k n:Nat},n<10^(k+1)->(az n).length<=k+1
 | 0,n,h=>by rw[pQ (by simpa using h)];simp
 | k+1,n,h=>by
  by_cases h1:n<10
  .rw [pQ h1];simp
  .rw [rH h1,yW]
   have:n/10<10^(k+1):=by
    grind
   have:=zm this
   grind
def Ow(h:n<18446744073709551616):(az n).length<=20:=zm (k:=19) (by lia)
def mz(n:Nat):bc (n:Int)=az n:=rfl
def oO{n:Int}(h:n<0):bc n=45::az n.natAbs:=by
 cases n with
 | ofNat n=>exact absurd h (by simp)
 | negSucc n=>rfl
def bS:List Nat->Nat
 | []=>0
 | b::r=>if b=47 then 0 else bS r+1
def am1{i:Nat}(h:i<s.length):bS (s.drop i)=if s[i]=47 then 0 else bS (s.drop (i+1))+1:=by
 rw[yS h];rfl
def J5:∀s:List Nat,bS s<=s.length
 | []=>yx _
 | b::r=>by
  unfold bS
  have:=J5 r
  grind
def dt:List Nat->Bool
 | []=>ydy
 | b::r=>yJ 48 b&&yJ b 57&&dt r
def Ob:∀(a b:List Nat),dt (a++b)=(dt a&&dt b)
 | [],b=>by simp[dt]
 | x::a,b=>by simp[dt,Ob a b,Bool.and_assoc]
def CH(n:Nat):dt (az n)=ydy:=by
 induction n using ub with
 | _ n ih=>
  by_cases h:n<10
  .rw [pQ h];simp[dt];lia
  .rw [rH h,Ob,ih (n/10) (by lia)];simp[dt];lia
def JN:∀{s:List Nat} (r:List Nat),dt s=ydy->bS (s++r)=s.length+bS r
 | [],r,_=>by simp
 | b::s,r,h=>by
  simp only[dt,yf] at h;have h1:=yA h.1.1;simp only[xe,bS,yB];rw[yp (by lia),JN r h.2]
  lia
def Oc:∀(l:List Nat) (a d:Nat),d<10->cQ (l++[48+d]) a=(cQ l a).map (fun v=>10*v+d)
 | [],a,d,h=>by
  simp only[xt,cQ];rw[show yJ 48 (48+d)=ydy from yz (by lia),show yJ (48+d) 57=ydy from yz (by lia)]
  simp
 | b::l,a,d,h=>by
  simp only[xe,cQ]
  cases (yJ 48 b&&yJ b 57) with
  | true=>exact Oc l _ d h
  | false=>rfl
def Bp(n:Nat):cQ (az n) 0=Gr n:=by
 induction n using ub with
 | _ n ih=>
  by_cases h:n<10
  .rw [pQ h]
   have:=Oc [] 0 n h
   simpa[cQ] using this
  .rw [rH h,Oc _ _ _ (by lia),ih (n/10) (by lia)]
   simp;lia
def ao8{i v:Nat}(h:i<s.length)(hv:cQ (s.drop i) a=Gr v):48<=s[i]/\s[i]<=57/\cQ (s.drop (i+1)) (10*a+(s[i]-48))=Gr v:=by
 rw[yS h] at hv;simp only[cQ] at hv
 cases hb:(yJ 48 s[i]&&yJ s[i] 57) with
 | false=>rw[hb] at hv;cases hv
 | true=>
  simp_all
def jN:Nat->Nat->List Nat
 | 0,_=>[]
 | k+1,n=>jN k (n/10)++[48+n%10]
def UZ:∀k n,(jN k n).length=k
 | 0,_=>rfl
 | k+1,n=>by simp[jN,UZ k]
def O2:∀(k m r:Nat),0<m->r<10^k->az (m*10^k+r)=az m++jN k r
 | 0,m,r,_,h=>by simp at h;subst h;simp[jN]
 | k+1,m,r,hm,h=>by
  have h1:m*10^(k+1)+r=(m*10^k)*10+r:=by grind
  have hp:0<m*10^k:=wV hm (ycl (by decide));have e1:(m*10^(k+1)+r)/10=m*10^k+r/10:=by lia
  have e2:(m*10^(k+1)+r)%10=r%10:=by lia
  rw[rH (by lia),e1,e2,O2 k m (r/10) hm (by rw[xp] at h;lia)]
  simp[jN]
def adN:∀(k r a:Nat),r<10^k->cQ (jN k r) a=Gr (a*10^k+r)
 | 0,r,a,h=>by simp at h;subst h;simp[jN,cQ]
 | k+1,r,a,h=>by
  rw[jN,Oc _ _ _ (xE _ (by decide)),adN k (r/10) a (by lia)];simp only[vd,yc,xp]
  grind
def are{m:Nat}(h:1000000000<=m):az m=az (m/1000000000)++jN 9 (m%1000000000):=by
 have:=O2 9 (m/1000000000) (m%1000000000) (by lia) (by lia)
 grind
end
def jz(s:List Nat)(l h:Option Nat):Option AV:=
 match l,h with
 | some l,Gr h=>bif yJ l h&&yJ h s.length then Gr (.str ((s.take h).drop l)) else Gs
 | _,_=>Gs
def fG(hp:Hp)(s:List Nat)(tm:Env)(lo hi:Option X):fY hp .str (.str s) tm lo hi=jz s (c6 tm 0 lo) (c6 tm s.length hi):=by
 unfold jz;simp only[fY]
 grind
def fV(tm:Env)(d:Nat):c6 tm d Gs=Gr d:=rfl
def eE(tm:Env)(d:Nat)(x:X):c6 tm d (Gr x)=bT (aB tm x):=rfl
def mV{s:List Nat}{l h:Nat}(h1:l<=h)(h2:h<=s.length):jz s (Gr l) (Gr h)=Gr (.str ((s.take h).drop l)):=by
 simp[jz,yz h1,yz h2]
def iH{a b:List Nat}(h:a.length+b.length<=9223372036854775807):binOp .add (.str a) (.str b)=Gr (.str (a++b)):=by
 show Lt .add a b=_
 simp only[Lt,yz h,yy]
def atI(k:xh)(n:Int):iv (.toInt .i64) (.int k n)=Gr (aa (IntKind.wrap .i64 n)):=rfl
def nQ(a b:List Nat):binOp .eql (.str a) (.str b)=Gr (.bool (db a b)):=rfl
def zq{s:List Nat}{i:Nat}(h:i<s.length):oX i (.str s)=Gr (.int .u8 (s[i]:Nat)):=by
 simp only[oX,xu h]
def abU{r:Nat}(h:r<10):jz [48,49,50,51,52,53,54,55,56,57] (Gr r) (Gr (r+1))=Gr (.str [48+r]):=by
 have:r=0\/r=1\/r=2\/r=3\/r=4\/r=5\/r=6\/r=7\/r=8\/r=9:=by lia
 rcases this with rfl | rfl | rfl | rfl | rfl | rfl | rfl | rfl | rfl | rfl<;>rfl
def XX(h:Has P L 292 BT){n:Nat}(hn:n<9223372036854775808):ab P L 292 [aa n,aa 1] (.str (az n)):=by
 have key:=fK P L [0,1,5] p7
  (fun k st=>∃(m:Nat) (s:List Nat),st=⟨[(0,aa m),(1,aa 1),(5,.str s)],[],0,0⟩/\m<=n/\m+(1-s.length)=k/\s.length<=20/\((s=[]/\m=n)\/(0<s.length/\(m=0->s=az n)/\(0<m->az n=az m++s))))
  (fun ex st=>∃tm ct,st=⟨tm,[],ct,0⟩/\ex=.exit 0/\ai tm 5=.str (az n)) ?_
 .unfold ab;rw[aD h];simp only[go_sem,BT];generalize hq:D P L (.loop _ p7) _=q;obtain⟨ex,st,rfl,tm,ct,rfl,rfl,h2⟩:=bg hq (key (n+1)) ⟨n,[],by simp only[go_sem,ya,aq]<;>rfl,by lia,rfl,by simp,.inl ⟨rfl,rfl⟩⟩
  simp only[go_sem,aq,h2]
 .rintro k st ⟨m,s,rfl,hm,hk,hl,hs⟩;by_cases A9:0<m\/s.length<1
  .left
   have hc:((decide ((0:Int)<m))=ydy)\/((decide ((0:Int)<m))=ydz/\((s.length:Nat):Int)<1):=by
    by_cases h0:0<m
    .exact .inl (yN (by lia))
    .exact .inr ⟨yC (by lia),by lia⟩
   have hr:((m:Int)).tmod 10=((m%10:Nat):Int):=by rw[xN (by lia)];rfl
   have hq:((m:Int)).tdiv 10=((m/10:Nat):Int):=by rw[xV (by lia)];rfl
   have hd:=abU (r:=m%10) (by lia);have fin:∃s' k',D P L p7 ⟨[(0,aa m),(1,aa 1),(5,.str s)],[],0,0⟩=Gr (.normal,s')/\k'<k/\bB [0,1,5] s'=⟨[(0,aa (m/10:Nat)),(1,aa 1),(5,.str ([48+m%10]++s))],[],0,0⟩/\m/10+(1-([48+m%10]++s).length)=k':=by
    rcases hc with hc | ⟨hc,DO⟩
    .have hc:(0:Int)<m:=of_decide_eq_true hc
     simp only[go_sem,ya,yb,p7,hc,eU _ _ _ (show (10:Int)≠0 by decide),eO _ _ _ (show (10:Int)≠0 by decide),hr,hq,wrapN (n:=m%10+1) (by lia),wrap64 (n:=((m/10:Nat):Int)) (by lia) (by lia),fG,eE,show ((m%10:Nat):Int)+1=((m%10+1:Nat):Int) from rfl,hd,iH (a:=[48+m%10]) (b:=s) (by simp;lia)]
     refine⟨_,_,rfl,?_,by simp only[go_sem,ya,aq],rfl⟩
     simp;lia
    .have hc:¬(0:Int)<m:=of_decide_eq_false hc
     simp only[go_sem,ya,yb,p7,hc,DO,eU _ _ _ (show (10:Int)≠0 by decide),eO _ _ _ (show (10:Int)≠0 by decide),hr,hq,wrapN (n:=m%10+1) (by lia),wrap64 (n:=((m/10:Nat):Int)) (by lia) (by lia),fG,eE,show ((m%10:Nat):Int)+1=((m%10+1:Nat):Int) from rfl,hd,iH (a:=[48+m%10]) (b:=s) (by simp;lia)]
     refine⟨_,_,rfl,?_,by simp only[go_sem,ya,aq],rfl⟩
     simp;lia
   have⟨s',k',f1,f2,f3,f4⟩:=fin;refine⟨s',k',f1,f2,m/10,[48+m%10]++s,f3,by lia,f4,?_,.inr ⟨by simp,fun h0=>?_,fun h0=>?_⟩⟩
   .have aHP:=Ow (n:=n) (by lia);rcases hs with ⟨rfl,rfl⟩ | ⟨h1,h2,h3⟩
    .simp
    .by_cases h0:0<m
     .have e:=congrArg uE (h3 h0);have e2:0<(az m).length:=by
       by_cases h9:m<10
       .rw [pQ h9];simp
       .rw [rH h9];simp
      simp only[yW] at e
      simp;lia
     .lia
   .have h9:m<10:=by lia
    rcases hs with ⟨rfl,rfl⟩ | ⟨h1,h2,h3⟩
    .rw [pQ h9,yR h9];rfl
    .have:0<m:=by lia
     rw[h3 this,pQ h9,yR h9]
   .have h9:¬m<10:=by lia
    rcases hs with ⟨rfl,rfl⟩ | ⟨h1,h2,h3⟩
    .rw [rH h9];simp
    .rw [h3 (by lia),rH h9];simp
  .right
   simp only[go_sem,ya,p7,show ¬(0:Int)<m by lia,show ¬((s.length:Nat):Int)<1 by lia];refine⟨_,_,rfl,by simp,_,_,rfl,rfl,?_⟩;simp only[go_sem,ya];rcases hs with ⟨rfl,rfl⟩ | ⟨h1,h2,h3⟩
   .simp at A9
   .rw [h2 (by lia)]
def aBt(h:Has P L 291 Mb){b:Nat}(ha:a<9223372036854775808)(hb:b<9223372036854775808):ab P L 291 [aa a,aa b] (aa (wU a b)):=by
 have key:=fK P L [0,1] KY
  (fun k st=>∃x y:Nat,st=⟨[(0,aa x),(1,aa y)],[],0,0⟩/\y=k/\wU x y=wU a b)
  (fun ex st=>∃tm ct,st=⟨tm,[],ct,0⟩/\ex=.exit 0/\ai tm 0=aa (wU a b)) ?_
 .unfold ab;rw[aD h];simp only[go_sem,Mb];generalize hq:D P L (.loop _ KY) _=q;obtain⟨ex,st,rfl,tm,ct,rfl,rfl,h2⟩:=bg hq (key b) ⟨a,b,by simp only[go_sem,ya,aq]<;>rfl,rfl,rfl⟩
  simp only[go_sem,aq,h2]
 .rintro k st ⟨x,y,rfl,rfl,hg⟩;by_cases hy:y=0
  .right
   subst hy;simp only[go_sem,ya,KY,show ¬(0:Int)<((0:Nat):Int) by lia];refine⟨_,_,rfl,by simp,_,_,rfl,rfl,?_⟩;simp only[go_sem,ya];rw[<-hg,Nat.gcd_zero_right]
  .left
   have hr:((x:Int)).tmod y=((x%y:Nat):Int):=by rw[xN (by lia)];rfl
   simp only[go_sem,ya,KY,show (0:Int)<y by lia,eU _ _ _ (show (y:Int)≠0 by lia),hr];refine⟨_,x%y,rfl,xE _ (by lia),y,x%y,by simp only[go_sem,ya,aq],rfl,?_⟩;rw[<-hg,yai y,<-ydg,yai]
def HQ(h:Has P L 272 L8){s:List Nat}(hl:s.length<9223372036854775808):ab P L 272 [.str s] (aa (bS s)):=by
 have key:=fK P L [0,3] GX
  (fun k st=>∃i:Nat,st=⟨[(0,.str s),(3,aa i)],[],0,0⟩/\i+k=s.length/\i+bS (s.drop i)=bS s)
  (fun ex st=>∃tm ct,st=⟨tm,[],ct,0⟩/\((ex=.ret/\ai tm 2=aa (bS s))\/(ex=.exit 0/\ai tm 0=.str s/\bS s=s.length))) ?_
 .unfold ab;rw[aD h];simp only[go_sem,L8];generalize hq:D P L (.loop _ GX) _=q;obtain⟨ex,st,rfl,tm,ct,rfl,h2⟩:=bg hq (key s.length) ⟨0,by simp only[go_sem,ya,aq]<;>rfl,by lia,by simp⟩
  rcases h2 with ⟨rfl,h2⟩ | ⟨rfl,h2,h3⟩
  .simp only [go_sem,h2]
  .simp only [go_sem,aq,h2,h3]
 .rintro k st ⟨i,rfl,hk,hs⟩;by_cases hi:i<s.length
  .rw [am1 hi] at hs;by_cases h7:s[i]=47
   .right
    rw[yE h7] at hs;simp only[go_sem,ya,GX,show (i:Int)<s.length by lia,zq hi,show ((s[i]:Nat):Int)=47 by lia];refine⟨_,_,rfl,by simp,_,_,rfl,.inl ⟨rfl,?_⟩⟩;simp only[go_sem];rw[<-hs];rfl
   .left
    rw[yp h7] at hs;simp only[go_sem,ya,GX,show (i:Int)<s.length by lia,zq hi,show ¬((s[i]:Nat):Int)=47 by lia];refine⟨_,k-1,rfl,by lia,i+1,?_,by lia,by lia⟩;rw[wrap64 (by lia) (by lia)];simp only[go_sem,ya,aq]<;>rfl
  .right
   simp only[go_sem,ya,GX,show ¬(i:Int)<s.length by lia];refine⟨_,_,rfl,by simp,_,_,rfl,.inr ⟨rfl,rfl,?_⟩⟩;rw[xb (by lia)] at hs;simp only[bS] at hs
   lia
def Mt(h:Has P L 290 HI){s:List Nat}{v:Nat}(hl:s.length<=18)(hv:cQ s 0=Gr v):ab P L 290 [.str s] (aa v):=by
 have key:=fK P L [0,3,4] KX
  (fun k st=>∃i a:Nat,st=⟨[(0,.str s),(3,aa a),(4,aa i)],[],0,0⟩/\i+k=s.length/\a<10^i/\cQ (s.drop i) a=Gr v)
  (fun ex st=>∃tm ct,st=⟨tm,[],ct,0⟩/\ex=.exit 0/\ai tm 3=aa v) ?_
 .unfold ab;rw[aD h];simp only[go_sem,HI];generalize hq:D P L (.loop _ KX) _=q;obtain⟨ex,st,rfl,tm,ct,rfl,rfl,h2⟩:=bg hq (key s.length) ⟨0,0,by simp only[go_sem,ya,aq]<;>rfl,by lia,by simp,hv⟩
  simp only[go_sem,aq,h2]
 .rintro k st ⟨i,a,rfl,hk,ha,hs⟩;by_cases hi:i<s.length
  .left
   have⟨h1,h2,h3⟩:=ao8 hi hs;have hp:10^i<=10^17:=y8 (by decide) (by lia);have hb:IntKind.wrap .i64 ((s[i]:Nat):Int)=((s[i]:Nat):Int):=wrap64 (by lia) (by lia)
   simp only[go_sem,ya,KX,show (i:Int)<s.length by lia,zq hi,atI,hb,wrap64 (n:=10*(a:Int)) (by lia) (by lia),wrap64 (n:=10*(a:Int)+(s[i]:Nat)) (by lia) (by lia),wrap64 (n:=10*(a:Int)+(s[i]:Nat)-48) (by lia) (by lia)];refine⟨_,k-1,rfl,by lia,i+1,10*a+(s[i]-48),?_,by lia,?_,h3⟩
   .rw [wrap64 (by lia) (by lia),show 10*(a:Int)+(s[i]:Nat)-48=((10*a+(s[i]-48):Nat):Int) by lia];simp only[go_sem,ya,aq]<;>rfl
   .rw [xp];lia
  .right
   simp only[go_sem,ya,KX,show ¬(i:Int)<s.length by lia];refine⟨_,_,rfl,by simp,_,_,rfl,rfl,?_⟩;rw[xb (by lia)] at hs;simp only[cQ,yc] at hs;subst hs;simp only[go_sem,ya]
def Pz(a:Int):(if 0-a>a then 0-a else a)=(a.natAbs:Int):=by lia
def O3(a b:Int):a.tdiv (vA a b:Nat)=dG a b:=yba (yav a b)
def O4(a b:Int):b.tdiv (vA a b:Nat)=dP a b:=yba (yap a b)
def pR(n:Int):(if n<0 then [45] else [])++az n.natAbs=bc n:=by
 split
 .rename_i h;rw[oO h];rfl
 .rename_i h;obtain⟨m,rfl⟩:∃m:Nat,n=m:=⟨n.toNat,by lia⟩;rfl
def arf{n:Int}(h:n.natAbs<18446744073709551616):(bc n).length<=21:=by
 rw[<-pR]
 have:=Ow h
 grind
def atJ{a b:Int}(hb:0<b):sn a b=(if 1<dP a b then (bc (dG a b)++[47])++az (dP a b).natAbs else bc (dG a b)):=by
 have h:=Kf (a:=a) hb;unfold sn;by_cases h1:dP a b=1
 .grind
 .rw [yp h1,yE (by lia)];obtain⟨m,hm⟩:∃m:Nat,dP a b=m:=⟨(dP a b).toNat,by lia⟩;rw[hm];rfl
def aBu(h:Has P L 277 Fv)(XY:Has P L 291 Mb)(qC:Has P L 292 BT){a b:Int}(ha: -4000000000000000000<=a/\a<=4000000000000000000)(hb:0<b/\b<=4000000000000000000):
  ab P L 277 [aa a,aa b] (.str (sn a b)):=by
 have hn:=adL a b;have hd:=adM a b;have hp:=Kf (a:=a) hb.1;have e1:=aBt XY (a:=a.natAbs) (b:=b.natAbs) (by lia) (by lia);have e2:=XX qC (n:=(dG a b).natAbs) (by lia);have e3:=XX qC (n:=(dP a b).natAbs) (by lia);have hg:=Py (a:=a) hb.1;rw[show ((b.natAbs:Nat):Int)=b by lia,show wU a.natAbs b.natAbs=vA a b from rfl] at e1;rw[show (((dP a b).natAbs:Nat):Int)=dP a b by lia] at e3;have qV:=arf (n:=dG a b) (by lia);have mM:=Ow (n:=(dG a b).natAbs) (by lia);have hl3:=Ow (n:=(dP a b).natAbs) (by lia);have hT:=atJ (a:=a) hb.1;have hS:=pR (dG a b);unfold ab at e1 e2 e3 ⊢;rw[aD h];by_cases h0:dG a b<0
 .rw [yE h0] at hS;by_cases h1:1<dP a b
  .rw [yE h1] at hT
   simp only[go_sem,ya,Fv,show ¬a< -4000000000000000000 by lia,show ¬4000000000000000000<a by lia,show ¬b< -4000000000000000000 by lia,show ¬4000000000000000000<b by lia,show ¬b<0 by lia,wrap64 (n:=0-a) (by lia) (by lia),oT,rG,Pz,e1,eO _ _ _ (show ((vA a b:Nat):Int)≠0 by lia),O3,O4,wrap64 (n:=dG a b) (by lia) (by lia),wrap64 (n:=dP a b) (by lia) (by lia),h0,wrap64 (n:=0-dG a b) (by lia) (by lia),e2,iH (a:=[45]) (b:=az (dG a b).natAbs) (by simp;lia),hS,h1,iH (a:=bc (dG a b)) (b:=[47]) (by simp;lia),e3,iH (a:=bc (dG a b)++[47]) (b:=az (dP a b).natAbs) (by simp;lia),hT]
  .rw [yp h1] at hT
   simp only[go_sem,ya,Fv,show ¬a< -4000000000000000000 by lia,show ¬4000000000000000000<a by lia,show ¬b< -4000000000000000000 by lia,show ¬4000000000000000000<b by lia,show ¬b<0 by lia,wrap64 (n:=0-a) (by lia) (by lia),oT,rG,Pz,e1,eO _ _ _ (show ((vA a b:Nat):Int)≠0 by lia),O3,O4,wrap64 (n:=dG a b) (by lia) (by lia),wrap64 (n:=dP a b) (by lia) (by lia),h0,wrap64 (n:=0-dG a b) (by lia) (by lia),e2,iH (a:=[45]) (b:=az (dG a b).natAbs) (by simp;lia),hS,h1,hT]
 .rw [yp h0] at hS;by_cases h1:1<dP a b
  .rw [yE h1] at hT
   simp only[go_sem,ya,Fv,show ¬a< -4000000000000000000 by lia,show ¬4000000000000000000<a by lia,show ¬b< -4000000000000000000 by lia,show ¬4000000000000000000<b by lia,show ¬b<0 by lia,wrap64 (n:=0-a) (by lia) (by lia),oT,rG,Pz,e1,eO _ _ _ (show ((vA a b:Nat):Int)≠0 by lia),O3,O4,wrap64 (n:=dG a b) (by lia) (by lia),wrap64 (n:=dP a b) (by lia) (by lia),h0,wrap64 (n:=0-dG a b) (by lia) (by lia),e2,iH (a:=[]) (b:=az (dG a b).natAbs) (by simp;lia),hS,h1,iH (a:=bc (dG a b)) (b:=[47]) (by simp;lia),e3,iH (a:=bc (dG a b)++[47]) (b:=az (dP a b).natAbs) (by simp;lia),hT]
  .rw [yp h1] at hT
   simp only[go_sem,ya,Fv,show ¬a< -4000000000000000000 by lia,show ¬4000000000000000000<a by lia,show ¬b< -4000000000000000000 by lia,show ¬4000000000000000000<b by lia,show ¬b<0 by lia,wrap64 (n:=0-a) (by lia) (by lia),oT,rG,Pz,e1,eO _ _ _ (show ((vA a b:Nat):Int)≠0 by lia),O3,O4,wrap64 (n:=dG a b) (by lia) (by lia),wrap64 (n:=dP a b) (by lia) (by lia),h0,wrap64 (n:=0-dG a b) (by lia) (by lia),e2,iH (a:=[]) (b:=az (dG a b).natAbs) (by simp;lia),hS,h1,hT]
def TT(n:Int)(d:Nat):List Nat:=bc n++(if d=1 then [] else 47::az d)
def atK{a b:Int}(hb:0<b):sn a b=TT (dG a b) (dP a b).toNat:=by
 have h:=Kf (a:=a) hb;unfold sn TT;by_cases h1:dP a b=1
 .grind
 .rw [yp h1,yp (by lia)];obtain⟨m,hm⟩:∃m:Nat,dP a b=m:=⟨(dP a b).toNat,by lia⟩;rw[hm,xM];rfl
def Bs(n:Nat):0<(az n).length:=by
 by_cases h:n<10
 .rw [pQ h];simp
 .rw [rH h];simp
def Ks:∀(n:Nat),n<10^(az n).length:=by
 intro n
 induction n using ub with
 | _ n ih=>
  by_cases h:n<10
  .rw [pQ h];simpa using h
  .have:=ih (n/10) (by lia)
   rw[rH h,yW,tN,xp]
   lia
def adO{n:Nat}(h:(az n).length<=9):n<1000000000:=
 yI (Ks n) (by simpa using y8 (show 0<10 by decide) h)
def GB(n:Nat):∃b r,az n=b::r/\48<=b/\b<=57:=by
 cases hq:az n with
 | nil=>have:=Bs n;rw[hq] at this;simp at this
 | cons b r=>
  have:=CH n
  rw[hq] at this;simp only[dt,yf] at this
  simp_all
def FF(s:List Nat):oX 0 (.str (45::s))=Gr (.int .u8 45):=rfl
def V4(q:Bool)(n:Int)(d:Nat):AV:=if q=ydy then .av [aa n,aa d,.bool ydy] else .av [aa 0,aa 0,.bool ydz]
def kO(d:Nat):List Nat:=if d=1 then [] else 47::az d
def abV(d:Nat):bS (kO d)=0:=by unfold kO;split<;>rfl
def aBv(h:Has P L 276 sj)(Ds:Has P L 272 L8)(BW:Has P L 290 HI){n:Int}(hl:(TT n d).length<=20000000000):
  ∃q:Bool,ab P L 276 [.str (TT n d)] (V4 q n d)/\(q=ydy->n.natAbs<1000000000/\d<1000000000):=by
 generalize hs:TT n d=s at hl;by_cases pJ:20<s.length
 .refine ⟨ydz,?_,fun h=>by cases h⟩;unfold ab;rw[aD h];simp only[go_sem,ya,sj,show (20:Int)<s.length by lia];rfl
 .have hu:∃u,u=az n.natAbs++kO d:=⟨_,rfl⟩;have⟨u,hu⟩:=hu;have hK:∃K,K=(az n.natAbs).length:=⟨_,rfl⟩;have⟨K,hK⟩:=hK;have Is:bS u=K:=by rw[hu,JN _ (CH _),abV,hK];rfl
  have hlen:u.length=K+(kO d).length:=by rw[hu,hK,yW]
  have hp:=Bs n.natAbs;have⟨b,r,hb,kj,js⟩:=GB n.natAbs;have F9:(n<0/\s=45::u)\/(¬n<0/\s=u):=by
   by_cases h0:n<0
   .left;refine⟨h0,?_⟩;rw[<-hs,hu,TT,oO h0];rfl
   .right;refine⟨h0,?_⟩;rw[<-hs,hu,TT,<-pR,yp h0];rfl
  have hul:u.length<=s.length:=by rcases F9 with ⟨_,e⟩ | ⟨_,e⟩<;>rw[e]<;>simp
  have DY:0<u.length:=by lia
  have zZ:u[0]=b:=by
   have:u=b::(r++kO d):=by rw[hu,hb];rfl
   simp[this]
  have e1:=HQ Ds (s:=u) (by lia);rw[Is] at e1;have eY:jz u (Gr 0) (Gr K)=Gr (.str (az n.natAbs)):=by
   rw[mV (by lia) (by lia),yg,hu,hK,List.take_left]
  unfold ab at e1;by_cases h9:9<K
  .refine ⟨ydz,?_,fun h=>by cases h⟩;unfold ab;rw[aD h];rcases F9 with ⟨h0,e⟩ | ⟨h0,e⟩
   .have pJ:¬20<u.length+1:=by rw[e] at pJ;exact pJ
    have kw:jz (45::u) (Gr 1) (Gr (u.length+1))=Gr (.str u):=by rw[mV (s:=45::u) (l:=1) (h:=u.length+1) (by lia) (by simp)];simp
    rw[e];simp only[go_sem,ya,sj,show ¬(20:Int)<((u.length+1:Nat):Int) by lia,show (0:Int)<((u.length+1:Nat):Int) by lia,FF,fG,fV,eE,kw,e1,show (9:Int)<(K:Int) by lia];rfl
   .rw [e];simp only[go_sem,ya,sj,show ¬(20:Int)<(u.length:Nat) by lia,show (0:Int)<(u.length:Nat) by lia,zq DY,zZ,show ¬((b:Nat):Int)=45 by lia,e1,show (9:Int)<(K:Int) by lia];rfl
  .by_cases jo:10<(kO d).length
   .refine ⟨ydz,?_,fun h=>by cases h⟩;unfold ab;rw[aD h];rcases F9 with ⟨h0,e⟩ | ⟨h0,e⟩
    .have pJ:¬20<u.length+1:=by rw[e] at pJ;exact pJ
     have kw:jz (45::u) (Gr 1) (Gr (u.length+1))=Gr (.str u):=by rw[mV (s:=45::u) (l:=1) (h:=u.length+1) (by lia) (by simp)];simp
     rw[e]
     simp only[go_sem,ya,sj,show ¬(20:Int)<((u.length+1:Nat):Int) by lia,show (0:Int)<((u.length+1:Nat):Int) by lia,FF,fG,fV,eE,kw,e1,show ¬(9:Int)<(K:Int) by lia,wrap64 (n:=(u.length:Int)-(K:Int)) (by lia) (by lia),show (10:Int)<(u.length:Int)-(K:Int) by lia];rfl
    .rw [e]
     simp only[go_sem,ya,sj,show ¬(20:Int)<(u.length:Nat) by lia,show (0:Int)<(u.length:Nat) by lia,zq DY,zZ,show ¬((b:Nat):Int)=45 by lia,e1,show ¬(9:Int)<(K:Int) by lia,wrap64 (n:=(u.length:Int)-(K:Int)) (by lia) (by lia),show (10:Int)<(u.length:Int)-(K:Int) by lia];rfl
   .have e2:=Mt BW (s:=az n.natAbs) (by lia) (Bp n.natAbs);unfold ab at e2;have hm:=adO (n:=n.natAbs) (by lia);by_cases hd:d=1
    .subst hd;have iV:kO 1=[]:=rfl;refine⟨ydy,?_,fun _=>⟨hm,by decide⟩⟩;rw[iV] at hlen;simp only[yM,y7] at hlen;unfold ab;rw[aD h];rcases F9 with ⟨h0,e⟩ | ⟨h0,e⟩
     .have pJ:¬20<u.length+1:=by rw[e] at pJ;exact pJ
      have kw:jz (45::u) (Gr 1) (Gr (u.length+1))=Gr (.str u):=by rw[mV (s:=45::u) (l:=1) (h:=u.length+1) (by lia) (by simp)];simp
      rw[e]
      simp only[go_sem,ya,sj,show ¬(20:Int)<((u.length+1:Nat):Int) by lia,show (0:Int)<((u.length+1:Nat):Int) by lia,FF,fG,fV,eE,kw,e1,show ¬(9:Int)<(K:Int) by lia,wrap64 (n:=(u.length:Int)-(K:Int)) (by lia) (by lia),show ¬(10:Int)<(u.length:Int)-(K:Int) by lia,eY,e2,show ¬(K:Int)<(u.length:Int) by lia,wrap64 (n:=0-(n.natAbs:Int)) (by lia) (by lia)];rw[show 0-(n.natAbs:Int)=n by lia];rfl
     .rw [e]
      simp only[go_sem,ya,sj,show ¬(20:Int)<(u.length:Nat) by lia,show (0:Int)<(u.length:Nat) by lia,zq DY,zZ,show ¬((b:Nat):Int)=45 by lia,fG,fV,eE,e1,show ¬(9:Int)<(K:Int) by lia,wrap64 (n:=(u.length:Int)-(K:Int)) (by lia) (by lia),show ¬(10:Int)<(u.length:Int)-(K:Int) by lia,eY,e2,show ¬(K:Int)<(u.length:Int) by lia];rw[show (n.natAbs:Int)=n by lia];rfl
    .have iV:kO d=47::az d:=yp hd;have Ns:(kO d).length=(az d).length+1:=by rw[iV];rfl
     have hpd:=Bs d;have hd9:=adO (n:=d) (by lia);have e3:=Mt BW (s:=az d) (by lia) (Bp d);unfold ab at e3;have DO:jz u (Gr (K+1)) (Gr u.length)=Gr (.str (az d)):=by
      rw[mV (by lia) (yx _),xR,hu,iV,hK,show (az n.natAbs).length+1=(az n.natAbs++[47]).length by simp,show az n.natAbs++47::az d=(az n.natAbs++[47])++az d by simp,List.drop_left]
     refine⟨ydy,?_,fun _=>⟨hm,hd9⟩⟩;unfold ab;rw[aD h];rcases F9 with ⟨h0,e⟩ | ⟨h0,e⟩
     .have pJ:¬20<u.length+1:=by rw[e] at pJ;exact pJ
      have kw:jz (45::u) (Gr 1) (Gr (u.length+1))=Gr (.str u):=by rw[mV (s:=45::u) (l:=1) (h:=u.length+1) (by lia) (by simp)];simp
      rw[e]
      simp only[go_sem,ya,sj,show ¬(20:Int)<((u.length+1:Nat):Int) by lia,show (0:Int)<((u.length+1:Nat):Int) by lia,FF,fG,fV,eE,kw,e1,show ¬(9:Int)<(K:Int) by lia,wrap64 (n:=(u.length:Int)-(K:Int)) (by lia) (by lia),show ¬(10:Int)<(u.length:Int)-(K:Int) by lia,eY,e2,show (K:Int)<(u.length:Int) by lia,wrapN (n:=K+1) (by lia),show (K:Int)+1=((K+1:Nat):Int) from rfl,DO,e3,wrap64 (n:=0-(n.natAbs:Int)) (by lia) (by lia)];rw[show 0-(n.natAbs:Int)=n by lia];rfl
     .rw [e]
      simp only[go_sem,ya,sj,show ¬(20:Int)<(u.length:Nat) by lia,show (0:Int)<(u.length:Nat) by lia,zq DY,zZ,show ¬((b:Nat):Int)=45 by lia,fG,fV,eE,e1,show ¬(9:Int)<(K:Int) by lia,wrap64 (n:=(u.length:Int)-(K:Int)) (by lia) (by lia),show ¬(10:Int)<(u.length:Int)-(K:Int) by lia,eY,e2,show (K:Int)<(u.length:Int) by lia,wrapN (n:=K+1) (by lia),show (K:Int)+1=((K+1:Nat):Int) from rfl,DO,e3];rw[show (n.natAbs:Int)=n by lia];rfl
def XZ(h:Has P L 302 AL){l:List Int}(hv:bw v l)(i:Nat):ab P L 302 [v,aa i] (aa (l.getD i 0)):=by
 unfold ab;rw[aD h];by_cases hi:i<l.length
 .simp only [go_sem,ya,AL,hv.len,show (i:Int)<l.length by lia,hv.bj hi];simp[y9,xu hi]
 .simp only [go_sem,ya,AL,hv.len,show ¬(i:Int)<l.length by lia];simp[y9,List.getElem?_eq_none (Nat.le_of_not_lt hi)]
def aeY{e:Bool}{n:Nat}{cs:List AV}{h:Nat}{x:X}(hx:c6 tm n (Gr x)=Gr h)(hh:h<=n):
  fY hp (.sl 1) (.au e n cs) tm Gs (Gr x)=Gr (.au (e&&yt h n) h (cs.take h)):=by
 simp only[fY,hx,fV];simp[yz hh,slice];rw[show yJ 0 h=ydy from yz (tG _)];rfl
def Dt(h:Has P L 300 nk){l:List Int}(hv:bw v l)(hl:l.length<=20000000000):∃r,ab P L 300 [v] r/\bw r (eF l)/\shut r=r:=by
 rcases hv with ⟨rfl,h0⟩ | ⟨e,rfl⟩
 .have:l=[]:=by simpa using h0
  subst this;refine⟨.aj,?_,Aq,rfl⟩;unfold ab;rw[aD h];simp only[go_sem,ya,nk,Hi,EQ,aq,show ¬(0:Int)<0 by decide]
 .have key:=fK P L [0] EQ
   (fun k st=>∃(i:Nat) (e:Bool),st=⟨[(0,.au e i ((l.take i).map aa))],[],0,0⟩/\i<=l.length/\i=k/\eF (l.take i)=eF l)
   (fun ex st=>∃tm ct,st=⟨tm,[],ct,0⟩/\ex=.exit 0/\∃i e,ai tm 0=.au e i ((l.take i).map aa)/\i<=l.length/\l.take i=eF l) ?_
  .have hlen:(l.map aa).length=l.length:=by simp
   rw[hlen];have jY:∃i e',ab P L 300 [.au e l.length (l.map aa)] (.au e' i ((l.take i).map aa))/\i<=l.length/\l.take i=eF l:=by
    unfold ab;rw[aD h];simp only[go_sem,nk];generalize hq:D P L (.loop _ EQ) _=q;obtain⟨ex,st,rfl,tm,ct,rfl,rfl,i,e',h2,h3,h4⟩:=bg hq (key l.length) ⟨l.length,e,by simp only[go_sem,ya,aq,xR],yx _,rfl,by rw[xR]⟩;simp only[go_sem,aq,h2];exact⟨i,e',rfl,h3,h4⟩
   have⟨i,e',g1,g2,g3⟩:=jY;refine⟨_,g1,?_,rfl⟩;rw[<-g3]
   have:=eP e' (l.take i)
   rwa[yP,xo g2] at this
  .rintro k st ⟨i,e,rfl,hi,rfl,ht⟩
   cases i with
   | zero=>
    right
    simp only[go_sem,ya,EQ,show ¬(0:Int)<((0:Nat):Int) by lia];exact⟨_,_,rfl,by simp,_,_,rfl,rfl,0,e,rfl,tG _,by simpa[eF] using ht⟩
   | succ i=>
    have Nt:i<l.length:=by lia
    have eL:l.take (i+1)=l.take i++[l[i]]:=xn Nt;have kC:uh i ((l.take (i+1)).map aa)=[AV.int .i64 l[i]]:=by
     rw[eL,xB,tJ (by simp;lia)];rfl
    have oF:jb 1 i (.au e (i+1) ((l.take (i+1)).map aa))=Gr (.bA [AV.int .i64 l[i]]):=by
     rw[Pv e _ (by lia),yh,kC]
    by_cases h0:l[i]=0
    .left
     have pn:∀tm x,c6 tm (i+1) (Gr x)=Gr i->fY [] (.sl 1) (.au e (i+1) ((l.take (i+1)).map aa)) tm Gs (Gr x)=Gr (.au (e&&yt i (i+1)) i ((l.take i).map aa)):=fun tm x hx=>by
      rw[aeY hx (by lia),<-yaP,List.take_take,xo (by lia)]
     simp only[go_sem,ya,EQ,show (0:Int)<((i+1:Nat):Int) by lia,show ((i+1:Nat):Int)-1=(i:Int) by lia,wrapN (n:=i) (by lia),oF,h0,pn,eE];refine⟨_,i,rfl,by lia,i,_,by simp only[go_sem,aq]<;>rfl,by lia,rfl,?_⟩
     rw[<-ht,eL,h0,JS]
    .right
     simp only[go_sem,ya,EQ,show (0:Int)<((i+1:Nat):Int) by lia,show ((i+1:Nat):Int)-1=(i:Int) by lia,wrapN (n:=i) (by lia),oF,h0];refine⟨_,_,rfl,by simp,_,_,rfl,rfl,i+1,e,rfl,by lia,?_⟩;rw[<-ht,eL,Ou h0]
section
variable {hp:Hp}{l:List Nat}{n x y:Nat}
def AN:(2^64)^(n+1)=(2^64)^n*2^64:=xp ..
open Go (IntKind)
abbrev uc(n:Nat):AV:=.int .u64 (n:Int)
def bR(v:AV)(l:List Nat):Prop:=cF v (l.map uc)
section
variable {v:AV}{l:List Nat}
def bR.len(h:bR v l):gF hp 1 v=Gr (.int .i64 (l.length:Nat)):=by
 have:=cF.len (hp:=hp) h
 grind
def bR.pu(h:bR v l):aV v=ydy:=cF.pu h
def bR.ah(h:bR v l)(n:Nat):freeze (n+1) hp v=Gr (v,hp):=cF.ah h n
def bR.shut(h:bR v l):VE.shut v=v:=cF.shut h
def bR.bH(h:bR v l):VE.bH v=v:=cF.bH h
def bR.c9(h:bR v l):result hp v=Gr v:=cF.c9 h
def bR.one(h:bR v l):dL v=ydy:=cF.one h
def bR.bj(h:bR v l){i:Nat}(hi:i<l.length):jb 1 i v=Gr (.bA (uc (l.getD i 0)::(l.map uc).drop (i+1))):=by
 have:=cF.bj h (i:=i) (by simpa using hi)
 grind
def oS(e:Bool)(l:List Nat):bR (.au e l.length (l.map uc)) l:=by
 have:=Kq e (l.map uc)
 rwa[yU] at this
def zn:bR .aj []:=Aq
end
def mv{id o:Nat}{v:Nat}{ex:Bool}(h:o<l.length):jr hp ct id o 1 [.int .u64 (v:Int)] (Gr (.cells ydy ydy ex 1 (l.map uc)))=Gr (.av [],aR hp id (.cells ydy ydy ex 1 ((l.set o v).map uc)),ct):=by
 rw[Hs (by rfl) (by simp;lia) (by rfl)]
 have:over o [uc v] (l.map uc)=(l.set o v).map uc:=by
  simp only[over,yB,yM,ye];rw[List.map_set,yaj,yE (by simpa using h)]
  simp
 rw[this];rfl
def BH{o:Nat}(h:o<l.length):uh o (l.map uc)=uc (l.getD o 0)::uh (o+1) (l.map uc):=by
 rw[yS (by simpa using h)]
 grind
def atL(n:Nat):(yk n [AV.int .u64 0]).flatten=(yk n 0).map uc:=by simp_all
def FG(ct:Nat)(h:n<=100000000000):zJ ct 1 8 [.int .u64 0] (Gr n) (Gr n)=Gr (.ay ct 0 n,.cells ydy ydy ydy 1 ((yk n 0).map uc)):=by
 rw[EY (sz:=1) (by lia) (by lia) (by rfl) (by rfl),atL];rfl
def Du(hp:Hp)(h:l.length=n)(ex:Bool):mG 0 n (Gr (ex,1,l.map uc,hp))=Gr (.au ex n (l.map uc),hp):=gD ex (by simp[h]) (by decide)
def ahe(h:n<2^64):IntKind.wrap .u64 (n:Int)=n:=az0 (by lia) (by lia)
section
variable {P:aF}{L:Lib}{f:cu}
def mD{b:Nat}(h:a<b):yQ a b=ydy:=by simp_all
def EZ(h:L.pure 171=Gr p6){c:Nat}(hx:x<2^64)(hy:y<2^64)(hc:c<=1):
  bO P L f 171 [uc x,uc y,uc c]=Gr (.av [uc ((x+y+c)%2^64),uc ((x+y+c)/2^64)]):=by
 rw[jF h];show (bif yJ c 1&&(yQ x (2^64)&&yQ y (2^64)) then _ else Gs)=_
 rw[yz hc,mD hx,mD hy];rfl
def V5(h:L.pure 173=Gr CV){c:Nat}(hx:x<2^64)(hy:y<2^64)(hc:c<=1):
  bO P L f 173 [uc x,uc y,uc c]=Gr (.av [uc ((x+2^64*2-y-c)%2^64),uc (if y+c<=x then 0 else 1)]):=by
 rw[jF h];show (bif yJ c 1&&(yQ x (2^64)&&yQ y (2^64)) then _ else Gs)=_
 rw[yz hc,mD hx,mD hy];by_cases hh:y+c<=x
 .rw [yz hh,yE hh];rfl
 .have:yJ (y+c) x=ydz:=by
   cases hq:yJ (y+c) x with
   | false=>rfl
   | true=>exact absurd (yA hq) hh
  grind
def PY(h:L.pure 143=Gr Av)(hx:x<2^64)(hy:y<2^64):
  bO P L f 143 [uc x,uc y]=Gr (.av [uc (x*y/2^64),uc (x*y%2^64)]):=by
 rw[jF h];show (bif yQ x (2^64)&&yQ y (2^64) then _ else Gs)=_
 rw[mD hx,mD hy];rfl
def arh{x:X}(hx:c6 tm 0 (Gr x)=Gr 0):fY hp (.sl 1) .aj tm Gs (Gr x)=Gr .aj:=by
 simp only[fY,hx,fV]
def Dv(h:Has P L 166 Dm)(hv:bR v l)(hl:l.length<=100000000000):∃r,ab P L 166 [v] r/\bR r (eG l):=by
 rcases hv with ⟨rfl,h0⟩ | ⟨e,rfl⟩
 .have:l=[]:=by simpa using h0
  subst this;refine⟨.aj,?_,Aq⟩;unfold ab;rw[aD h];simp only[go_sem,ya,Dm,Hi,EN,aq,show ¬(0:Int)<0 by decide,arh,eE]
 .have key:=fK P L [0,3] EN
   (fun k st=>∃(i:Nat),st=⟨[(0,.au e l.length (l.map uc)),(3,aa i)],[],0,0⟩/\i<=l.length/\i=k/\eG (l.take i)=eG l)
   (fun ex st=>∃tm ct,st=⟨tm,[],ct,0⟩/\ex=.exit 0/\∃i:Nat,ai tm 0=.au e l.length (l.map uc)/\ai tm 3=aa i/\i<=l.length/\l.take i=eG l) ?_
  .have hlen:(l.map uc).length=l.length:=by simp
   rw[hlen];have jY:∃i e',ab P L 166 [.au e l.length (l.map uc)] (.au e' i ((l.take i).map uc))/\i<=l.length/\l.take i=eG l:=by
    unfold ab;rw[aD h];simp only[go_sem,ya,Dm];generalize hq:D P L (.loop _ EN) _=q;obtain⟨ex,st,rfl,tm,ct,rfl,rfl,i,h2,h3,h4,h5⟩:=bg hq (key l.length) ⟨l.length,by simp only[go_sem,ya,aq],yx _,rfl,by rw[xR]⟩;have pn:∀tm x,c6 tm l.length (Gr x)=Gr i->fY [] (.sl 1) (.au e l.length (l.map uc)) tm Gs (Gr x)=Gr (.au (e&&yt i l.length) i ((l.map uc).take i)):=fun tm x hx=>aeY hx h4
    simp only[go_sem,ya,aq,h2,h3,pn,eE];exact⟨i,_,by rw[yaP],h4,h5⟩
   have⟨i,e',g1,g2,g3⟩:=jY;refine⟨_,g1,?_⟩;rw[<-g3]
   have:=oS e' (l.take i)
   rwa[yP,xo g2] at this
  .rintro k st ⟨i,rfl,hi,rfl,ht⟩
   cases i with
   | zero=>
    right
    simp only[go_sem,ya,EN,show ¬(0:Int)<((0:Nat):Int) by lia];exact⟨_,_,rfl,by simp,_,_,rfl,rfl,0,rfl,rfl,tG _,by simpa[eG] using ht⟩
   | succ i=>
    have Nt:i<l.length:=by lia
    have eL:l.take (i+1)=l.take i++[l[i]]:=xn Nt;have oF:=(oS e l).bj Nt;rw[<-gd Nt] at oF;by_cases h0:l[i]=0
    .left
     simp only[go_sem,ya,EN,show (0:Int)<((i+1:Nat):Int) by lia,show ((i+1:Nat):Int)-1=(i:Int) by lia,wrapN (n:=i) (by lia),oF,show ((l[i]:Nat):Int)=0 by lia];refine⟨_,i,rfl,by lia,i,by simp only[go_sem,ya,aq],by lia,rfl,?_⟩;rw[<-ht,eL,h0,Ov]
    .right
     simp only[go_sem,ya,EN,show (0:Int)<((i+1:Nat):Int) by lia,show ((i+1:Nat):Int)-1=(i:Int) by lia,wrapN (n:=i) (by lia),oF,show ¬((l[i]:Nat):Int)=0 by lia];refine⟨_,_,rfl,by simp,_,_,rfl,rfl,i+1,rfl,rfl,by lia,?_⟩;rw[<-ht,eL,Gy h0]
end
end
section
variable {v w:AV}{out x y:List Nat}
def Ox(p b s:Nat):p*(s%b)+p*b*(s/b)=p*s:=by
 rw[xk,<-xJ,uF]
def ao9{b:Nat}{i c:Nat}(hi:i<out.length)(hz:out.getD i 0=0)(hv:bv b out+b^i*c=bv b (x.take i)+bv b (y.take i)):
  bv b (out.set i ((x.getD i 0+y.getD i 0+c)%b))+b^(i+1)*((x.getD i 0+y.getD i 0+c)/b)=bv b (x.take (i+1))+bv b (y.take (i+1)):=by
 have h1:=qc (b:=b) (x:=(x.getD i 0+y.getD i 0+c)%b) hi;have h2:=Ox (b^i) b (x.getD i 0+y.getD i 0+c);rw[hz,xI,y7] at h1;rw[jU,jU,xp,h1]
 grind
def apa{b:Nat}{i c z c':Nat}(hi:i<out.length)(hz:out.getD i 0=0)(hs:z+y.getD i 0+c=x.getD i 0+b*c')(hv:bv b out+bv b (y.take i)=bv b (x.take i)+b^i*c):
  bv b (out.set i z)+bv b (y.take (i+1))=bv b (x.take (i+1))+b^(i+1)*c':=by
 have h1:=qc (b:=b) (x:=z) hi;rw[hz,xI,y7] at h1;rw[jU,jU,xp,h1]
 grind
def aio(h:Has P L 158 HC)(hv:bR v x)(hw:bR w y)(hx:lo (2^64) x)(hy:lo (2^64) y)(nx:iW x)(ny:iW y)(lx:x.length<=100000000000)(ly:y.length<=100000000000):
  ab P L 158 [v,w] (aa (er (bv (2^64) x) (bv (2^64) y))):=by
 unfold ab;rw[aD h];by_cases hlen:x.length=y.length
 .have key:=fK P L [0,1,5] EM
   (fun k st=>∃j:Nat,st=⟨[(0,v),(1,w),(5,aa ((j:Int)-1))],[],0,0⟩/\j<=x.length/\j=k/\x.drop j=y.drop j)
   (fun ex st=>∃tm ct,st=⟨tm,[],ct,0⟩/\((ex=.ret/\ai tm 4=aa (er (bv (2^64) x) (bv (2^64) y)))\/(ex=.exit 0/\x=y))) ?_
  .simp only [go_sem,ya,HC,hv.len,hw.len,show (x.length:Int)=y.length by lia];generalize hq:D P L (.loop _ EM) _=q;obtain⟨ex,st,rfl,tm,ct,rfl,h2⟩:=bg hq (key x.length) ⟨x.length,by
    rw[wrap64 (by lia) (by lia),hlen]
    simp only[go_sem,ya,aq,aC hv.pu,aC hw.pu]<;>rfl,yx _,rfl,by rw[xb (yx _),xb (by lia)]⟩
   rcases h2 with ⟨rfl,h2⟩ | ⟨rfl,h2⟩
   .simp only [go_sem,h2]
   .simp only [go_sem,aq];subst h2;simp[er]
  .rintro k st ⟨j,rfl,hj,rfl,he⟩
   cases j with
   | zero=>
    right
    simp only[go_sem,ya,EM,show ¬(0:Int)<=((0:Nat):Int)-1 by lia];exact⟨_,_,rfl,by simp,_,_,rfl,.inr ⟨rfl,by simpa using he⟩⟩
   | succ i=>
    have h1:i<x.length:=by lia
    have h2:i<y.length:=by lia
    have DS:=aeO hx h1 h2 he;have aG:=aeO hy h2 h1 he.symm;by_cases c0:x.getD i 0=y.getD i 0
    .left
     simp only[go_sem,ya,EM,show ((i+1:Nat):Int)-1=(i:Int) by lia,show (0:Int)<=(i:Int) by lia,hv.bj h1,hw.bj h2,c0];refine⟨_,i,rfl,by lia,i,?_,by lia,rfl,?_⟩
     .rw [wrap64 (by lia) (by lia)];simp only[go_sem,ya,aq,aC hv.pu,aC hw.pu]<;>rfl
     .rw [yS h1,yS h2,he,gd h1,gd h2,c0]
    .by_cases c1:x.getD i 0<y.getD i 0
     .right
      simp only[go_sem,ya,EM,show ((i+1:Nat):Int)-1=(i:Int) by lia,show (0:Int)<=(i:Int) by lia,hv.bj h1,hw.bj h2,show ¬((x.getD i 0:Nat):Int)=(y.getD i 0:Nat) by lia,show ((x.getD i 0:Nat):Int)<(y.getD i 0:Nat) by lia];refine⟨_,_,rfl,by simp,_,_,rfl,.inl ⟨rfl,?_⟩⟩;simp only[go_sem];unfold er;rw[yE (DS c1)]
     .right
      simp only[go_sem,ya,EM,show ((i+1:Nat):Int)-1=(i:Int) by lia,show (0:Int)<=(i:Int) by lia,hv.bj h1,hw.bj h2,show ¬((x.getD i 0:Nat):Int)=(y.getD i 0:Nat) by lia,show ¬((x.getD i 0:Nat):Int)<(y.getD i 0:Nat) by lia];refine⟨_,_,rfl,by simp,_,_,rfl,.inl ⟨rfl,?_⟩⟩;simp only[go_sem];unfold er;rw[yp (by lia),yE (by lia)]
 .by_cases c1:x.length<y.length
  .have:=Pt (b:=2^64) (by decide) hx ny c1
   simp only[go_sem,ya,HC,hv.len,hw.len,show ¬(x.length:Int)=y.length by lia,show (x.length:Int)<y.length by lia];unfold er;rw[yE this]
  .have:=Pt (b:=2^64) (by decide) hy nx (show y.length<x.length by lia)
   simp only[go_sem,ya,HC,hv.len,hw.len,show ¬(x.length:Int)=y.length by lia,show ¬(x.length:Int)<y.length by lia];unfold er;rw[yp (by lia),yE this]
def afB(iO:L.pure 171=Gr p6)(hv:bR v x)(hw:bR w y)(hx:lo (2^64) x)(hy:lo (2^64) y)(lx:x.length<=99999999999)(ly:y.length<=x.length){n:Nat}(hn:n=x.length+1):
  cE P L [0,1,5,6,21,22] EL (fun k s=>∃(i c:Nat) (out:List Nat),s=⟨[(0,v),(1,w),(5,.ay 0 0 n),(6,uc c),(21,aa x.length),(22,aa i)],[(0,.cells ydy ydy ydy 1 (out.map uc))],1,0⟩/\i+k=x.length/\out.length=n/\c<=1/\lo (2^64) out/\
    bv (2^64) out+(2^64)^i*c=bv (2^64) (x.take i)+bv (2^64) (y.take i)/\(∀m,i<=m->out.getD m 0=0)) (fun ex s'=>∃tm c out,s'=⟨tm,[(0,.cells ydy ydy ydy 1 (out.map uc))],1,0⟩/\ex=.exit 0/\ai tm 0=v/\ai tm 5=.ay 0 0 n/\ai tm 6=uc c/\out.length=n/\c<=1/\lo (2^64) out/\
    bv (2^64) out+(2^64)^x.length*c=bv (2^64) x+bv (2^64) y/\out.getD x.length 0=0):=by
 apply cI;rintro k s ⟨i,c,out,rfl,hk,hlen,hc,aZ,aK,gR⟩;by_cases hi:i<x.length
 .left
  have hz:=gR i (yx _);have mE:=ao9 (x:=x) (y:=y) (show i<out.length by lia) hz aK;have gx:=iJ (show 0<2^64 by decide) hx i;have gy:=iJ (show 0<2^64 by decide) hy i;have e1:=EZ (P:=P) (f:=D P L) iO gx gy hc;have ex:=hv.bj hi;generalize x.getD i 0=p at*
  by_cases hj:i<y.length
  .have ey:=hw.bj hj;generalize y.getD i 0=q at*
   simp only[go_sem,ya,yh,EL,hw.len,show (i:Int)<x.length by lia,show (i:Int)<y.length by lia,ex,ey,e1,dc 0 0 (show i<n by lia),ye,mv (l:=out) (o:=i) (by lia)]
   refine⟨_,k-1,rfl,by lia,i+1,(p+q+c)/2^64,_,?_,by lia,by simp[hlen],by lia,nV aZ (x:=(p+q+c)%2^64) (i:=i) (by lia),mE,fun m hm=>?_⟩
   .rw [wrap64 (by lia) (by lia)];simp only[go_sem,ya,yb,aq,aC hv.pu,aC hw.pu]<;>rfl
   .rw [rP (by lia)];exact gR m (by lia)
  .have gS:y.getD i 0=0:=VY (by lia);rw[gS] at mE e1;rw[show (uc 0)=AV.int .u64 0 from rfl] at e1
   simp only[go_sem,ya,yh,EL,hw.len,show (i:Int)<x.length by lia,show ¬(i:Int)<y.length by lia,ex,e1,dc 0 0 (show i<n by lia),ye,mv (l:=out) (o:=i) (by lia)]
   refine⟨_,k-1,rfl,by lia,i+1,(p+0+c)/2^64,_,?_,by lia,by simp[hlen],by lia,nV aZ (x:=(p+0+c)%2^64) (i:=i) (by lia),mE,fun m hm=>?_⟩
   .rw [wrap64 (by lia) (by lia)];simp only[go_sem,ya,yb,aq,aC hv.pu,aC hw.pu]<;>rfl
   .rw [rP (by lia)];exact gR m (by lia)
 .right
  have:i=x.length:=by lia
  subst this;rw[xR,yK ly] at aK;simp only[go_sem,ya,EL,show ¬(x.length:Int)<x.length by lia];exact⟨_,_,rfl,by simp,_,c,out,rfl,rfl,rfl,rfl,rfl,hlen,hc,aZ,aK,gR _ (yx _)⟩
def aBw(h:Has P L 157 LY)(og:Has P L 166 Dm)(iO:L.pure 171=Gr p6)(hv:bR v x)(hw:bR w y)(hx:lo (2^64) x)(hy:lo (2^64) y)(lx:x.length<=99999999999)(ly:y.length<=99999999999):
  ∃r out,ab P L 157 [v,w] r/\bR r out/\lo (2^64) out/\iW out/\bv (2^64) out=bv (2^64) x+bv (2^64) y:=by
 have fin:∀{x y o:List Nat} {n c:Nat},n=x.length+1->x.length<=99999999999->o.length=n->c<=1->lo (2^64) o->bv (2^64) o+(2^64)^x.length*c=bv (2^64) x+bv (2^64) y->o.getD x.length 0=0->
   ∃r,bO P L (D P L) 166 [.au ydy n ((o.set x.length c).map uc)]=Gr r/\bR r (eG (o.set x.length c))/\lo (2^64) (eG (o.set x.length c))/\iW (eG (o.set x.length c))/\bv (2^64) (eG (o.set x.length c))=bv (2^64) x+bv (2^64) y:=by
  intro x y o n c hn lx hlen hc aZ aK hz;have aR:=qc (b:=2^64) (l:=o) (i:=x.length) (x:=c) (by lia);rw[hz,xI,y7,aK] at aR;have aBx:lo (2^64) (o.set x.length c):=nV aZ (by lia);have hf:=oS ydy (o.set x.length c);rw[List.length_set,hlen] at hf;have⟨r,e1,hr⟩:=Dv og hf (by simp;lia)
  exact⟨r,e1,hr,CN aBx,CM _,by rw[CL];exact aR⟩
 by_cases hl:x.length<y.length
 .obtain ⟨n,hn⟩:∃n,n=y.length+1:=⟨_,rfl⟩;unfold ab;rw[aD h]
  simp only[go_sem,ya,yb,LY,hv.len,hw.len,show (x.length:Int)<y.length by lia,wrapN (n:=n) (by lia),show (y.length:Int)+1=((y.length+1:Nat):Int) from rfl,<-hn,FG (n:=n) _ (by lia)];generalize hq:D P L (.loop _ EL) _=q;obtain⟨ex,s,rfl,tm,c,o,rfl,rfl,t0,t5,t6,hlen,hc,aZ,aK,hz⟩:=bg hq (afB (P:=P) (L:=L) iO hw hv hy hx ly (by lia) hn y.length)
   ⟨0,0,yk n 0,by simp only[go_sem,ya,yb,aq,aC hv.pu,aC hw.pu]<;>rfl,by lia,by simp,by lia,Hg (by decide) n,by rw[Hh];simp[bv],fun m _=>EB n m⟩
  have⟨r,e1,hr,f1,f2,f3⟩:=fin hn ly hlen hc aZ aK hz;refine⟨r,_,?_,hr,f1,f2,by rw[f3];lia⟩
  simp only[go_sem,ya,yh,aq,aC hw.pu,hw.len,t0,t5,t6,dc 0 0 (show y.length<n by lia),ye,mv (l:=o) (o:=y.length) (by lia)]
  simp only[go_sem,Du _ (n:=n) (l:=o.set y.length c) (by simp[hlen]) ydy,e1,hr.shut,hr.c9]
 .obtain ⟨n,hn⟩:∃n,n=x.length+1:=⟨_,rfl⟩;unfold ab;rw[aD h]
  simp only[go_sem,ya,yb,LY,hv.len,hw.len,show ¬(x.length:Int)<y.length by lia,wrapN (n:=n) (by lia),show (x.length:Int)+1=((x.length+1:Nat):Int) from rfl,<-hn,FG (n:=n) _ (by lia)];generalize hq:D P L (.loop _ EL) _=q;obtain⟨ex,s,rfl,tm,c,o,rfl,rfl,t0,t5,t6,hlen,hc,aZ,aK,hz⟩:=bg hq (afB (P:=P) (L:=L) iO hv hw hx hy lx (by lia) hn x.length)
   ⟨0,0,yk n 0,by simp only[go_sem,ya,yb,aq,aC hv.pu,aC hw.pu]<;>rfl,by lia,by simp,by lia,Hg (by decide) n,by rw[Hh];simp[bv],fun m _=>EB n m⟩
  have⟨r,e1,hr,f1,f2,f3⟩:=fin hn lx hlen hc aZ aK hz;refine⟨r,_,?_,hr,f1,f2,f3⟩
  simp only[go_sem,ya,yh,aq,aC hv.pu,hv.len,t0,t5,t6,dc 0 0 (show x.length<n by lia),ye,mv (l:=o) (o:=x.length) (by lia)]
  simp only[go_sem,Du _ (n:=n) (l:=o.set x.length c) (by simp[hlen]) ydy,e1,hr.shut,hr.c9]
end
section
variable {v w:AV}{x y:List Nat}{c n:Nat}
def apb{b:Nat}{out:List Nat}{j t o x y ba:Nat}(ho:o=out.getD j 0)(hj:j<out.length)(ht:t=o+x*y+c)(hv:bo+p*c=ba+p*(x*Y))(hb:bo=bv b out)(hp:p=b^j):
  bv b (out.set j (t%b))+p*b*(t/b)=ba+p*(x*(Y+0))+p*(x*y):=by
 have h1:=qc (b:=b) (x:=t%b) hj;have h2:=Ox p b t
 grind
def U1{x y:Nat}(hx:x<2^64)(hy:y<2^64)(hc:c<=1):
  (x+2^64*2-y-c)%2^64+y+c=x+2^64*(if y+c<=x then 0 else 1):=by grind
def axd(AO:L.pure 173=Gr CV)(hv:bR v x)(hw:bR w y)(hx:lo (2^64) x)(hy:lo (2^64) y)(lx:x.length<=99999999999)(ly:y.length<=x.length)(hle:bv (2^64) y<=bv (2^64) x)(hn:n=x.length):
  cE P L [0,1,5,6,13,14] GV (fun k s=>∃(i c:Nat) (out:List Nat),s=⟨[(0,v),(1,w),(5,.ay 0 0 n),(6,uc c),(13,aa x.length),(14,aa i)],[(0,.cells ydy ydy ydy 1 (out.map uc))],1,0⟩/\i+k=x.length/\out.length=n/\c<=1/\lo (2^64) out/\
    bv (2^64) out+bv (2^64) (y.take i)=bv (2^64) (x.take i)+(2^64)^i*c/\(∀m,i<=m->out.getD m 0=0)) (fun ex s'=>∃tm out,s'=⟨tm,[(0,.cells ydy ydy ydy 1 (out.map uc))],1,0⟩/\ex=.exit 0/\ai tm 5=.ay 0 0 n/\out.length=n/\lo (2^64) out/\
    bv (2^64) out+bv (2^64) y=bv (2^64) x):=by
 apply cI;rintro k s ⟨i,c,out,rfl,hk,hlen,hc,aZ,aK,gR⟩;by_cases hi:i<x.length
 .left
  have hz:=gR i (yx _);have gx:=iJ (show 0<2^64 by decide) hx i;have gy:=iJ (show 0<2^64 by decide) hy i;have pK:=U1 gx gy hc;have mE:=apa (x:=x) (y:=y) (show i<out.length by lia) hz pK aK;have e1:=V5 (P:=P) (f:=D P L) AO gx gy hc;have ex:=hv.bj hi;generalize x.getD i 0=p at*
  have kX:(if y.getD i 0+c<=p then 0 else 1)<=1:=by split<;>lia
  by_cases hj:i<y.length
  .have ey:=hw.bj hj;generalize y.getD i 0=q at*
   generalize (if q+c<=p then 0 else 1)=c1 at*
   simp only[go_sem,ya,xv,yh,GV,hw.len,show (i:Int)<x.length by lia,show (i:Int)<y.length by lia,ex,ey,e1,dc 0 0 (show i<n by lia),ye,mv (l:=out) (o:=i) (by lia)]
   refine⟨_,k-1,rfl,by lia,i+1,c1,_,?_,by lia,by simp[hlen],kX,nV aZ (x:=(p+2^64*2-q-c)%2^64) (i:=i) (by lia),mE,fun m hm=>?_⟩
   .rw [wrap64 (by lia) (by lia)];simp only[go_sem,ya,yb,xv,aq,aC hv.pu,aC hw.pu]<;>rfl
   .rw [rP (by lia)];exact gR m (by lia)
  .have gS:y.getD i 0=0:=VY (by lia);rw[gS] at mE e1 kX;rw[show (uc 0)=AV.int .u64 0 from rfl] at e1;generalize (if 0+c<=p then 0 else 1)=c1 at*
   simp only[go_sem,ya,xv,yh,GV,hw.len,show (i:Int)<x.length by lia,show ¬(i:Int)<y.length by lia,ex,e1,dc 0 0 (show i<n by lia),ye,mv (l:=out) (o:=i) (by lia)]
   refine⟨_,k-1,rfl,by lia,i+1,c1,_,?_,by lia,by simp[hlen],kX,nV aZ (x:=(p+2^64*2-0-c)%2^64) (i:=i) (by lia),mE,fun m hm=>?_⟩
   .rw [wrap64 (by lia) (by lia)];simp only[go_sem,ya,yb,xv,aq,aC hv.pu,aC hw.pu]<;>rfl
   .rw [rP (by lia)];exact gR m (by lia)
 .right
  have:i=x.length:=by lia
  subst this;rw[xR,yK ly] at aK;have aG:=nc aZ;rw[hlen,hn] at aG;simp only[go_sem,ya,GV,show ¬(x.length:Int)<x.length by lia];refine⟨_,_,rfl,by simp,_,out,rfl,rfl,rfl,hlen,aZ,?_⟩;rcases (show c=0\/c=1 by lia) with rfl | rfl
  .lia
  .lia
def aip(h:Has P L 159 QX)(og:Has P L 166 Dm)(AO:L.pure 173=Gr CV)(hv:bR v x)(hw:bR w y)(hx:lo (2^64) x)(hy:lo (2^64) y)(ny:iW y)(lx:x.length<=99999999999)(hle:bv (2^64) y<=bv (2^64) x):
  ∃r out,ab P L 159 [v,w] r/\bR r out/\lo (2^64) out/\iW out/\bv (2^64) out+bv (2^64) y=bv (2^64) x:=by
 have ly:y.length<=x.length:=by
  by_cases hh:x.length<y.length
  .have:=Pt (b:=2^64) (by decide) hx ny hh
   lia
  .lia
 obtain⟨n,hn⟩:∃n,n=x.length:=⟨_,rfl⟩;unfold ab;rw[aD h]
 simp only[go_sem,ya,yb,QX,hv.len,<-hn,FG (n:=n) _ (by lia)];generalize hq:D P L (.loop _ GV) _=q;obtain⟨ex,s,rfl,tm,o,rfl,rfl,t5,hlen,aZ,aK⟩:=bg hq (axd (P:=P) (L:=L) AO hv hw hx hy lx ly hle hn x.length)
  ⟨0,0,yk n 0,by rw[hn];simp only[go_sem,ya,yb,aq,aC hv.pu,aC hw.pu]<;>rfl,by lia,by simp,by lia,Hg (by decide) n,by rw[Hh];simp[bv],fun m _=>EB n m⟩
 have hf:=oS ydy o;rw[hlen] at hf;have⟨r,e1,hr⟩:=Dv og hf (by lia);refine⟨r,_,?_,hr,CN aZ,CM _,by rw[CL];exact aK⟩
 simp only[go_sem,yb,aq,t5,Du _ (n:=n) (l:=o) hlen ydy,e1,hr.shut,hr.c9]
def ari{x y o:Nat}(hx:x<2^64)(hy:y<2^64)(ho:o<2^64)(hc:c<2^64):
  o+x*y+c<2^64*2^64/\
  ((x*y%2^64+o+0)%2^64+c+0)%2^64=(o+x*y+c)%2^64/\
  x*y/2^64+(x*y%2^64+o+0)/2^64+((x*y%2^64+o+0)%2^64+c+0)/2^64=(o+x*y+c)/2^64:=by
 have h1:=yZ (show x<=18446744073709551615 by lia) (show y<=18446744073709551615 by lia)
 grind
def axe(oh:L.pure 143=Gr Av)(iO:L.pure 171=Gr p6)(hv:bR v x)(hw:bR w y)(hx:lo (2^64) x)(hy:lo (2^64) y)(lx:x.length<=49999999999)(ly:y.length<=49999999999){i:Nat}(hn:n=x.length+y.length)(hi:i<x.length)(ha:a<2^64):
  cE P L [1,5,6,7,8,20,21,22,27,28,29] KK (fun k s=>∃(j c:Nat) (out:List Nat),s=⟨[(1,w),(5,.ay 0 0 n),(6,aa i),(7,uc a),(8,uc c),(20,v),(21,aa x.length),(22,aa i),(27,w),(28,aa y.length),(29,aa j)],[(0,.cells ydy ydy ydy 1 (out.map uc))],1,0⟩/\j+k=y.length/\out.length=n/\c<2^64/\lo (2^64) out/\
    bv (2^64) out+(2^64)^(i+j)*c=bo+(2^64)^i*(a*bv (2^64) (y.take j))/\(∀m,i+y.length<=m->out.getD m 0=0)) (fun ex s'=>∃tm c out,s'=⟨tm,[(0,.cells ydy ydy ydy 1 (out.map uc))],1,0⟩/\ex=.exit 2/\ai tm 1=w/\ai tm 5=.ay 0 0 n/\ai tm 6=aa i/\ai tm 8=uc c/\ai tm 20=v/\ai tm 21=aa x.length/\ai tm 22=aa i/\out.length=n/\c<2^64/\lo (2^64) out/\
    bv (2^64) out+(2^64)^(i+y.length)*c=bo+(2^64)^i*(a*bv (2^64) y)/\(∀m,i+y.length<=m->out.getD m 0=0)):=by
 apply cI;rintro k s ⟨j,c,out,rfl,hk,hlen,hc,aZ,aK,gR⟩;by_cases hj:j<y.length
 .left
  have DW:(0:Nat)<2^64:=by decide
  have gy:=iJ DW hy j;have pL:=iJ DW aZ (i+j);have ey:=hw.bj hj;have e3:=BH (l:=out) (o:=i+j) (by lia);obtain⟨q,hq⟩:∃q,q=y.getD j 0:=⟨_,rfl⟩;obtain⟨o,ho⟩:∃o,o=out.getD (i+j) 0:=⟨_,rfl⟩;rw[<-hq] at gy ey;rw[<-ho] at pL e3;have⟨m1,m2,m3⟩:=ari ha gy pL hc;have hpy:a*q<2^64*2^64:=by lia
  have f1:=PY (P:=P) (f:=D P L) oh ha gy;have f2:=EZ (P:=P) (f:=D P L) iO (x:=a*q%2^64) (y:=o) (c:=0) (xE _ DW) pL (by lia);have f3:=EZ (P:=P) (f:=D P L) iO (x:=(a*q%2^64+o+0)%2^64) (y:=c) (c:=0) (xE _ DW) hc (by lia);obtain⟨t,ht⟩:∃t,t=o+a*q+c:=⟨_,rfl⟩;have mE:=apb (b:=2^64) (out:=out) (p:=(2^64)^(i+j)) (j:=i+j) (c:=c) (t:=t) (x:=a) (y:=q) (Y:=0) (ba:=bo+(2^64)^i*(a*bv (2^64) (y.take j))) ho (by lia) ht (by simpa using aK) rfl rfl;rw[m2,<-ht] at f3;rw[<-ht] at m1 m3;obtain⟨d1,rb⟩:∃d,d=(a*q%2^64+o+0)/2^64:=⟨_,rfl⟩;obtain⟨d2,jC⟩:∃d,d=((a*q%2^64+o+0)%2^64+c+0)/2^64:=⟨_,rfl⟩;rw[<-rb] at f2 m3;rw[<-jC] at f3 m3;rw[show (uc 0)=AV.int .u64 0 from rfl] at f2 f3;obtain⟨h1,kB⟩:∃d,d=a*q/2^64:=⟨_,rfl⟩;rw[<-kB] at f1 m3;have gI:h1+d1<2^64:=by lia
  have mj:h1+d1+d2<2^64:=by lia
  simp only[go_sem,ya,yh,KK,show (j:Int)<y.length by lia,ey,f1,wrapN (n:=i+j) (by lia),show (i:Int)+(j:Int)=((i+j:Nat):Int) from rfl,dc 0 0 (show i+j<n by lia),ye,e3,f2,f3,show (h1:Int)+(d1:Int)=((h1+d1:Nat):Int) from rfl,ahe gI,show ((h1+d1:Nat):Int)+(d2:Int)=((h1+d1+d2:Nat):Int) from rfl,ahe mj,mv (l:=out) (o:=i+j) (by lia)]
  refine⟨_,k-1,rfl,by lia,j+1,h1+d1+d2,_,?_,by lia,by simp[hlen],mj,nV aZ (x:=t%2^64) (i:=i+j) (xE _ DW),?_,fun m hm=>?_⟩
  .rw [wrap64 (by lia) (by lia)];simp only[go_sem,ya,yb,aq,aC hv.pu,aC hw.pu]<;>rfl
  .rw [m3,show i+(j+1)=i+j+1 by lia,AN,jU,<-hq,xJ a,xJ ((2^64)^i)];simp only[xI,y7] at mE;rw[mE,xF,<-Nat.add_assoc,xk ((2^64)^i),<-xk a,xg a ((2^64)^j),xk]
  .rw [rP (by lia)];exact gR m hm
 .right
  have:j=y.length:=by lia
  subst this;rw[xR] at aK;simp only[go_sem,ya,KK,show ¬(y.length:Int)<y.length by lia];exact⟨_,_,rfl,by simp,_,c,out,rfl,rfl,rfl,rfl,rfl,rfl,rfl,rfl,rfl,hlen,hc,aZ,aK,gR⟩
def axf(oh:L.pure 143=Gr Av)(iO:L.pure 171=Gr p6)(hv:bR v x)(hw:bR w y)(hx:lo (2^64) x)(hy:lo (2^64) y)(lx:x.length<=49999999999)(ly:y.length<=49999999999)(hn:n=x.length+y.length):
  cE P L [1,5,20,21,22] KL (fun k s=>∃(i:Nat) (out:List Nat),s=⟨[(1,w),(5,.ay 0 0 n),(20,v),(21,aa x.length),(22,aa i)],[(0,.cells ydy ydy ydy 1 (out.map uc))],1,0⟩/\i+k=x.length/\out.length=n/\lo (2^64) out/\
    bv (2^64) out=bv (2^64) (x.take i)*bv (2^64) y/\(∀m,i+y.length<=m->out.getD m 0=0)) (fun ex s'=>∃tm out,s'=⟨tm,[(0,.cells ydy ydy ydy 1 (out.map uc))],1,0⟩/\ex=.exit 0/\ai tm 5=.ay 0 0 n/\out.length=n/\lo (2^64) out/\
    bv (2^64) out=bv (2^64) x*bv (2^64) y):=by
 apply cI;rintro k s ⟨i,out,rfl,hk,hlen,aZ,aK,gR⟩;by_cases hi:i<x.length
 .left
  have gx:=iJ (show 0<2^64 by decide) hx i;have ex:=hv.bj hi;obtain⟨a,ha⟩:∃a,a=x.getD i 0:=⟨_,rfl⟩;simp only[go_sem,ya,KL,hw.len,show (i:Int)<x.length by lia,ex];generalize hq:D P L (.loop _ KK) _=q;obtain⟨ex,s,rfl,tm,c,AP,rfl,rfl,t1,t5,t6,t8,t20,t21,t22,WU,hc,aBy,WV,Mu⟩:=bg hq (axe (P:=P) (L:=L) oh iO hv hw hx hy lx ly hn hi gx (bo:=bv (2^64) out) y.length)
   ⟨0,0,out,by simp only[go_sem,ya,yb,aq,aC hv.pu,aC hw.pu]<;>rfl,by lia,hlen,by decide,aZ,by simp[bv],gR⟩
  have hz:AP.getD (i+y.length) 0=0:=Mu _ (yx _);have aR:=qc (b:=2^64) (l:=AP) (i:=i+y.length) (x:=c) (by lia);rw[hz,xI,y7,WV] at aR
  simp only[go_sem,ya,yh,aq,t1,t5,t6,t8,t20,t21,t22,hw.len,aC hv.pu,aC hw.pu,wrapN (n:=i+y.length) (by lia),show (i:Int)+(y.length:Int)=((i+y.length:Nat):Int) from rfl,dc 0 0 (show i+y.length<n by lia),ye,mv (l:=AP) (o:=i+y.length) (by lia)];refine⟨_,k-1,rfl,by lia,i+1,AP.set (i+y.length) c,?_,by lia,by simp[WU],nV aBy hc,?_,fun m hm=>?_⟩
  .rw [wrap64 (by lia) (by lia)];simp only[go_sem,ya,yb,aq,aC hv.pu,aC hw.pu]<;>rfl
  .rw [aR,aK,jU,we,<-ha,xk]
  .rw [rP (by lia)];exact Mu m (by lia)
 .right
  have:i=x.length:=by lia
  subst this;rw[xR] at aK;simp only[go_sem,ya,KL,show ¬(x.length:Int)<x.length by lia];exact⟨_,_,rfl,by simp,_,out,rfl,rfl,rfl,hlen,aZ,aK⟩
def aBz(h:Has P L 144 QV)(og:Has P L 166 Dm)(oh:L.pure 143=Gr Av)(iO:L.pure 171=Gr p6)(hv:bR v x)(hw:bR w y)(hx:lo (2^64) x)(hy:lo (2^64) y)(lx:x.length<=49999999999)(ly:y.length<=49999999999):
  ∃r out,ab P L 144 [v,w] r/\bR r out/\lo (2^64) out/\iW out/\bv (2^64) out=bv (2^64) x*bv (2^64) y:=by
 obtain⟨n,hn⟩:∃n,n=x.length+y.length:=⟨_,rfl⟩;unfold ab;rw[aD h]
 simp only[go_sem,ya,yb,QV,hv.len,hw.len,wrapN (n:=n) (by lia),show (x.length:Int)+(y.length:Int)=((x.length+y.length:Nat):Int) from rfl,<-hn,FG (n:=n) _ (by lia)];generalize hq:D P L (.loop _ KL) _=q;obtain⟨ex,s,rfl,tm,o,rfl,rfl,t5,hlen,aZ,aK⟩:=bg hq (axf (P:=P) (L:=L) oh iO hv hw hx hy lx ly hn x.length)
  ⟨0,yk n 0,by simp only[go_sem,ya,yb,aq,aC hv.pu,aC hw.pu]<;>rfl,by lia,by simp,Hg (by decide) n,by rw[Hh];simp[bv],fun m _=>EB n m⟩
 have hf:=oS ydy o;rw[hlen] at hf;have⟨r,e1,hr⟩:=Dv og hf (by lia);refine⟨r,_,?_,hr,CN aZ,CM _,by rw[CL];exact aK⟩
 simp only[go_sem,yb,aq,t5,Du _ (n:=n) (l:=o) hlen ydy,e1,hr.shut,hr.c9]
end
section
variable {b s u u2 v1 v2 y:Nat}
def Qr(n:Int):IntKind.wrap .u64 n=n%2^64:=by
 simp[IntKind.wrap,IntKind.signed,IntKind.bits]
def wrapM(n:Nat):IntKind.wrap .u64 (n:Int)=((n%2^64:Nat):Int):=by rw[Qr];lia
def so(a b:Nat):binOp .mul (uc a) (uc b)=Gr (uc (a*b%2^64)):=by
 rw[aeS,<-xx,wrapM]
def Dh(a b:Nat):binOp .add (uc a) (uc b)=Gr (uc ((a+b)%2^64)):=by
 rw[aeR,<-Int.natCast_add,wrapM]
def FH{c:Nat}(h:(a+2^64-b)%2^64=c)(hb:b<=2^64):binOp .sub (uc a) (uc b)=Gr (uc c):=by
 rw[Pu,Qr]
 grind
def afC(k k':xh)(a b:Int):binOp .shl (.int k a) (.int k' b)=Ey .shl k a b:=rfl
def afD(k k':xh)(a b:Int):binOp .shr (.int k a) (.int k' b)=Ey .shr k a b:=rfl
def Mv(k:xh)(a:Nat)(hs:s<=64):binOp .shl (.int .u64 (a:Int)) (.int k (s:Int))=Gr (uc (a*2^s%2^64)):=by
 rw[afC];simp only[Ey,yp (show ¬(s:Int)<0 by lia),wY,IntKind.bits,xo hs];rw[show ((2:Int)^s)=((2^s:Nat):Int) by simp,<-xx,wrapM]
def Mw(k:xh)(a:Nat)(hs:s<=64):binOp .shr (.int .u64 (a:Int)) (.int k (s:Int))=Gr (uc (a/2^s)):=by
 rw[afD];simp only[Ey,yp (show ¬(s:Int)<0 by lia),wY,IntKind.bits,xo hs]
 grind
def aiq(a:Nat):binOp .and (.int .u64 (a:Int)) (.int .u64 4294967295)=Gr (uc (a%4294967296)):=by
 show Gr (AV.int .u64 (IntKind.wrap .u64 ((xT 64 (a:Int)&&&xT 64 4294967295).toNat:Int)))=_
 rw[show xT 64 (a:Int)=tO 64 a from tP 64 a,show xT 64 4294967295=tO 64 4294967295 from rfl];rw[BitVec.toNat_and,ui,ui,show (4294967295%2^64:Nat)=2^32-1 from rfl,Nat.and_two_pow_sub_one_eq_mod,wrapM]
 grind
def SQ(ha:a<2^64)(hb:b<2^64):binOp .or (.int .u64 (a:Int)) (.int .u64 (b:Int))=Gr (uc (a|||b)):=by
 show Gr (AV.int .u64 (IntKind.wrap .u64 ((xT 64 (a:Int)|||xT 64 (b:Int)).toNat:Int)))=_
 congr 2
 rw[show xT 64 (a:Int)=tO 64 a from tP 64 a,show xT 64 (b:Int)=tO 64 b from tP 64 b];rw[BitVec.toNat_or,ui,ui,yR (show a<2^64 from ha),yR (show b<2^64 from hb),wrapM]
 have:a|||b<2^64:=Nat.or_lt_two_pow ha hb
 lia
def V6{c:Nat}(h:c<2^s):(p*2^s)|||c=p*2^s+c:=by
 rw[<-Nat.shiftLeft_eq,<-Nat.shiftLeft_add_eq_or_of_lt h]
def TW:∀(f n:Nat),n<2^f->dO f n<=f/\n<2^dO f n/\(0<n->0<dO f n/\2^(dO f n-1)<=n)
 | 0,n,h=>by simp[dO];simpa using h
 | f+1,n,h=>by
  simp only[dO];by_cases h0:n=0
  .simp_all
  .rw [gW h0,yT];have⟨h1,h2,h3⟩:=TW f (n/2) (by lia);refine⟨by lia,?_,fun _=>⟨by lia,?_⟩⟩
   .grind
   .rw [Nat.add_sub_cancel_left];by_cases hn:0<n/2
    .have ⟨h4,h5⟩:=h3 hn;obtain⟨m,hm⟩:∃m,dO f (n/2)=m+1:=⟨dO f (n/2)-1,by lia⟩
     grind
    .have hz:n/2=0:=by lia
     have:dO f 0=0:=by cases f with
      | zero=>rfl
      | succ f=>rfl
     grind
def U2(h0:0<y)(h:y<2^64):64-dO 64 y<64/\9223372036854775808<=y*2^(64-dO 64 y)/\y*2^(64-dO 64 y)<2^64:=by
 have⟨h1,h2,h3⟩:=TW 64 y h;have⟨h4,h5⟩:=h3 h0;generalize dO 64 y=k at*
 refine⟨by lia,?_,?_⟩
 .have:=yX (2^(64-k)) h5
  rw[<-xF,show k-1+(64-k)=63 by lia] at this;exact this
 .have:=xZ h2 (xf (64-k))
  rw[<-xF,show k+(64-k)=64 by lia] at this;exact this
section
variable {P:aF}{L:Lib}{f:cu}
def afE(h:L.pure 167=Gr Ho)(hx:x<2^64):bO P L f 167 [uc x]=Gr (aa (64-dO 64 x:Nat)):=by
 rw[jF h];show (bif yQ x (2^64) then _ else Gs)=_
 rw[mD hx];rfl
def apc{t r:Nat}(cU:v2<b)(mu:t<b)(ht:t*v1+r=u)(h:b<=r\/t*v2<=b*r+u2):t*(v1*b+v2)<=u*b+u2:=by
 have h2:t*v2<=b*r+u2:=by
  rcases h with h | h
  .have:=yZ (uY mu) (uY cU)
   have:=y5 b h
   lia
  .exact h
 rw[xJ,<-xk,<-ht,we,xg r b];lia
def az1(n:Nat):iv (.toInt .u64) (.int .i64 (n:Int))=Gr (uc (n%2^64)):=by
 show Gr (AV.int .u64 (IntKind.wrap .u64 (n:Int)))=_
 rw[wrapM]
def abm{q r:Nat}(hy:y=v1*4294967296+v2)(cU:v2<4294967296)(Iy:0<v1)(fB:v1<4294967296)(hu:u<y)(Cg:u2<4294967296)(hq:q*v1+r=u)(hr:r<4294967296)(hQ:(u*4294967296+u2)/y<=q):
  (4294967296<=q\/4294967296*r+u2<q*v2->0<q/\(q-1)*v1+(r+v1)=u/\(u*4294967296+u2)/y<=q-1/\(4294967296<=r+v1->(u*4294967296+u2)/y=q-1))/\
  (¬4294967296<=q->q*v2<=4294967296*r+u2->(u*4294967296+u2)/y=q):=by
 have gS:0<y:=by lia
 have SR:∀t s,t*v1+s=u->4294967296<=t->s<4294967296:=fun t s h1 h2=>by
  have:=yX v1 h2
  grind
 have afF:∀t s,t*v1+s=u->t<4294967296->(4294967296<=s\/t*v2<=4294967296*s+u2)->(u*4294967296+u2)/y<=t->(u*4294967296+u2)/y=t:=fun t s h1 h2 h3 h4=>by
  have:=apc cU h2 h1 h3
  rw[<-hy] at this
  have:=(tS gS).2 this
  lia
 constructor
 .intro h;have Ch:0<q:=by
   grind
  have h1:(q-1)*v1+(r+v1)=u:=by
   obtain⟨p,rfl⟩:∃p,q=p+1:=⟨q-1,by lia⟩
   grind
  have h2:(u*4294967296+u2)/y<=q-1:=by
   have aG:u*4294967296+u2<q*y:=by
    rcases h with h | h
    .have h3:u*4294967296+u2<4294967296*y:=by lia
     exact yI h3 (yX y h)
    .rw [hy,xJ,<-xk,<-hq,we,xg r];lia
   have:=(xH gS).2 aG
   lia
  exact⟨Ch,h1,h2,fun h3=>afF _ _ h1 (by
   by_cases hb:4294967296<=q-1
   .have:=SR _ _ h1 hb;lia
   .lia) (.inl h3) h2⟩
 .intro h1 h2;exact afF q r hq (by lia) (.inr h2) hQ
def axg{z:Nat}(hy:y=v1*4294967296+v2)(cU:v2<4294967296)(Iy:0<v1)(fB:v1<4294967296)(hu:u<y)(Cg:u2<4294967296):
  cE P L [2,8,9,10,11,13,14,15,16] CW (fun k st=>∃q r:Nat,st=⟨[(2,uc y),(8,uc s),(9,uc v1),(10,uc v2),(11,uc u),(13,uc u2),(14,uc z),(15,uc q),(16,uc r)],[],0,0⟩/\q*v1+r=u/\r<4294967296/\(u*4294967296+u2)/y<=q/\q=k) (fun ex st'=>∃tm ct,st'=⟨tm,[],ct,0⟩/\ex=.exit 0/\ai tm 2=uc y/\ai tm 8=uc s/\ai tm 9=uc v1/\ai tm 10=uc v2/\ai tm 11=uc u/\ai tm 13=uc u2/\ai tm 14=uc z/\ai tm 15=uc ((u*4294967296+u2)/y)):=by
 apply cI;rintro k st ⟨q,r,rfl,hq,hr,hQ,rfl⟩;have⟨g1,g2⟩:=abm hy cU Iy fB hu Cg hq hr hQ;have hqb:q*1<=q*v1:=y5 q Iy;have aBA:=yX 4294967296 (show v1<=4294967295 by lia);have rh:q<2^64:=by lia
 have Zt:=y5 4294967296 (show r<=4294967295 by lia);have e1:=so 4294967296 r;rw[show uc 4294967296=AV.int .u64 4294967296 from rfl,yR (show 4294967296*r<2^64 by lia)] at e1;have e2:=Dh (4294967296*r) u2;rw[yR (show 4294967296*r+u2<2^64 by lia)] at e2;have e4:=Dh r v1;rw[yR (show r+v1<2^64 by lia)] at e4;by_cases hc:4294967296<=q\/4294967296*r+u2<q*v2
 .have ⟨h0,h1,h2,h3⟩:=g1 hc;have e3:binOp .sub (uc q) (.int .u64 1)=Gr (uc (q-1)):=FH (b:=1) (by lia) (by lia);by_cases hb:4294967296<=r+v1
  .right
   have Ci:=h3 hb;rcases (show 4294967296<=q\/(¬4294967296<=q/\4294967296*r+u2<q*v2) by lia) with t1 | ⟨t1,t2⟩
   .simp only [go_sem,ya,CW,show (4294967296:Int)<=(q:Int) by lia,e3,e4,show (4294967296:Int)<=((r+v1:Nat):Int) by lia];exact⟨_,_,rfl,by simp,_,_,rfl,rfl,rfl,rfl,rfl,rfl,rfl,rfl,rfl,by rw[Ci];simp only[go_sem,ya]⟩
   .have ZV:=yZ (show q<=4294967295 by lia) (show v2<=4294967295 by lia);have e5:=so q v2;rw[yR (show q*v2<2^64 by lia)] at e5;simp only[go_sem,ya,CW,show ¬(4294967296:Int)<=(q:Int) by lia,e5,e1,e2,show ((4294967296*r+u2:Nat):Int)<((q*v2:Nat):Int) by lia,e3,e4,show (4294967296:Int)<=((r+v1:Nat):Int) by lia];exact⟨_,_,rfl,by simp,_,_,rfl,rfl,rfl,rfl,rfl,rfl,rfl,rfl,rfl,by rw[Ci];simp only[go_sem,ya]⟩
  .left
   rcases (show 4294967296<=q\/(¬4294967296<=q/\4294967296*r+u2<q*v2) by lia) with t1 | ⟨t1,t2⟩
   .simp only [go_sem,ya,CW,show (4294967296:Int)<=(q:Int) by lia,e3,e4,show ¬(4294967296:Int)<=((r+v1:Nat):Int) by lia];exact⟨_,q-1,rfl,by lia,q-1,r+v1,by simp only[go_sem,ya,aq],h1,by lia,h2,rfl⟩
   .have ZV:=yZ (show q<=4294967295 by lia) (show v2<=4294967295 by lia);have e5:=so q v2;rw[yR (show q*v2<2^64 by lia)] at e5;simp only[go_sem,ya,CW,show ¬(4294967296:Int)<=(q:Int) by lia,e5,e1,e2,show ((4294967296*r+u2:Nat):Int)<((q*v2:Nat):Int) by lia,e3,e4,show ¬(4294967296:Int)<=((r+v1:Nat):Int) by lia];exact⟨_,q-1,rfl,by lia,q-1,r+v1,by simp only[go_sem,ya,aq],h1,by lia,h2,rfl⟩
 .right
  have Ci:=g2 (by lia) (by lia);have e5:=so q v2;rw[yR (show q*v2<2^64 by lia)] at e5;simp only[go_sem,ya,CW,show ¬(4294967296:Int)<=(q:Int) by lia,e5,e1,e2,show ¬((4294967296*r+u2:Nat):Int)<((q*v2:Nat):Int) by lia];exact⟨_,_,rfl,by simp,_,_,rfl,rfl,rfl,rfl,rfl,rfl,rfl,rfl,rfl,by rw[Ci];simp only[go_sem,ya]⟩
end
end
section
variable {P:aF}{L:Lib}{f:cu}
def axh{y s v1 v2 u z:Nat}(hy:y=v1*4294967296+v2)(cU:v2<4294967296)(Iy:0<v1)(fB:v1<4294967296)(hu:u<y)(Cg:u2<4294967296):
  cE P L [2,8,9,10,14,15,16,17,18] CX (fun k st=>∃q r:Nat,st=⟨[(2,uc y),(8,uc s),(9,uc v1),(10,uc v2),(14,uc u2),(15,uc z),(16,uc r),(17,uc u),(18,uc q)],[],0,0⟩/\q*v1+r=u/\r<4294967296/\(u*4294967296+u2)/y<=q/\q=k) (fun ex st'=>∃tm ct,st'=⟨tm,[],ct,0⟩/\ex=.exit 2/\ai tm 2=uc y/\ai tm 8=uc s/\ai tm 9=uc v1/\ai tm 10=uc v2/\ai tm 14=uc u2/\ai tm 15=uc z/\ai tm 17=uc u/\ai tm 18=uc ((u*4294967296+u2)/y)):=by
 apply cI;rintro k st ⟨q,r,rfl,hq,hr,hQ,rfl⟩;have⟨g1,g2⟩:=abm hy cU Iy fB hu Cg hq hr hQ;have hqb:q*1<=q*v1:=y5 q Iy;have aBA:=yX 4294967296 (show v1<=4294967295 by lia);have rh:q<2^64:=by lia
 have Zt:=y5 4294967296 (show r<=4294967295 by lia);have e1:=so 4294967296 r;rw[show uc 4294967296=AV.int .u64 4294967296 from rfl,yR (show 4294967296*r<2^64 by lia)] at e1;have e2:=Dh (4294967296*r) u2;rw[yR (show 4294967296*r+u2<2^64 by lia)] at e2;have e4:=Dh r v1;rw[yR (show r+v1<2^64 by lia)] at e4;by_cases hc:4294967296<=q\/4294967296*r+u2<q*v2
 .have ⟨h0,h1,h2,h3⟩:=g1 hc;have e3:binOp .sub (uc q) (.int .u64 1)=Gr (uc (q-1)):=FH (b:=1) (by lia) (by lia);by_cases hb:4294967296<=r+v1
  .right
   have Ci:=h3 hb;rcases (show 4294967296<=q\/(¬4294967296<=q/\4294967296*r+u2<q*v2) by lia) with t1 | ⟨t1,t2⟩
   .simp only [go_sem,ya,CX,show (4294967296:Int)<=(q:Int) by lia,e3,e4,show (4294967296:Int)<=((r+v1:Nat):Int) by lia];exact⟨_,_,rfl,by simp,_,_,rfl,rfl,rfl,rfl,rfl,rfl,rfl,rfl,rfl,by rw[Ci];simp only[go_sem,ya]⟩
   .have ZV:=yZ (show q<=4294967295 by lia) (show v2<=4294967295 by lia);have e5:=so q v2;rw[yR (show q*v2<2^64 by lia)] at e5;simp only[go_sem,ya,CX,show ¬(4294967296:Int)<=(q:Int) by lia,e5,e1,e2,show ((4294967296*r+u2:Nat):Int)<((q*v2:Nat):Int) by lia,e3,e4,show (4294967296:Int)<=((r+v1:Nat):Int) by lia];exact⟨_,_,rfl,by simp,_,_,rfl,rfl,rfl,rfl,rfl,rfl,rfl,rfl,rfl,by rw[Ci];simp only[go_sem,ya]⟩
  .left
   rcases (show 4294967296<=q\/(¬4294967296<=q/\4294967296*r+u2<q*v2) by lia) with t1 | ⟨t1,t2⟩
   .simp only [go_sem,ya,CX,show (4294967296:Int)<=(q:Int) by lia,e3,e4,show ¬(4294967296:Int)<=((r+v1:Nat):Int) by lia];exact⟨_,q-1,rfl,by lia,q-1,r+v1,by simp only[go_sem,ya,aq],h1,by lia,h2,rfl⟩
   .have ZV:=yZ (show q<=4294967295 by lia) (show v2<=4294967295 by lia);have e5:=so q v2;rw[yR (show q*v2<2^64 by lia)] at e5;simp only[go_sem,ya,CX,show ¬(4294967296:Int)<=(q:Int) by lia,e5,e1,e2,show ((4294967296*r+u2:Nat):Int)<((q*v2:Nat):Int) by lia,e3,e4,show ¬(4294967296:Int)<=((r+v1:Nat):Int) by lia];exact⟨_,q-1,rfl,by lia,q-1,r+v1,by simp only[go_sem,ya,aq],h1,by lia,h2,rfl⟩
 .right
  have Ci:=g2 (by lia) (by lia);have e5:=so q v2;rw[yR (show q*v2<2^64 by lia)] at e5;simp only[go_sem,ya,CX,show ¬(4294967296:Int)<=(q:Int) by lia,e5,e1,e2,show ¬((4294967296*r+u2:Nat):Int)<((q*v2:Nat):Int) by lia];exact⟨_,_,rfl,by simp,_,_,rfl,rfl,rfl,rfl,rfl,rfl,rfl,rfl,rfl,by rw[Ci];simp only[go_sem,ya]⟩
def ahf(a:Nat):binOp .shr (.int .u64 (a:Int)) (.int .u64 32)=Gr (uc (a/4294967296)):=Mw .u64 a (s:=32) (by decide)
def air(a:Nat){b:Nat}(ha:a<2^64)(hb:0<b):binOp .quo (uc a) (uc b)=Gr (uc (a/b)):=by
 rw[eO _ _ _ (by lia),xV (by lia),<-Int.natCast_ediv,wrapM,yR];exact xQ (vD a b) ha
def aBB(a:Nat){b:Nat}(hb:0<b):binOp .rem (uc a) (uc b)=Gr (uc (a%b)):=by
 rw[eU _ _ _ (by lia),xN (by lia),<-Int.natCast_emod]
def ape{hi lo y s u z:Nat}(hs:s<64)(aZ:lo<2^64)(hY:Y=y*2^s)(hu:u=hi*2^s+lo/2^(64-s))(hz:z=lo*2^s%2^64):
  (hi*2^64+lo)*2^s=u*2^64+z:=by
 have e:2^64=2^(64-s)*2^s:=by rw[<-xF,show 64-s+s=64 by lia]
 have h1:lo*2^s/2^64=lo/2^(64-s):=by
  rw[e,tT _ _ (xf s)]
 grind
def acM{q b:Nat}(h1:a<Y)(h2:b<4294967296)(h3:q=(a*4294967296+b)/Y):q<4294967296:=by
 rw[h3];exact (xH (by lia)).2 (by lia)
def arj{u w z z0 z1:Nat}(rb:q1*Y+w=u*4294967296+z1)(ij:q0*Y+x=w*4294967296+z0)(hz:z=z1*4294967296+z0):u*2^64+z=(q1*4294967296+q0)*Y+x:=by grind
def anI(h1:q1<4294967296)(h0:q0<4294967296):q1*4294967296<2^64/\q1*4294967296+q0<2^64:=by lia
def ais(h:Has P L 165 LZ)(Mx:L.pure 167=Gr Ho){hi lo y:Nat}(gR:hi<y)(aZ:lo<2^64)(hy:y<2^64):
  ab P L 165 [uc hi,uc lo,uc y] (.av [uc ((hi*2^64+lo)/y),uc ((hi*2^64+lo)%y)]):=by
 have gS:0<y:=by lia
 by_cases h0:hi=0
 .subst h0;have e1:=air lo aZ gS;have e2:=aBB lo gS;rw[wz,ye];unfold ab;rw[aD h];simp only[go_sem,ya,LZ,show ¬(y:Int)=0 by lia,show ¬(y:Int)<=0 by lia,show ((0:Nat):Int)=0 from rfl,e1,e2];rfl
 .obtain ⟨s,hs⟩:∃s,s=64-dO 64 y:=⟨_,rfl⟩;have hl:=afE (P:=P) (f:=D P L) Mx hy;have⟨l1,l2,l3⟩:=U2 gS hy;rw[<-hs] at hl l1 l2 l3;obtain⟨Y,hY⟩:∃Y,Y=y*2^s:=⟨_,rfl⟩;obtain⟨u,hu⟩:∃u,u=hi*2^s+lo/2^(64-s):=⟨_,rfl⟩;obtain⟨z,hz⟩:∃z,z=lo*2^s%2^64:=⟨_,rfl⟩;have hdiv:=ape l1 aZ hY hu hz;rw[<-hY] at l2 l3;have hp:=xf s;obtain⟨v1,fB⟩:∃v,v=Y/4294967296:=⟨_,rfl⟩;obtain⟨v2,cU⟩:∃v,v=Y%4294967296:=⟨_,rfl⟩;have hYv:Y=v1*4294967296+v2:=by lia
  obtain⟨z1,nC⟩:∃v,v=z/4294967296:=⟨_,rfl⟩;obtain⟨z0,kY⟩:∃v,v=z%4294967296:=⟨_,rfl⟩;have Iz:z<2^64:=by lia
  have hhY:hi*2^s<Y:=by rw[hY];exact xZ gR hp
  have dX:lo/2^(64-s)<2^s:=by
   refine (xH (xf _)).2 ?_;rw[<-xF,show s+(64-s)=64 by lia];exact aZ
  have qX:hi*2^s|||lo/2^(64-s)=u:=by rw[V6 dX,hu]
  have hN:hi*2^64+lo<y*2^64:=by
   have:=yX (2^64) (show hi+1<=y from gR)
   lia
  have ZW:u<Y:=by
   have h1:=xZ hN hp;rw[hdiv,Nat.mul_right_comm,<-hY] at h1
   lia
  obtain⟨q1,gK⟩:∃q,q=(u*4294967296+z1)/Y:=⟨_,rfl⟩;obtain⟨w,hw⟩:∃q,q=(u*4294967296+z1)%Y:=⟨_,rfl⟩;obtain⟨q0,Ch⟩:∃q,q=(w*4294967296+z0)/Y:=⟨_,rfl⟩;obtain⟨x,hx⟩:∃q,q=(w*4294967296+z0)%Y:=⟨_,rfl⟩;have SS:w<Y:=by rw[hw];exact xE _ (by lia)
  have ZX:x<Y:=by rw[hx];exact xE _ (by lia)
  have rb:=xL (u*4294967296+z1) Y;rw[<-gK,<-hw,xg] at rb;have ij:=xL (w*4294967296+z0) Y;rw[<-Ch,<-hx,xg] at ij;have aBC:=acM ZW (show z1<4294967296 by lia) gK;have aBD:=acM SS (show z0<4294967296 by lia) Ch;have⟨td1,td2⟩:=anI aBC aBD;have ol:(hi*2^64+lo)*2^s=(q1*4294967296+q0)*Y+x:=by
   rw[hdiv];exact arj rb ij (by lia)
  have r1:(hi*2^64+lo)/y=q1*4294967296+q0:=by
   rw[<-tT _ _ hp,ol,<-hY,xg _ Y,tA (by lia),xU ZX,y7]
  have r2:x/2^s=(hi*2^64+lo)%y:=by
   have h1:x=(hi*2^64+lo)*2^s%(y*2^s):=by
    rw[ol,<-hY,xg _ Y,yal,yR ZX]
   rw[h1,uH,Nat.mul_div_cancel _ hp]
  have o1:=Mv .u64 y (s:=s) (by lia);rw[<-hY,yR l3] at o1;have o2:=ahf Y;rw[<-fB] at o2;have o3:=aiq Y;rw[<-cU] at o3;have o4:=Mv .u64 hi (s:=s) (by lia);rw[yR (show hi*2^s<2^64 by lia)] at o4;have o5:binOp .sub (.int .u64 64) (uc s)=Gr (uc (64-s)):=FH (a:=64) (by lia) (by lia);have o6:=Mw .u64 lo (s:=64-s) (by lia);have o7:=SQ (a:=hi*2^s) (b:=lo/2^(64-s)) (by lia) (xQ (vD _ _) aZ);rw[qX] at o7;have o8:=Mv .u64 lo (s:=s) (by lia);rw[<-hz] at o8;have o9:=ahf z;rw[<-nC] at o9;have o10:=aiq z;rw[<-kY] at o10;have HR:0<v1:=by lia
  have ahg:∀{a:Nat},a<Y->binOp .quo (uc a) (uc v1)=Gr (uc (a/v1))/\binOp .mul (uc (a/v1)) (uc v1)=Gr (uc (a/v1*v1))/\binOp .sub (uc a) (uc (a/v1*v1))=Gr (uc (a%v1)):=fun {a} ha=>by
   have h1:=xL a v1;rw[xg] at h1;have h2:=so (a/v1) v1;generalize a/v1*v1=m at*
   rw[yR (show m<2^64 by lia)] at h2;exact⟨air a (by lia) HR,h2,FH (by lia) (by lia)⟩
  have⟨g1,g2,g3⟩:=ahg ZW;have⟨g4,g5,g6⟩:=ahg SS;have first:∀{a b:Nat},b<4294967296->(a*4294967296+b)/Y<=a/v1:=fun {a b} hb=>by
   have:=TE (b:=4294967296) (V:=Y) (v1:=v1) (v2:=v2) (vr:=0) (U:=a*4294967296+b) (u0:=0) (u1:=a) (u2:=b) (ur:=0) (p:=1) (by lia) (by lia) (by decide) hb HR
   simpa using this
  have back:∀{a b q x:Nat},a*4294967296+b=q*Y+x->x<Y->binOp .mul (uc a) (.int .u64 4294967296)=Gr (uc (a*4294967296%2^64))/\binOp .add (uc (a*4294967296%2^64)) (uc b)=Gr (uc ((a*4294967296%2^64+b)%2^64))/\
    binOp .mul (uc q) (uc Y)=Gr (uc (q*Y%2^64))/\binOp .sub (uc ((a*4294967296%2^64+b)%2^64)) (uc (q*Y%2^64))=Gr (uc x):=fun {a b q x} h1 h2=>by
   refine⟨so a 4294967296,Dh _ _,so q Y,FH ?_ (by lia)⟩;generalize q*Y=m at*
   lia
  have⟨k1,k2,k3,k4⟩:=back rb.symm SS;have⟨k5,k6,k7,k8⟩:=back ij.symm ZX;have m1:=so q1 4294967296;rw[yR td1,show uc 4294967296=AV.int .u64 4294967296 from rfl] at m1;have m2:=Dh (q1*4294967296) q0;rw[yR td2] at m2;have m3:=Mw .u64 x (s:=s) (by lia);rw[r1,<-r2];unfold ab;rw[aD h];simp only[go_sem,ya,LZ,show ¬(y:Int)=0 by lia,show ¬(y:Int)<=(hi:Int) by lia,show ¬(hi:Int)=0 by lia,hl,az1,yR (show s<2^64 by lia),o1,o2,o3,o4,o5,o6,o7,o8,o9,o10,g1,g2,g3];generalize oG:D P L (.loop _ CW) _=qq
  obtain⟨ex,st,rfl,tm,ct,rfl,rfl,t2,t8,t9,t10,t11,t13,t14,t15⟩:=bg oG (axg (P:=P) (L:=L) (s:=s) (z:=z0) hYv (by lia) HR (by lia) ZW (show z1<4294967296 by lia) (u/v1)) ⟨u/v1,u%v1,by simp only[go_sem,ya,aq],by rw[xg];exact xL u v1,by have:=xE u HR;lia,first (by lia),rfl⟩
  rw[<-gK] at t15;simp only[go_sem,ya,aq,t2,t8,t9,t10,t11,t13,t14,t15,k1,k2,k3,k4,g4,g5,g6];generalize FI:D P L (.loop _ CX) _=ZY;obtain⟨ex,st,rfl,qS,ct2,rfl,rfl,t2,t8,t9,t10,t14,t15,t17,t18⟩:=bg FI (axh (P:=P) (L:=L) (s:=s) (z:=q1) hYv (by lia) HR (by lia) SS (show z0<4294967296 by lia) (w/v1)) ⟨w/v1,w%v1,by simp only[go_sem,ya,aq],by rw[xg];exact xL w v1,by have:=xE w HR;lia,first (by lia),rfl⟩
  rw[<-Ch] at t18;simp only[go_sem,ya,aq,t2,t8,t14,t15,t17,t18,m1,m2,k5,k6,k7,k8,m3];rfl
end
mutual
def below(n:Nat):AV->Prop
 | .ptr id _=>id<n
 | .ay id _ _=>id<n
 | .map id=>id<n
 | .it id=>id<n
 | .fn (.f _) first cap=>lz n first/\lz n cap
 | .fn (.y l) first cap=>l<n/\first=[]/\cap=[]
 | .agg cs=>lz n cs
 | .av cs=>lz n cs
 | _=>True
def lz(n:Nat):List AV->Prop
 | []=>True
 | v::r=>below n v/\lz n r
end
def ja(n:Nat):Env->Prop
 | []=>True
 | (_,v)::r=>below n v/\ja n r
def nW(n:Nat):Obj->Prop
 | .cells _ pu _ _ cs=>pu=ydy\/lz n cs
 | .mp _ ks vs=>lz n ks/\lz n vs
 | .si _ _=>True
 | .lp tm _ _ _ _ _=>ja n tm
def jw(b n:Nat):Hp->Prop
 | []=>True
 | (id,o)::r=>id<b/\nW n o/\jw b n r
mutual
def acN{f:Nat->Option Nat}{n:Nat}(hf:∀x,x<n->f x=Gr x):∀{v:AV},below n v->br f v=v
 | .int _ _,_ | .bool _,_ | .an _ _,_ | .dj _ _ _,_ | .str _,_ | .kP,_ | .bA _,_ | .aj,_ | .au _ _ _,_ | .fZ,_ | .jI,_ | .jJ _ _,_ | .undef,_ | .cR _ _ _ _,_=>rfl
 | .ptr id o,h=>by simp only[br,hf id h]
 | .ay id o k,h=>by simp only[br,hf id h]
 | .map id,h=>by simp only[br,hf id h]
 | .it id,h=>by simp only[br,hf id h]
 | .fn (.y l) first cap,h=>by
  obtain⟨h1,rfl,rfl⟩:=h;simp only[br,hf l h1,dD]
 | .fn (.f _) first cap,h=>by
  simp only[br,CE hf h.1,CE hf h.2]
 | .agg cs,h=>by simp only[below] at h;simp only[br,CE hf h]
 | .av cs,h=>by simp only[below] at h;simp only[br,CE hf h]
def CE{f:Nat->Option Nat}{n:Nat}(hf:∀x,x<n->f x=Gr x):∀{vs:List AV},lz n vs->dD f vs=vs
 | [],_=>rfl
 | v::r,h=>by simp only[dD,acN hf h.1,CE hf h.2]
end
def Oy{f:Nat->Option Nat}{n:Nat}(hf:∀x,x<n->f x=Gr x):∀{tm:Env},ja n tm->fM f tm=tm
 | [],_=>rfl
 | (_,v)::r,h=>by simp only[fM,acN hf h.1,Oy hf h.2]
def anJ{f:Nat->Option Nat}{n:Nat}(hf:∀x,x<n->f x=Gr x):∀{o:Obj},nW n o->fo f o=o
 | .cells _ pu _ _ cs,h=>by
  cases pu with
  | true=>rfl
  | false=>simp only[nW,yH,ycO] at h;simp only[fo,yT,CE hf h]
 | .mp _ ks vs,h=>by simp only[fo,CE hf h.1,CE hf h.2]
 | .si _ _,_=>rfl
 | .lp tm _ _ _ _ _,h=>by simp only[nW] at h;simp only[fo,Oy hf h]
mutual
def abW{n:Nat}:∀{v:AV},below n v->∀x,x∈refs v->x<n
 | .int _ _,_,x,h | .bool _,_,x,h | .an _ _,_,x,h | .dj _ _ _,_,x,h | .str _,_,x,h | .kP,_,x,h | .bA _,_,x,h | .aj,_,x,h | .au _ _ _,_,x,h | .fZ,_,x,h | .jI,_,x,h | .jJ _ _,_,x,h | .undef,_,x,h | .cR _ _ _ _,_,x,h=>by simp[refs] at h
 | .ptr id o,h,x,hx=>by simp only[refs,wE] at hx;subst hx;exact h
 | .ay id o k,h,x,hx=>by simp only[refs,wE] at hx;subst hx;exact h
 | .map id,h,x,hx=>by simp only[refs,wE] at hx;subst hx;exact h
 | .it id,h,x,hx=>by simp only[refs,wE] at hx;subst hx;exact h
 | .fn (.y l) first cap,h,x,hx=>by simp only[refs,wE] at hx;subst hx;exact h.1
 | .fn (.f _) first cap,h,x,hx=>by
  simp only[refs,wB] at hx;exact hx.elim (CA h.1 x) (CA h.2 x)
 | .agg cs,h,x,hx=>by simp only[below] at h;simp only[refs] at hx;exact CA h x hx
 | .av cs,h,x,hx=>by simp only[below] at h;simp only[refs] at hx;exact CA h x hx
def CA{n:Nat}:∀{vs:List AV},lz n vs->∀x,x∈fX vs->x<n
 | [],_,x,h=>by simp[fX] at h
 | v::r,h,x,hx=>by
  simp only[fX,wB] at hx;exact hx.elim (abW h.1 x) (CA h.2 x)
end
def Od{n:Nat}:∀{tm:Env},ja n tm->∀x,x∈dN tm->x<n
 | [],_,x,h=>by simp[dN] at h
 | (_,v)::r,h,x,hx=>by
  simp only[dN,wB] at hx;exact hx.elim (abW h.1 x) (Od h.2 x)
def am2{n:Nat}:∀{o:Obj},nW n o->∀x,x∈eV o->x<n
 | .cells _ pu _ _ cs,h,x,hx=>by
  cases pu with
  | true=>simp[eV] at hx
  | false=>simp only[nW,yH,ycO] at h;exact CA h x hx
 | .mp _ ks vs,h,x,hx=>by
  simp only[eV,wB] at hx;exact hx.elim (CA h.1 x) (CA h.2 x)
 | .si _ _,_,x,hx=>by simp[eV] at hx
 | .lp tm _ _ _ _ _,h,x,hx=>by simp only[nW] at h;exact Od h x hx
def hZ(B:Nat):List (List AV)->Hp
 | []=>[]
 | cs::r=>(B+r.length,.cells ydy ydy ydy 1 cs)::hZ B r
def Fc(B:Nat):List (List AV)->Hp->Hp
 | [],acc=>acc
 | cs::r,acc=>Fc (B+1) r ((B,.cells ydy ydy ydy 1 cs)::acc)
def abX:∀(l:List (List AV)) (B:Nat) (x:List AV) (acc:Hp),Fc B (l++[x]) acc=(B+l.length,.cells ydy ydy ydy 1 x)::Fc B l acc
 | [],B,x,acc=>rfl
 | c::l,B,x,acc=>by
  simp only[xe,Fc,abX l,yB]
  grind
def Uw(B:Nat)(acc:Hp):∀rs:List (List AV),Fc B rs.reverse acc=hZ B rs++acc
 | []=>rfl
 | c::r=>by
  simp only[ybI,abX,Uw B acc r,ybv,hZ,xe]
def Ux{B:Nat}{old:Hp}:∀{rs:List (List AV)} {i:Nat} (h:i<rs.length),ak (hZ B rs++old) (B+i)=Gr (.cells ydy ydy ydy 1 (rs.reverse[i]'(by simpa using h)))
 | c::r,i,h=>by
  simp only[hZ,xe,ybI];by_cases hi:i=r.length
  .subst hi;rw[ak,wK,yy]
   simp
  .have aG:i<r.length:=by grind
   rw[ak,gW (by lia),yT,Ux aG]
   grind
def oU{b:Nat}(h:a<b):yQ a b=ydy:=by simp_all
def zB{b:Nat}(h:b<=a):yQ a b=ydz:=by
 cases hq:yQ a b with
 | false=>rfl
 | true=>have:=yA hq;lia
def JK{B:Nat}{old:Hp}:∀rs:List (List AV),cG B (hZ B rs++old)=cG B old
 | []=>rfl
 | c::r=>by
  simp only[hZ,xe];rw[cG,zB (by lia),yT,JK r]
def TX{B:Nat}{old:Hp}{f:Nat->Option Nat}:∀rs:List (List AV),gM B f (hZ B rs++old)=gM B f old
 | []=>rfl
 | c::r=>by
  simp only[hZ,xe];rw[gM,zB (by lia),yT,TX r]
def TG{B n:Nat}{f:Nat->Option Nat}(hf:∀x,x<n->f x=Gr x):∀{old:Hp},jw B n old->gM B f old=old
 | [],_=>rfl
 | (id,o)::r,h=>by
  rw[gM,oU h.1,yy,anJ hf h.2.1,TG hf h.2.2]
def anK{s:Nat}(h:B+s<=x):jK x (wq B s)=ydz:=by
 induction s generalizing B with
 | zero=>rfl
 | succ s ih=>rw[ua,jK,gW (by lia),yT,ih (by lia)]
def Oz{hp:Hp}{B R:Nat}(nl:∀i,i<R->∃rw ex sz cs,ak hp (B+i)=Gr (.cells rw ydy ex sz cs)):
  ∀(W:List Nat) (bq s:Nat),W.length<bq->s<=R->W.filter (fun x=> !yQ x B)=wq (B+s) (R-s)->reach hp B bq W (wq B s)=wq B R
 | [],0,s,hf,_,_=>by simp at hf
 | [],bq+1,s,hf,hs,h=>by
  have:R-s=0:=by
   grind
  rw[reach,show R=s by lia]
 | id::W,0,s,hf,_,_=>by simp at hf
 | id::W,bq+1,s,hf,hs,h=>by
  have oB:W.length<bq:=by simp_all
  rw[reach];by_cases hid:id<B
  .rw [oU hid,Bool.true_or,yy];rw[ybS,oU hid] at h;exact Oz nl W bq s oB hs (by simpa using h)
  .rw [ybS,zB (by lia)] at h;have hRs:R-s=(R-s-1)+1:=by
    have:=congrArg uE h
    grind
   rw[hRs,ua] at h;injection h with h1 h2
   subst h1;rw[zB (by lia),vT,anK (yx _),yT];have⟨rw,ex,sz,cs,ho⟩:=nl s (by lia);simp only[ho,eV,yy,xt];have e:wq B s++[B+s]=wq B (s+1):=by rw[List.range'_concat];simp
   rw[e];exact Oz nl W bq (s+1) oB (by lia) (by rw[h2,show R-s-1=R-(s+1) by lia,show B+s+1=B+(s+1) by lia])
def anL{s i k:Nat}(h:i<s):fN (B+i) (wq B s) k=Gr (k+i):=by
 induction s generalizing B i k with
 | zero=>lia
 | succ s ih=>
  rw[ua,fN];by_cases hi:i=0
  .simp_all
  .rw [gW (by lia),yT]
   have:=ih (B:=B+1) (i:=i-1) (k:=k+1) (by lia)
   grind
def abn{R:Nat}(h:x<B+R):iK B (wq B R) x=Gr x:=by
 unfold iK;by_cases hx:x<B
 .rw [oU hx,yy]
 .rw [zB (by lia),yT]
  have:=anL (B:=B) (s:=R) (i:=x-B) (k:=B) (by lia)
  grind
def TY{hp:Hp}{f:Nat->Option Nat}:∀(ro:List (List AV)) (B:Nat) (acc:Hp),(∀i (h:i<ro.length),ak hp (B+i)=Gr (.cells ydy ydy ydy 1 ro[i]))->ep hp f (wq B ro.length) B acc=Fc B ro acc
 | [],B,acc,_=>rfl
 | c::r,B,acc,h=>by
  have h0:=h 0 (by simp);simp only[y7,List.getElem_cons_zero] at h0;rw[yB,ua,ep];simp only[h0,fo,yy,Fc]
  exact TY r (B+1) _ (fun i hi=>by
   have:=h (i+1) (by simpa using hi)
   rw[show B+1+i=B+(i+1) by lia,this]
   simp)
def amw{rs:List (List AV)}(ht:ja B (bD tm live))(ho:jw B (B+rs.length) old)(hl:(dN (bD tm live)).length+(cG B old).length<100000)(hr:(cG B old).filter (fun x=> !yQ x B)=wq B rs.length):bB live ⟨tm,hZ B rs++old,ct,B⟩=⟨bD tm live,hZ B rs++old,B+rs.length,B⟩:=by
 have nl:∀i (h:i<rs.length),ak (hZ B rs++old) (B+i)=Gr (.cells ydy ydy ydy 1 (rs.reverse[i]'(by simpa using h))):=fun i h=>Ux h
 have Qa:reach (hZ B rs++old) B 100000 (dN (bD tm live)++cG B (hZ B rs++old)) []=wq B rs.length:=by
  have:=Oz (hp:=hZ B rs++old) (B:=B) (R:=rs.length) (fun i hi=>⟨_,_,_,_,nl i hi⟩) (dN (bD tm live)++cG B (hZ B rs++old)) 100000 0 (by rw[JK,yW];exact hl) (tG _) (by
   rw[List.filter_append,JK,hr,yad.2 (fun x hx=>by
    have:=Od ht x hx
    simp[oU this])]
   simp)
  grind
 have hid:∀x,x<B+rs.length->iK B (wq B rs.length) x=Gr x:=fun x hx=>abn hx
 have hn:=TY (hp:=hZ B rs++old) (f:=iK B (wq B rs.length)) rs.reverse B old (fun i hi=>nl i (by simpa using hi));rw[ybv] at hn;simp only[bB,Qa,TX,TG hid ho,hn,Uw,List.length_range']
 rw[Oy (n:=B) (fun x hx=>hid x (by lia)) ht]
def TZ{B b n:Nat}(hb:b<=B):∀{H:Hp},jw b n H->∀x,x∈cG B H->x<n
 | [],_,x,hx=>by simp[cG] at hx
 | (id,o)::r,h,x,hx=>by
  rw[cG,oU (by have:=h.1;lia),yy,wB] at hx
  exact hx.elim (am2 h.2.1 x) (TZ hb h.2.2 x)
def Oe(ht:ja B (bD tm live))(ho:jw B B old)(hl:(dN (bD tm live)).length+(cG B old).length<100000):
  bB live ⟨tm,old,ct,B⟩=⟨bD tm live,old,B,B⟩:=by
 have:=amw (rs:=[]) (ct:=ct) ht (by simpa using ho) hl (by
  rw[yad.2 (fun x hx=>by have:=TZ (yx B) ho x hx;simp[oU this])]
  rfl)
 simpa[hZ] using this
section
variable {hp:Hp}{ps:List Nat}{ct:Nat}
def Kt{n:Nat}{F:ax}(h:Has P L n F){ex:Ex}{s:St}(hD:D P L F.body ⟨fa 0 aw,hp,ct,ct⟩=Gr (ex,s))(he:ex=.normal\/ex=.ret)(hr:jD s F.c9=Gr v):
  jG P L (D P L) hp ct n aw=Gr (v,s.hp,s.ct):=by
 simp only[jG,h.heap,h.code,hD]
 grind
def adP{l:Nat}{xs:List AV}{tm' jk qS:Env}{A0 B6:List Nat}{a b a1 b1 a2 b2:VC}{pe sH pe2:AG}{s1 s2:St}(h1:ak hp l=Gr (.lp tm ps a b 0 pe))(h2:zA tm ps xs=Gr tm')(h3:D P L a ⟨tm',hp,ct,ct⟩=Gr (.normal,s1))(h4:ak s1.hp l=Gr (.lp jk A0 a1 b1 0 sH))(h5:D P L b ⟨s1.tm,aR s1.hp l (.lp jk A0 a1 b1 1 sH),s1.ct,s1.ct⟩=Gr (.normal,s2))(h6:ak s2.hp l=Gr (.lp qS B6 a2 b2 1 pe2)):
  jT (D P L) hp ct l xs=Gr (.bool ydy,aR s2.hp l (.lp qS B6 a2 b2 0 .none),s2.ct):=by
 simp only[jT,h1,h2,h3,h4,h5,h6]
def ahh{f:X}{as_ body:VC}{s:St}{n:Nat}{first cap:List AV}{ps':List Nat}{a b:VC}{st:Nat}(h1:aB s.tm f=.fn (.f n) first cap)(h2:L.heap n=Gs)(h3:jG P L (D P L) ((s.ct,.lp s.tm ps as_ body 0 .none)::s.hp) (s.ct+1) n (first++(.fn (.y s.ct) [] []::cap))=Gr (v,hp,ct))(h4:ak hp s.ct=Gr (.lp tm ps' a b st .none))(h5:st≠1):D P L (.rf f ps as_ body) s=Gr (.normal,⟨s.tm,cN hp s.ct,ct,s.base⟩):=by
 rw[ma];simp only[bF,h1,h2,h3,h4,gW h5,yT]
def adQ(z:AV):∀n,(yk n [z]).flatten=yk n z
 | 0=>rfl
 | n+1=>by rw[wQ,List.flatten_cons,adQ z n,wQ];rfl
def TH{b b' n n':Nat}(hb:b<=b')(hn:∀o,nW n o->nW n' o):∀{H:Hp},jw b n H->jw b' n' H
 | [],_=>trivial
 | (id,o)::r,h=>⟨yI h.1 hb,hn o h.2.1,TH hb hn h.2.2⟩
mutual
def abY{n n':Nat}(h:n<=n'):∀{v:AV},below n v->below n' v
 | .int _ _,_ | .bool _,_ | .an _ _,_ | .dj _ _ _,_ | .str _,_ | .kP,_ | .bA _,_ | .aj,_ | .au _ _ _,_ | .fZ,_ | .jI,_ | .jJ _ _,_ | .undef,_ | .cR _ _ _ _,_=>trivial
 | .ptr _ _,k=>yI k h
 | .ay _ _ _,k=>yI k h
 | .map _,k=>yI k h
 | .it _,k=>yI k h
 | .fn (.f _) _ _,k=>⟨CB h k.1,CB h k.2⟩
 | .fn (.y _) _ _,k=>⟨yI k.1 h,k.2⟩
 | .agg cs,k=>by simp only[below] at k ⊢;exact CB h k
 | .av cs,k=>by simp only[below] at k ⊢;exact CB h k
def CB{n n':Nat}(h:n<=n'):∀{vs:List AV},lz n vs->lz n' vs
 | [],_=>trivial
 | _::_,k=>⟨abY h k.1,CB h k.2⟩
end
def Em{n n':Nat}(h:n<=n'):∀{tm:Env},ja n tm->ja n' tm
 | [],_=>trivial
 | (_,_)::_,k=>⟨abY h k.1,Em h k.2⟩
def abo{n n':Nat}(h:n<=n'):∀{o:Obj},nW n o->nW n' o
 | .cells _ pu _ _ cs,k=>k.imp id (CB h)
 | .mp _ ks vs,k=>⟨CB h k.1,CB h k.2⟩
 | .si _ _,_=>trivial
 | .lp tm _ _ _ _ _,k=>by simp only[nW] at k ⊢;exact Em h k
mutual
def zh{n:Nat}:∀{v:AV},aV v=ydy->below n v
 | .int _ _,_ | .bool _,_ | .an _ _,_ | .dj _ _ _,_ | .str _,_ | .kP,_ | .bA _,_ | .aj,_ | .au _ _ _,_ | .fZ,_ | .jI,_ | .jJ _ _,_ | .undef,_=>trivial
 | .cR _ _ _ _,_=>trivial
 | .ptr _ _,h | .ay _ _ _,h | .map _,h | .it _,h=>by simp[aV] at h
 | .fn (.y _) _ _,h=>by simp[aV] at h
 | .fn (.f _) _ _,h=>by
  simp only[aV,yf] at h;exact⟨JO h.1,JO h.2⟩
 | .agg cs,h=>by simp only[aV] at h;simp only[below];exact JO h
 | .av cs,h=>by simp only[aV] at h;simp only[below];exact JO h
def JO{n:Nat}:∀{vs:List AV},aH vs=ydy->lz n vs
 | [],_=>trivial
 | _::_,h=>by
  simp only[aH,yf] at h;exact⟨zh h.1,JO h.2⟩
end
end
section
variable {pre x post:List Nat}{i:Nat}
def rQ:(pre++x++post).length=pre.length+x.length+post.length:=by grind
def ED(h:i<x.length):(pre++x++post).getD (pre.length+i) 0=x.getD i 0:=by grind
def PA(a:Nat)(h:i<x.length):(pre++x++post).set (pre.length+i) a=pre++x.set i a++post:=by simp_all
end
def nX(n:Nat)(k:xh)(a:Int):below n (.int k a)=True:=rfl
def oW(n id o k:Nat):below n (.ay id o k)=(id<n):=rfl
def nS(n:Nat):ja n []=True:=rfl
def nO(n i:Nat)(v:AV)(r:Env):ja n ((i,v)::r)=(below n v/\ja n r):=rfl
def zo{a b:List AV}(ht:ja 2 (bD tm live))(hl:(dN (bD tm live)).length<100000):
  bB live ⟨tm,[(1,.cells ydy ydy ydy 1 a),(0,.cells ydy ydy ydy 1 b)],ct,2⟩=⟨bD tm live,[(1,.cells ydy ydy ydy 1 a),(0,.cells ydy ydy ydy 1 b)],2,2⟩:=
 Oe ht ⟨by lia,.inl rfl,by lia,.inl rfl,trivial⟩ (by
  have:cG 2 [(1,Obj.cells ydy ydy ydy 1 a),(0,Obj.cells ydy ydy ydy 1 b)]=[]:=rfl
  rw[this,yM,y7];exact hl)
def anM{s c:Nat}(hs:s<64)(hx:x<2^64)(hc:c<2^s):
  c|||(x*2^s%2^64)<2^64/\c<2^64/\x/2^(64-s)<2^s/\(c|||(x*2^s%2^64))+2^64*(x/2^(64-s))=x*2^s+c:=by
 have e:2^64=2^(64-s)*2^s:=by rw[<-xF,show 64-s+s=64 by lia]
 have h1:x*2^s%2^64=(x%2^(64-s))*2^s:=by rw[e,uH]
 have h2:x/2^(64-s)<2^s:=by
  refine (xH (xf _)).2 ?_
  grind
 have h3:c|||(x*2^s%2^64)=(x%2^(64-s))*2^s+c:=by rw[h1,ydh,V6 hc]
 have h4:(x%2^(64-s))*2^s+c<2^64:=by
  have:=yX (2^s) (show x%2^(64-s)+1<=2^(64-s) from xE _ (xf _))
  grind
 have h5:=uF x (2^(64-s))
 grind
def axi{w:List Nat}(hv:bR v w)(hw:lo (2^64) w)(lw:w.length<=99999999999){s n:Nat}(hs:s<64)(hn:n=w.length+1):
  cE P L [1,5,12,13,14] GW (fun k st=>∃(i:Nat) (out:List Nat),st=⟨[(1,aa s),(5,.ay 0 0 n),(12,v),(13,aa w.length),(14,aa i)],[(0,.cells ydy ydy ydy 1 (out.map uc))],1,0⟩/\i+k=w.length/\out.length=n/\lo (2^64) out/\bv (2^64) out=bv (2^64) (w.take i)*2^s/\out.getD i 0<2^s/\(∀m,i<m->out.getD m 0=0)) (fun ex st'=>∃tm out,st'=⟨tm,[(0,.cells ydy ydy ydy 1 (out.map uc))],1,0⟩/\ex=.exit 0/\ai tm 5=.ay 0 0 n/\out.length=n/\lo (2^64) out/\bv (2^64) out=bv (2^64) w*2^s):=by
 apply cI;rintro k st ⟨i,out,rfl,hk,hlen,aZ,aK,hc,gR⟩;by_cases hi:i<w.length
 .left
  have gx:=iJ (show 0<2^64 by decide) hw i;have ex:=hv.bj hi;have ec:=BH (l:=out) (o:=i) (by lia);have aR:=qc (b:=2^64) (l:=out) (i:=i) (x:=out.getD i 0|||(w.getD i 0*2^s%2^64)) (by lia);have hz:out.getD (i+1) 0=0:=gR _ (by lia);have eL:=jU (b:=2^64) (l:=w) i;generalize out.getD i 0=c at*
  generalize w.getD i 0=x at*
  have⟨s1,s2,s3,s4⟩:=anM hs gx hc;have o1:=Mv .i64 x (s:=s) (by lia);have o2:=SQ s2 (xE (x*2^s) (by decide));have o3:binOp .sub (.int .i64 64) (aa s)=Gr (aa (64-s:Nat)):=by
   rw[Pu,wrap64 (by lia) (by lia)];congr 2;lia
  have o4:=Mw .i64 x (s:=64-s) (by lia);generalize kX:c|||(x*2^s%2^64)=c' at*
  by_cases h0:0<s
  .have Qs:=qc (b:=2^64) (l:=out.set i c') (i:=i+1) (x:=x/2^(64-s)) (by simp;lia)
   rw[rP (by lia),hz,xI,y7] at Qs;have aBE:x/2^(64-s)<2^64:=xQ (vD _ _) gx;generalize x/2^(64-s)=y at*
   simp only[go_sem,ya,yh,GW,show (i:Int)<w.length by lia,ex,dc 0 0 (show i<n by lia),ye,ec,o1,o2,mv (l:=out) (o:=i) (by lia),show (0:Int)<(s:Int) by lia,show (i:Int)+1=((i+1:Nat):Int) from rfl,wrapN (n:=i+1) (by lia),o3,o4,dc 0 0 (show i+1<n by lia),mv (l:=out.set i c') (o:=i+1) (by simp;lia)]
   refine⟨_,k-1,rfl,by lia,i+1,(out.set i c').set (i+1) y,by simp only[go_sem,ya,yb,aq,aC hv.pu]<;>rfl,by lia,by simp[hlen],nV (nV aZ s1) aBE,?_,by rw[anr (by simp;lia)];exact s3,fun m hm=>by rw[rP (by lia),rP (by lia)];exact gR m (by lia)⟩
   rw[eL,we,Qs,<-aK,AN,xk,xk ((2^64)^i)];have e:=congrArg (fun t=>(2^64)^i*t) s4;simp only[xJ] at e;generalize (2^64)^i*(2^64*y)=p1 at*
   generalize (2^64)^i*(x*2^s)=p2 at*
   generalize (2^64)^i*c'=p3 at*
   lia
  .have zT:s=0:=by lia
   subst zT;have kw:c=0:=by simpa using hc
   have kD:x/2^(64-0)=0:=xU gx;rw[kD,xI,y7,vX,yh] at s4
   simp only[go_sem,ya,yh,GW,show (i:Int)<w.length by lia,ex,dc 0 0 (show i<n by lia),ye,ec,o1,o2,mv (l:=out) (o:=i) (by lia),show ¬(0:Int)<((0:Nat):Int) by lia,show (i:Int)+1=((i+1:Nat):Int) from rfl,wrapN (n:=i+1) (by lia)];refine⟨_,k-1,rfl,by lia,i+1,out.set i c',by simp only[go_sem,ya,yb,aq,aC hv.pu]<;>rfl,by lia,by simp[hlen],nV aZ s1,?_,by rw[rP (by lia),hz];exact xf _,fun m hm=>by rw[rP (by lia)];exact gR m (by lia)⟩
   rw[vX,yh] at aK ⊢;rw[eL,<-aK];rw[kw,xI,y7] at aR;rw[aR,s4,kw,y7]
 .right
  have:i=w.length:=by lia
  subst this;rw[xR] at aK;simp only[go_sem,ya,GW,show ¬(w.length:Int)<w.length by lia];exact⟨_,_,rfl,by simp,_,out,rfl,rfl,rfl,hlen,aZ,aK⟩
def ait(h:Has P L 168 QZ){w:List Nat}(hv:bR v w)(hw:lo (2^64) w)(lw:w.length<=99999999999){s:Nat}(hs:s<64):
  ∃out,ab P L 168 [v,aa s] (.cR ydy 1 (w.length+1) (out.map uc))/\out.length=w.length+1/\lo (2^64) out/\bv (2^64) out=bv (2^64) w*2^s:=by
 obtain⟨n,hn⟩:∃n,n=w.length+1:=⟨_,rfl⟩;unfold ab;rw[aD h]
 simp only[go_sem,ya,yb,QZ,hv.len,wrapN (n:=n) (by lia),show (w.length:Int)+1=((w.length+1:Nat):Int) from rfl,<-hn,FG (n:=n) _ (by lia)];generalize hq:D P L (.loop _ GW) _=q;obtain⟨ex,st,rfl,tm,o,rfl,rfl,t5,hlen,aZ,aK⟩:=bg hq (axi (P:=P) (L:=L) hv hw lw hs hn w.length)
  ⟨0,yk n 0,by simp only[go_sem,ya,yb,aq,aC hv.pu]<;>rfl,by lia,by simp,Hg (by decide) n,by rw[Hh];simp[bv],by rw[EB];exact xf _,fun m _=>EB n m⟩
 refine⟨o,?_,hlen,aZ,aK⟩;simp only[go_sem,yb,aq,t5];exact abS (ll _ _ _) (by simp[hlen]) (by decide)
abbrev H2(a b:List Nat):Hp:=[(1,.cells ydy ydy ydy 1 (a.map uc)),(0,.cells ydy ydy ydy 1 (b.map uc))]
structure jf(x vs:List Nat)(n v1 v2 u0 u1 u2:Nat):Prop where
 n2:2<=n
 nb:n<=99999999999
 lx:x.length=n+1
 lv:vs.length=n
 gx:lo (2^64) x
 gv:lo (2^64) vs
 fB:vs.getD (n-1) 0=v1
 cU:vs.getD (n-2) 0=v2
 h0:x.getD n 0=u0
 h1:x.getD (n-1) 0=u1
 h2:x.getD (n-2) 0=u2
 pos:0<v1
 lt:bv (2^64) x<2^64*bv (2^64) vs
def az2(b p a v1 v2:Nat):a+p*v2+p*b*v1=(v1*b+v2)*p+a:=by grind
def az3(b p a v0 v1 v2:Nat):a+p*v2+p*b*v1+p*b*b*v0=((v0*b+v1)*b+v2)*p+a:=by grind
section
variable {x vs:List Nat}{n v1 v2 u0 u1 u2:Nat}
def jf.Nv(h:jf x vs n v1 v2 u0 u1 u2):v1<2^64:=h.fB▸iJ (by decide) h.gv _
def jf.Ga(h:jf x vs n v1 v2 u0 u1 u2):v2<2^64:=h.cU▸iJ (by decide) h.gv _
def jf.Nw(h:jf x vs n v1 v2 u0 u1 u2):u1<2^64:=h.h1▸iJ (by decide) h.gx _
def jf.Nx(h:jf x vs n v1 v2 u0 u1 u2):u2<2^64:=h.h2▸iJ (by decide) h.gx _
def jf.parts(h:jf x vs n v1 v2 u0 u1 u2):∃p vr ur,bv (2^64) vs=(v1*2^64+v2)*p+vr/\vr<p/\bv (2^64) x=((u0*2^64+u1)*2^64+u2)*p+ur/\ur<p:=by
 obtain⟨m,hm⟩:∃m,n=m+2:=⟨n-2,by have:=h.n2;lia⟩
 subst hm;have e1:=jU (b:=2^64) (l:=vs) (m+1);have e2:=jU (b:=2^64) (l:=vs) m;have f0:=jU (b:=2^64) (l:=x) (m+2);have f1:=jU (b:=2^64) (l:=x) (m+1);have f2:=jU (b:=2^64) (l:=x) m;have fB:vs.getD (m+1) 0=v1:=h.fB;have cU:vs.getD m 0=v2:=h.cU;have h0:x.getD (m+2) 0=u0:=h.h0;have h1:x.getD (m+1) 0=u1:=h.h1;have h2:x.getD m 0=u2:=h.h2
 rw[yK (by have:=h.lv;lia),fB,e2,cU] at e1
 rw[yK (by have:=h.lx;lia),h0,f1,h1,f2,h2] at f0
 have g1:=nc (Bv h.gv m)
 rw[yP,xo (by have:=h.lv;lia)] at g1
 have g2:=nc (Bv h.gx m)
 rw[yP,xo (by have:=h.lx;lia)] at g2
 refine⟨(2^64)^m,_,_,?_,g1,?_,g2⟩
 .grind
 .grind
def jf.down(h:jf x vs n v1 v2 u0 u1 u2){t r:Nat}(ht:t*v1+r=u0*2^64+u1)(hr:r*2^64+u2<t*v2):bv (2^64) x/bv (2^64) vs<=t-1:=by
 have⟨p,vr,ur,h1,h2,h3,h4⟩:=h.parts;exact abQ h1 h3 h4 ht hr
def jf.stop(h:jf x vs n v1 v2 u0 u1 u2){t r:Nat}(mu:t<2^64)(ht:t*v1+r=u0*2^64+u1)(hr:2^64<=r\/t*v2<=r*2^64+u2):t<=bv (2^64) x/bv (2^64) vs+1:=by
 have⟨p,vr,ur,h1,h2,h3,h4⟩:=h.parts;exact acG (by decide) h1 h2 h3 h.pos h.Ga mu ht hr
def jf.first(h:jf x vs n v1 v2 u0 u1 u2):bv (2^64) x/bv (2^64) vs<=(u0*2^64+u1)/v1:=by
 have⟨p,vr,ur,h1,h2,h3,h4⟩:=h.parts;exact TE h1 h3 h4 h.Nx h.pos
def jf.top(h:jf x vs n v1 v2 u0 u1 u2):u0<=v1:=by
 have⟨p,vr,ur,h1,h2,h3,h4⟩:=h.parts;exact acH h1 h3 h2 h.Ga h.lt
def jf.digit(h:jf x vs n v1 v2 u0 u1 u2):bv (2^64) x/bv (2^64) vs<2^64:=by
 refine (xH ?_).2 h.lt;rcases xj (bv (2^64) vs) with h0 | h0
 .have:=h.lt;rw[h0] at this;simp at this
 .exact h0
end
def afG(oh:L.pure 143=Gr Av)(iO:L.pure 171=Gr p6){w:AV}{x qs:List Nat}(hw:bR w vs){n v1 v2:Nat}(hl:jf x vs n v1 v2 u0 u1 u2):
  cE P L [0,1,5,6,7,8] Bz (fun k s=>∃q r:Nat,s=⟨[(0,.ay 0 pre.length (n+1)),(1,w),(5,aa n),(6,uc q),(7,uc (r%2^64)),(8,uc (r/2^64))],H2 qs (pre++x++post),2,2⟩/\q*v1+r=u0*2^64+u1/\r<2*2^64/\q<2^64/\bv (2^64) x/bv (2^64) vs<=q/\q=k) (fun ex s'=>∃tm q,s'=⟨tm,H2 qs (pre++x++post),2,2⟩/\ex=.exit 0/\ai tm 0=.ay 0 pre.length (n+1)/\ai tm 1=w/\ai tm 5=aa n/\ai tm 6=uc q/\q<2^64/\bv (2^64) x/bv (2^64) vs<=q/\q<=bv (2^64) x/bv (2^64) vs+1):=by
 apply cI;rintro k s ⟨q,r,rfl,hq,hr,rh,hQ,rfl⟩;have dJ:=hl.n2;have sQ:=hl.nb;by_cases iV:r<2^64
 .have IA:r%2^64=r:=yR iV;have DZ:r/2^64=0:=xU iV;rw[IA,DZ];have HS:=hl.Nv;have X0:=hl.Ga;have aiu:=hl.Nx;have sS:=hw.bj (i:=n-2) (by have:=hl.lv;lia)
  have fC:=hw.bj (i:=n-1) (by have:=hl.lv;lia)
  rw[hl.cU] at sS;rw[hl.fB] at fC;have Ba:=BH (l:=pre++x++post) (o:=pre.length+(n-2)) (by rw[rQ];have:=hl.lx;lia)
  rw[ED (by have:=hl.lx;lia),hl.h2] at Ba
  have f1:=PY (P:=P) (f:=D P L) oh rh X0;have f2:=EZ (P:=P) (f:=D P L) iO (x:=r) (y:=v1) (c:=0) iV HS (by lia);rw[show (uc 0)=AV.int .u64 0 from rfl] at f2;have eZ:=xL (q*v2) (2^64);have aZ:=xE (q*v2) (show 0<2^64 by decide);obtain⟨H,hH⟩:∃H,H=q*v2/2^64:=⟨_,rfl⟩;obtain⟨G,hG⟩:∃G,G=q*v2%2^64:=⟨_,rfl⟩;rw[<-hH,<-hG] at f1 eZ;rw[<-hG] at aZ;have Cj:(n:Int)-2=((n-2:Nat):Int):=by lia
  have sT:(n:Int)-1=((n-1:Nat):Int):=by lia
  by_cases c1:H<r
  .right
   simp only[go_sem,ya,Bz,H2,show ((0:Nat):Int)=0 from rfl,Cj,wrapN (n:=n-2) (by lia),sS,f1,show (H:Int)<(r:Int) by lia];exact⟨_,_,rfl,by simp,_,q,rfl,rfl,rfl,rfl,rfl,rfl,rh,hQ,hl.stop rh hq (.inr (by lia))⟩
  .by_cases c2:H=r/\G<=u2
   .right
    have⟨c2,c3⟩:=c2
    simp only[go_sem,ya,Bz,H2,show ((0:Nat):Int)=0 from rfl,Cj,wrapN (n:=n-2) (by lia),sS,f1,show (H:Int)=(r:Int) by lia];simp only[show ¬(r:Int)<(r:Int) by lia,yu]
    simp only[go_sem,ya,yh,Cj,wrapN (n:=n-2) (by lia),dc 0 pre.length (show n-2<n+1 by lia),Ba,show (G:Int)<=(u2:Int) by lia];exact⟨_,_,rfl,by simp,_,q,rfl,rfl,rfl,rfl,rfl,rfl,rh,hQ,hl.stop rh hq (.inr (by lia))⟩
   .left
    have DS:r*2^64+u2<q*v2:=by lia
    have Ch:0<q:=by
     rcases xj q with h0 | h0
     .subst h0;lia
     .exact h0
    have e3:binOp .sub (uc q) (.int .u64 1)=Gr (uc (q-1)):=FH (b:=1) (by lia) (by lia);have h1:(q-1)*v1+(r+v1)=u0*2^64+u1:=by
     obtain⟨p,rfl⟩:∃p,q=p+1:=⟨q-1,by lia⟩;rw[we,yah] at hq;rw[tg];lia
    have Cl:=hl.down hq DS;rw[y7] at f2;by_cases c3:H=r
    .have c4:¬G<=u2:=fun h=>c2 ⟨c3,h⟩
     subst c3
     simp only[go_sem,ya,xv,yh,Bz,H2,show ((0:Nat):Int)=0 from rfl,Cj,sT,wrapN (n:=n-2) (by lia),wrapN (n:=n-1) (by lia),sS,fC,f1,f2,show ¬(H:Int)<(H:Int) by lia,dc 0 pre.length (show n-2<n+1 by lia),Ba,show ¬(G:Int)<=(u2:Int) by lia,e3];refine⟨_,q-1,rfl,by lia,q-1,H+v1,?_,h1,by lia,by lia,Cl,rfl⟩;rw[zo (by simp only[go_sem,ya,yG,nX,oW,nS,nO,zh hw.pu,vL]) (by simp only[go_sem,ya,yb,yG,mw hw.pu])];simp only[go_sem,ya]
    .simp only [go_sem,ya,xv,Bz,H2,show ((0:Nat):Int)=0 from rfl,Cj,sT,wrapN (n:=n-2) (by lia),wrapN (n:=n-1) (by lia),sS,fC,f1,f2,show ¬(H:Int)<(r:Int) by lia,show ¬(H:Int)=(r:Int) by lia,e3];refine⟨_,q-1,rfl,by lia,q-1,r+v1,?_,h1,by lia,by lia,Cl,rfl⟩;rw[zo (by simp only[go_sem,ya,yG,nX,oW,nS,nO,zh hw.pu,vL]) (by simp only[go_sem,ya,yb,yG,mw hw.pu])];simp only[go_sem,ya]
 .right
  have DZ:r/2^64=1:=by lia
  rw[DZ];simp only[go_sem,ya,Bz,H2,show ((1:Nat):Int)=1 from rfl,yaG];exact⟨_,_,rfl,by simp,_,q,rfl,rfl,rfl,rfl,rfl,rfl,rh,hQ,hl.stop rh hq (.inl (by lia))⟩
def apf{b y z dT c Cm ca q v X:Nat}(h1:q*v+c=b*ca+dT)(h2:z+dT+bo=x+b*Cm)(h3:Y+q*X=y+p*(c+bo))(W:Nat)(hW:W+p*x=Y+p*z):
  W+q*(X+p*v)=y+p*b*(ca+Cm):=by grind
def apg{q v c:Nat}(hq:q<2^64)(hv:v<2^64)(hc:c<2^64):
  q*v+c=2^64*(q*v/2^64+(q*v%2^64+c+0)/2^64)+(q*v%2^64+c+0)%2^64/\
  q*v/2^64+(q*v%2^64+c+0)/2^64<2^64:=by
 have h:=yZ (show q<=18446744073709551615 by lia) (show v<=18446744073709551615 by lia)
 grind
def axj(oh:L.pure 143=Gr Av)(iO:L.pure 171=Gr p6)(AO:L.pure 173=Gr CV){w:AV}{x qs:List Nat}(hw:bR w vs){n:Nat}(sQ:n<=99999999999)(lv:vs.length=n)(gv:lo (2^64) vs){q:Nat}(hq:q<2^64):
  cE P L [0,1,5,6,11,12,104,105] KM (fun k s=>∃(i c bo:Nat) (y:List Nat),s=⟨[(0,.ay 0 pre.length (n+1)),(1,w),(5,aa n),(6,uc q),(11,uc bo),(12,uc c),(104,aa n),(105,aa i)],H2 qs (pre++y++post),2,2⟩/\i+k=n/\y.length=n+1/\lo (2^64) y/\c<2^64/\bo<=1/\
    bv (2^64) y+q*bv (2^64) (vs.take i)=bv (2^64) x+(2^64)^i*(c+bo)) (fun ex s'=>∃tm c bo y,s'=⟨tm,H2 qs (pre++y++post),2,2⟩/\ex=.exit 2/\ai tm 0=.ay 0 pre.length (n+1)/\ai tm 1=w/\ai tm 5=aa n/\ai tm 6=uc q/\ai tm 11=uc bo/\ai tm 12=uc c/\y.length=n+1/\lo (2^64) y/\c<2^64/\bo<=1/\
    bv (2^64) y+q*bv (2^64) vs=bv (2^64) x+(2^64)^n*(c+bo)):=by
 apply cI;rintro k s ⟨i,c,bo,y,rfl,hk,ly,gy,hc,kE,aK⟩;by_cases hi:i<n
 .left
  have dU:(0:Nat)<2^64:=by decide
  have z8:=iJ dU gv i;have sU:=iJ dU gy i;have ev:=hw.bj (i:=i) (by lia);have ey:=BH (l:=pre++y++post) (o:=pre.length+i) (by rw[rQ];lia)
  rw[ED (by lia)] at ey;have eL:=jU (b:=2^64) (l:=vs) i;obtain⟨a,ha⟩:∃a,a=vs.getD i 0:=⟨_,rfl⟩;obtain⟨d,hd⟩:∃d,d=y.getD i 0:=⟨_,rfl⟩;rw[<-ha] at z8 ev eL;rw[<-hd] at sU ey;have⟨m1,m2⟩:=apg hq z8 hc;have f1:=PY (P:=P) (f:=D P L) oh hq z8;have f2:=EZ (P:=P) (f:=D P L) iO (x:=q*a%2^64) (y:=c) (c:=0) (xE _ dU) hc (by lia);obtain⟨dT,aiv⟩:∃t,t=(q*a%2^64+c+0)%2^64:=⟨_,rfl⟩;obtain⟨c1,eY⟩:∃t,t=(q*a%2^64+c+0)/2^64:=⟨_,rfl⟩;have aiw:dT<2^64:=by rw[aiv];exact xE _ dU
  rw[<-aiv,<-eY] at f2 m1;rw[<-eY] at m2;obtain⟨h1,kB⟩:∃t,t=q*a/2^64:=⟨_,rfl⟩;rw[<-kB] at f1 m1 m2;rw[show (uc 0)=AV.int .u64 0 from rfl] at f2;have f3:=V5 (P:=P) (f:=D P L) AO sU aiw kE;have gU:=U1 sU aiw kE;obtain⟨z,hz⟩:∃t,t=(d+2^64*2-dT-bo)%2^64:=⟨_,rfl⟩;obtain⟨b',bE⟩:∃t,t=(if dT+bo<=d then 0 else 1):=⟨_,rfl⟩;have kj:b'<=1:=by rw[bE];split<;>lia
  have Iz:z<2^64:=by rw[hz];exact xE _ dU
  rw[<-hz,<-bE] at f3 gU;have f4:binOp .add (uc h1) (uc c1)=Gr (uc (h1+c1)):=by
   rw[Dh,yR m2]
  have aR:=qc (b:=2^64) (l:=y) (i:=i) (x:=z) (by lia);rw[<-hd] at aR;have aM:=fun (hp:Hp) (ct:Nat)=>mv (hp:=hp) (ct:=ct) (id:=0) (v:=z) (ex:=ydy) (l:=pre++y++post) (o:=pre.length+i) (by rw[rQ];lia)
  have qD:=PA (pre:=pre) (x:=y) (post:=post) (i:=i) z (by lia);simp only[go_sem,ya,yh,KM,H2,show (i:Int)<(n:Int) by lia,ev,f1,f2,f4,dc 0 pre.length (show i<n+1 by lia),ey,f3,aM,qD];refine⟨_,k-1,rfl,by lia,i+1,h1+c1,b',y.set i z,?_,by lia,by simp[ly],nV gy Iz,m2,kj,?_⟩
  .rw [zo (by simp only[go_sem,ya,yG,nX,oW,nS,nO,zh hw.pu,vL]) (by simp only[go_sem,ya,yb,yG,mw hw.pu])];rw[wrap64 (by lia) (by lia)];simp only[go_sem,ya]<;>rfl
  .rw [eL,AN];exact apf m1 gU aK _ aR
 .right
  have:i=n:=by lia
  subst this;rw[yK (by lia)] at aK;simp only[go_sem,ya,KM,H2,show ¬(i:Int)<(i:Int) by lia];exact⟨_,_,rfl,by simp,_,c,bo,y,rfl,rfl,rfl,rfl,rfl,rfl,rfl,rfl,ly,gy,hc,kE,aK⟩
def axk(iO:L.pure 171=Gr p6){w:AV}{y0 qs:List Nat}(hw:bR w vs){n:Nat}(sQ:n<=99999999999)(lv:vs.length=n)(gv:lo (2^64) vs){q:Nat}:
  cE P L [0,1,5,6,17,156,157] KN (fun k s=>∃(i c:Nat) (y:List Nat),s=⟨[(0,.ay 0 pre.length (n+1)),(1,w),(5,aa n),(6,uc q),(17,uc c),(156,aa n),(157,aa i)],H2 qs (pre++y++post),2,2⟩/\i+k=n/\y.length=n+1/\lo (2^64) y/\c<=1/\
    bv (2^64) y+(2^64)^i*c=bv (2^64) y0+bv (2^64) (vs.take i)) (fun ex s'=>∃tm c y,s'=⟨tm,H2 qs (pre++y++post),2,2⟩/\ex=.exit 4/\ai tm 0=.ay 0 pre.length (n+1)/\ai tm 5=aa n/\ai tm 6=uc q/\ai tm 17=uc c/\y.length=n+1/\lo (2^64) y/\c<=1/\
    bv (2^64) y+(2^64)^n*c=bv (2^64) y0+bv (2^64) vs):=by
 apply cI;rintro k s ⟨i,c,y,rfl,hk,ly,gy,hc,aK⟩;by_cases hi:i<n
 .left
  have dU:(0:Nat)<2^64:=by decide
  have z8:=iJ dU gv i;have sU:=iJ dU gy i;have ev:=hw.bj (i:=i) (by lia);have ey:=BH (l:=pre++y++post) (o:=pre.length+i) (by rw[rQ];lia)
  rw[ED (by lia)] at ey;have eL:=jU (b:=2^64) (l:=vs) i;obtain⟨a,ha⟩:∃a,a=vs.getD i 0:=⟨_,rfl⟩;obtain⟨d,hd⟩:∃d,d=y.getD i 0:=⟨_,rfl⟩;rw[<-ha] at z8 ev eL;rw[<-hd] at sU ey;have f1:=EZ (P:=P) (f:=D P L) iO sU z8 hc;have aR:=qc (b:=2^64) (l:=y) (i:=i) (x:=(d+a+c)%2^64) (by lia);rw[<-hd] at aR;have gJ:=Ox ((2^64)^i) (2^64) (d+a+c);have kX:(d+a+c)/2^64<=1:=by lia
  have Iz:(d+a+c)%2^64<2^64:=xE _ dU;generalize (d+a+c)%2^64=z at*
  generalize (d+a+c)/2^64=c' at*
  have aM:=fun (hp:Hp) (ct:Nat)=>mv (hp:=hp) (ct:=ct) (id:=0) (v:=z) (ex:=ydy) (l:=pre++y++post) (o:=pre.length+i) (by rw[rQ];lia)
  have qD:=PA (pre:=pre) (x:=y) (post:=post) (i:=i) z (by lia);simp only[go_sem,ya,yh,KN,H2,show (i:Int)<(n:Int) by lia,ev,f1,dc 0 pre.length (show i<n+1 by lia),ey,aM,qD];refine⟨_,k-1,rfl,by lia,i+1,c',y.set i z,?_,by lia,by simp[ly],nV gy Iz,kX,?_⟩
  .rw [zo (by simp only[go_sem,ya,yG,nX,oW,nS,nO,zh hw.pu,vL]) (by simp only[go_sem,ya,yb,yG,mw hw.pu])];rw[wrap64 (by lia) (by lia)];simp only[go_sem,ya]<;>rfl
  .rw [eL,AN];rw[xJ,xJ] at gJ
   lia
 .right
  have:i=n:=by lia
  subst this;rw[yK (by lia)] at aK;simp only[go_sem,ya,KN,H2,show ¬(i:Int)<(i:Int) by lia];exact⟨_,_,rfl,by simp,_,c,y,rfl,rfl,rfl,rfl,rfl,rfl,ly,gy,hc,aK⟩
def step_end{q:Nat}(hV:0<V)(h:Y+q*V=A+B*bo)(h1:A/V<=q)(h2:q<=A/V+1)(hY:Y<B)(hVB:V<=B)(kE:bo<=1):
  (bo=0->q=A/V/\Y=A%V)/\(bo=1->q=A/V+1/\Y+V=B+A%V):=by
 have eZ:=xL A V;have hm:=xE A hV;generalize A/V=Q at*
 have hq:q=Q\/q=Q+1:=by lia
 constructor
 .rintro rfl;rcases hq with rfl | rfl
  .grind
  .grind
 .grind
structure Wd(P:aF)(L:Lib):Prop where
 oh:L.pure 143=Gr Av
 iO:L.pure 171=Gr p6
 AO:L.pure 173=Gr CV
 Mx:L.pure 167=Gr Ho
 aix:Has P L 165 LZ
 og:Has P L 166 Dm
 aiy:Has P L 168 QZ
 aBF:Has P L 169 AI
 aiz:Has P L 158 HC
 aBG:Has P L 157 LY
 aiA:Has P L 159 QX
 aBH:Has P L 144 QV
 X1:Has P L 137 LV
def aA:VC->VC
 | .seq _ b=>b
 | c=>c
def axl(h:Wd P L){w:AV}{x qs:List Nat}(hw:bR w vs){n v1 v2:Nat}(hl:jf x vs n v1 v2 u0 u1 u2){q:Nat}(hq:q<2^64)(gK:bv (2^64) x/bv (2^64) vs<=q)(Bb:q<=bv (2^64) x/bv (2^64) vs+1):
  ∃tm x',D P L (aA (aA (aA (aA (aA (aA AI.body)))))) ⟨[(0,.ay 0 pre.length (n+1)),(1,w),(5,aa n),(6,uc q)],H2 qs (pre++x++post),2,2⟩=Gr (.ret,⟨tm,H2 qs (pre++x'++post),2,2⟩)/\ai tm 4=uc (bv (2^64) x/bv (2^64) vs)/\x'.length=n+1/\lo (2^64) x'/\bv (2^64) x'=bv (2^64) x%bv (2^64) vs:=by
 have dJ:=hl.n2;have sQ:=hl.nb;have dU:(0:Nat)<2^64:=by decide
 have hV:0<bv (2^64) vs:=by
  rcases xj (bv (2^64) vs) with h0 | h0
  .have:=hl.lt;rw[h0] at this;simp at this
  .exact h0
 have Be:below 2 w:=zh hw.pu;have Ny:=nc hl.gv;rw[hl.lv] at Ny;have aHQ:(2^64)^n<=(2^64)^(n+1):=y8 (by decide) (by lia);have aHR:aA (aA (aA (aA (aA (aA AI.body)))))=aA (aA (aA (aA (aA (aA AI.body))))):=rfl;simp only[go_sem,ya,AI,aA,H2];generalize oG:D P L (.loop _ KM) _=qq;obtain⟨ex,s,rfl,tm,c,bo,y,rfl,rfl,t0,t1,t5,t6,t11,t12,ly,gy,hc,kE,aK⟩:=bg oG (axj (P:=P) (L:=L) h.oh h.iO h.AO hw sQ hl.lv hl.gv hq (x:=x) (pre:=pre) (post:=post) (qs:=qs) n) ⟨0,0,0,x,by
  rw[zo (by simp only[go_sem,ya,yG,nX,oW,nS,nO,Be,vL]) (by simp only[go_sem,ya,yb,yG,mw hw.pu])]
  simp only[go_sem,ya]<;>rfl,by lia,hl.lx,hl.gx,dU,by lia,by simp[bv]⟩
 have ZZ:=iJ dU gy n;have ey:=BH (l:=pre++y++post) (o:=pre.length+n) (by rw[rQ];lia)
 rw[ED (by lia)] at ey;obtain⟨d,hd⟩:∃d,d=y.getD n 0:=⟨_,rfl⟩;rw[<-hd] at ZZ ey;have f3:=V5 (P:=P) (f:=D P L) h.AO ZZ hc kE;have gU:=U1 ZZ hc kE;obtain⟨z,hz⟩:∃t,t=(d+2^64*2-c-bo)%2^64:=⟨_,rfl⟩;obtain⟨b',bE⟩:∃t,t=(if c+bo<=d then 0 else 1):=⟨_,rfl⟩;have kj:b'<=1:=by rw[bE];split<;>lia
 have Iz:z<2^64:=by rw[hz];exact xE _ dU
 rw[<-hz,<-bE] at f3 gU;have aR:=qc (b:=2^64) (l:=y) (i:=n) (x:=z) (by lia);rw[<-hd] at aR;have aM:=fun (hp:Hp) (ct:Nat)=>mv (hp:=hp) (ct:=ct) (id:=0) (v:=z) (ex:=ydy) (l:=pre++y++post) (o:=pre.length+n) (by rw[rQ];lia)
 have qD:=PA (pre:=pre) (x:=y) (post:=post) (i:=n) z (by lia);have Gb:lo (2^64) (y.set n z):=nV gy Iz;have D0:(y.set n z).length=n+1:=by simp[ly]
 have hY:=nc Gb;rw[D0] at hY;have aBI:bv (2^64) (y.set n z)+q*bv (2^64) vs=bv (2^64) x+(2^64)^(n+1)*b':=by
  have e2:=congrArg (fun t=>(2^64)^n*t) gU;rw[AN,xk];simp only[xJ] at e2 aK;generalize (2^64)^n*(2^64*b')=p1 at*
  generalize (2^64)^n*z=p2 at*
  generalize (2^64)^n*d=p3 at*
  generalize (2^64)^n*c=p4 at*
  generalize (2^64)^n*bo=p5 at*
  lia
 have⟨s0,s1⟩:=step_end hV aBI gK Bb hY (by lia) kj;simp only[go_sem,ya,yb,yG,yh,zo,nX,oW,nS,nO,Be,vL,mw hw.pu,t0,t1,t5,t6,t11,t12,dc 0 pre.length (show n<n+1 by lia),ey,f3,aM,qD];by_cases kY:b'=0
 .have ⟨e1,e2⟩:=s0 kY;simp only[go_sem,ya,show (b':Int)=0 by lia];exact⟨_,y.set n z,rfl,by rw[<-e1];simp only[go_sem],D0,Gb,e2⟩
 .have ⟨e1,e2⟩:=s1 (by lia);simp only[go_sem,ya,show ¬(b':Int)=0 by lia];generalize FI:D P L (.loop _ KN) _=ZY;obtain⟨ex,s,rfl,qS,c2,y2,rfl,rfl,t0,t5,t6,t17,Z0,SU,DO,az4⟩:=bg FI (axk (P:=P) (L:=L) h.iO hw sQ hl.lv hl.gv (y0:=y.set n z) (pre:=pre) (post:=post) (qs:=qs) (q:=q) n) ⟨0,0,y.set n z,by
   rw[zo (by simp only[go_sem,ya,yG,nX,oW,nS,nO,Be,vL]) (by simp only[go_sem,ya,yb,yG,mw hw.pu])]
   simp only[go_sem,ya]<;>rfl,by lia,D0,Gb,by lia,by simp[bv]⟩
  have aBJ:=iJ dU SU n;have Z1:=BH (l:=pre++y2++post) (o:=pre.length+n) (by rw[rQ];lia)
  rw[ED (by lia)] at Z1;obtain⟨d2,jC⟩:∃d,d=y2.getD n 0:=⟨_,rfl⟩;rw[<-jC] at aBJ Z1;have f4:=Dh d2 c2;have Qs:=qc (b:=2^64) (l:=y2) (i:=n) (x:=(d2+c2)%2^64) (by lia);rw[<-jC] at Qs;have gJ:=Ox ((2^64)^n) (2^64) (d2+c2);have aBK:(d2+c2)%2^64<2^64:=xE _ dU;have hc3:(d2+c2)/2^64<=1:=by lia
  generalize (d2+c2)%2^64=z2 at*
  generalize (d2+c2)/2^64=c3 at*
  have zK:=fun (hp:Hp) (ct:Nat)=>mv (hp:=hp) (ct:=ct) (id:=0) (v:=z2) (ex:=ydy) (l:=pre++y2++post) (o:=pre.length+n) (by rw[rQ];lia)
  have Qt:=PA (pre:=pre) (x:=y2) (post:=post) (i:=n) z2 (by lia);have SV:lo (2^64) (y2.set n z2):=nV SU aBK;have Nz:(y2.set n z2).length=n+1:=by simp[Z0]
  have hY3:=nc SV;rw[Nz] at hY3;have Ch:0<q:=by rw[e1];exact Nat.succ_pos _
  have hq3:bv (2^64) x/bv (2^64) vs=q-1:=by rw[e1,tg]
  have f5:binOp .sub (uc q) (.int .u64 1)=Gr (uc (q-1)):=FH (b:=1) (by lia) (by lia);simp only[go_sem,ya,yb,yG,yh,zo,nX,oW,nS,nO,vL,t0,t5,t6,t17,dc 0 pre.length (show n<n+1 by lia),Z1,f4,zK,Qt,f5];refine⟨_,y2.set n z2,rfl,by rw[hq3];simp only[go_sem],Nz,SV,?_⟩;have e3:bv (2^64) (y2.set n z2)+(2^64)^(n+1)*c3=(2^64)^(n+1)+bv (2^64) x%bv (2^64) vs:=by
   rw[<-e2,<-az4,AN];rw[xJ] at gJ;omega
  rcases (show c3=0\/c3=1 by lia) with rfl | rfl
  .omega
  .lia
def aBL(h:Wd P L){w:AV}{x qs:List Nat}(hw:bR w vs){n v1 v2:Nat}(hl:jf x vs n v1 v2 u0 u1 u2):
  ∃x',jG P L (D P L) (H2 qs (pre++x++post)) 2 169 [.ay 0 pre.length (n+1),w]=Gr (uc (bv (2^64) x/bv (2^64) vs),H2 qs (pre++x'++post),2)/\x'.length=n+1/\lo (2^64) x'/\bv (2^64) x'=bv (2^64) x%bv (2^64) vs:=by
 have dJ:=hl.n2;have sQ:=hl.nb;have Be:below 2 w:=zh hw.pu;have sT:(n:Int)-1=((n-1:Nat):Int):=by lia
 have fC:=hw.bj (i:=n-1) (by have:=hl.lv;lia)
 rw[hl.fB] at fC;have D1:=BH (l:=pre++x++post) (o:=pre.length+n) (by rw[rQ];have:=hl.lx;lia)
 rw[ED (by have:=hl.lx;lia),hl.h0] at D1
 have D2:=BH (l:=pre++x++post) (o:=pre.length+(n-1)) (by rw[rQ];have:=hl.lx;lia)
 rw[ED (by have:=hl.lx;lia),hl.h1] at D2
 have HS:=hl.Nv;have RQ:=hl.Nw;have qF:=hl.top;have jY:∃tm x',D P L AI.body ⟨fa 0 [.ay 0 pre.length (n+1),w],H2 qs (pre++x++post),2,2⟩=Gr (.ret,⟨tm,H2 qs (pre++x'++post),2,2⟩)/\ai tm 4=uc (bv (2^64) x/bv (2^64) vs)/\x'.length=n+1/\lo (2^64) x'/\bv (2^64) x'=bv (2^64) x%bv (2^64) vs:=by
  have behind:∀(jk:Env) (q:Nat),ai jk 0=.ay 0 pre.length (n+1)->ai jk 1=w->ai jk 5=aa n->ai jk 6=uc q->q<2^64->bv (2^64) x/bv (2^64) vs<=q->q<=bv (2^64) x/bv (2^64) vs+1->
    ∃tm x',r7 P L (r7 P L (BG 0 (Gr (Ex.exit 0,⟨jk,H2 qs (pre++x++post),2,2⟩))) (.kp [0,1,5,6])) (aA (aA (aA (aA (aA (aA AI.body))))))=Gr (.ret,⟨tm,H2 qs (pre++x'++post),2,2⟩)/\ai tm 4=uc (bv (2^64) x/bv (2^64) vs)/\x'.length=n+1/\lo (2^64) x'/\bv (2^64) x'=bv (2^64) x%bv (2^64) vs:=by
   intro jk q t0 t1 t5 t6 g1 g2 g3;have hk:bD jk [0,1,5,6]=[(0,.ay 0 pre.length (n+1)),(1,w),(5,aa n),(6,uc q)]:=by simp only[go_sem,t0,t1,t5,t6]
   rw[aeQ,ju,aii,zo (by rw[hk];simp only[go_sem,yG,nX,oW,nS,nO,Be,vL]) (by rw[hk];simp only[go_sem,yb,yG,mw hw.pu]),ju,hk];exact axl h hw hl g1 g2 g3
  by_cases hc:u0<v1
  .have f1:=ais h.aix h.Mx (P:=P) (L:=L) hc RQ HS;have eZ:=xL (u0*2^64+u1) v1;have ns:=xE (u0*2^64+u1) hl.pos;have rh:(u0*2^64+u1)/v1<2^64:=by
    refine (xH hl.pos).2 ?_
    have:=yX (2^64) (show u0+1<=v1 from hc)
    rw[xg (2^64) v1]
    lia
   have PZ:=hl.first;rw[xg] at eZ;generalize (u0*2^64+u1)/v1=q0 at*
   generalize (u0*2^64+u1)%v1=r0 at*
   simp only[go_sem,ya,yh,AI,H2,hw.len,hl.lv,sT,wrapN (n:=n-1) (by lia),fC,dc 0 pre.length (show n<n+1 by lia),dc 0 pre.length (show n-1<n+1 by lia),D1,D2,show ¬(v1:Int)<=(u0:Int) by lia,f1];generalize oG:D P L (.loop _ Bz) _=qq;obtain⟨ex,s,rfl,jk,q,rfl,rfl,t0,t1,t5,t6,g1,g2,g3⟩:=bg oG (afG (P:=P) (L:=L) h.oh h.iO hw hl (pre:=pre) (post:=post) (qs:=qs) q0) ⟨q0,r0,by
    rw[zo (by simp only[go_sem,ya,yG,nX,oW,nS,nO,Be,vL]) (by simp only[go_sem,ya,yb,yG,mw hw.pu])];rw[yR (show r0<2^64 by lia),xU (show r0<2^64 by lia)]
    simp only[go_sem,ya]<;>rfl,eZ,by lia,rh,PZ,rfl⟩
   exact behind jk q t0 t1 t5 t6 g1 g2 g3
  .have zY:u0=v1:=by lia
   have f1:=EZ (P:=P) (f:=D P L) h.iO RQ HS (c:=0) (by lia);rw[y7,show (uc 0)=AV.int .u64 0 from rfl] at f1;have RR:=hl.digit
   simp only[go_sem,ya,yh,AI,H2,hw.len,hl.lv,sT,wrapN (n:=n-1) (by lia),fC,dc 0 pre.length (show n<n+1 by lia),dc 0 pre.length (show n-1<n+1 by lia),D1,D2,show (v1:Int)<=(u0:Int) by lia,f1];generalize oG:D P L (.loop _ Bz) _=qq;obtain⟨ex,s,rfl,jk,q,rfl,rfl,t0,t1,t5,t6,g1,g2,g3⟩:=bg oG (afG (P:=P) (L:=L) h.oh h.iO hw hl (pre:=pre) (post:=post) (qs:=qs) 18446744073709551615) ⟨18446744073709551615,u1+v1,by
    rw[zo (by simp only[go_sem,ya,yG,nX,oW,nS,nO,Be,vL]) (by simp only[go_sem,ya,yb,yG,mw hw.pu])]
    simp only[go_sem,ya]<;>rfl,by rw[zY];lia,by lia,by decide,by lia,rfl⟩
   exact behind jk q t0 t1 t5 t6 g1 g2 g3
 have⟨tm,x',g1,g2,g3,g4,g5⟩:=jY;refine⟨x',?_,g3,g4,g5⟩;exact Kt h.aBF g1 (.inr rfl) (by show jD _ [RV.t 4]=_;rw[XS,WT,g2])
def WN(v:AV)(m:Nat):Prop:=∃l,bR v l/\lo (2^64) l/\iW l/\bv (2^64) l=m
def ark(i:Nat)(q:List Nat)(x:Nat):(yk (i+1) 0++q).set i x=yk i 0++x::q:=by
 rw[List.replicate_succ',xM]
 simp_all
def PB{b:Nat}{l:List Nat}{i:Nat}(h:i<l.length):bv b (l.drop i)=l.getD i 0+b*bv b (l.drop (i+1)):=by
 rw[yS h,gd h];rfl
def V7{w:AV}{x y:List Nat}(hv:bR v x)(hw:bR w y)(hp:Hp):result hp (.av [v,w])=Gr (.av [v,w]):=by
 rcases hv with ⟨rfl,_⟩ | ⟨e,rfl⟩<;>rcases hw with ⟨rfl,_⟩ | ⟨e',rfl⟩<;>rfl
def atM{id n l h:Nat}{pu ex:Bool}{cs:List AV}{x y:X}(hg:ak hp id=Gr (.cells ydy pu ex 1 cs))(hx:c6 tm 0 (Gr x)=Gr l)(hy:c6 tm n (Gr y)=Gr h)(h1:l<h)(h2:h<=n):
  fY hp (.sl 1) (.ay id 0 n) tm (Gr x) (Gr y)=Gr (.ay id l (h-l)):=by
 simp only[fY,hg,hx,hy,yz (uY h1),yz h2,wK,wg,yy,gW (Nat.ne_of_lt h1),wH,yT,ye,yh]
def adR{id n h:Nat}{pu ex:Bool}{cs:List AV}{y:X}(hg:ak hp id=Gr (.cells ydy pu ex 1 cs))(hy:c6 tm n (Gr y)=Gr h)(h1:0<h)(h2:h<=n):
  fY hp (.sl 1) (.ay id 0 n) tm Gs (Gr y)=Gr (.ay id 0 h):=by
 have hx:c6 tm 0 Gs=Gr 0:=rfl;simp only[fY,hg,hx,hy,yz (tG h),yz h2,wK,wg,yy,gW (show (0:Nat)≠h by lia),wH,yT,wz,y7,ycQ]
def ahi(P:aF)(L:Lib)(f:cu)(hp:Hp)(ct n:Nat)(xs:List AV):fb P L f hp ct .heap (.fn (.f n) [] []) xs=jG P L f hp ct n xs:=by
 simp only[fb,xt,wu]
def axm(h:Wd P L){w:AV}{x:List Nat}(hv:bR v x)(hx:lo (2^64) x)(lx:x.length<=99999999999)(hw:bR w [d])(ij:0<d)(Z2:d<2^64){n:Nat}(hn:n=x.length):
  cE P L [0,1,6,7,8] KI (fun k s=>∃(i r:Nat) (q:List Nat),s=⟨[(0,v),(1,w),(6,.ay 0 0 n),(7,uc r),(8,aa ((i:Int)-1))],[(0,.cells ydy ydy ydy 1 ((yk i 0++q).map uc))],1,0⟩/\i=k/\i+q.length=n/\lo (2^64) q/\r<d/\bv (2^64) (x.drop i)=bv (2^64) q*d+r) (fun ex s'=>∃tm r q,s'=⟨tm,[(0,.cells ydy ydy ydy 1 (q.map uc))],1,0⟩/\ex=.exit 0/\ai tm 6=.ay 0 0 n/\ai tm 7=uc r/\q.length=n/\lo (2^64) q/\r<d/\bv (2^64) x=bv (2^64) q*d+r):=by
 apply cI;rintro k s ⟨i,r,q,rfl,rfl,hlen,aZ,hr,aK⟩
 cases i with
 | zero=>
  right
  simp only[go_sem,ya,KI,show ¬(0:Int)<=((0:Nat):Int)-1 by lia];exact⟨_,_,rfl,by simp,_,r,q,rfl,rfl,rfl,rfl,by lia,aZ,hr,by simpa using aK⟩
 | succ i=>
  left
  have gx:=iJ (show 0<2^64 by decide) hx i;have e1:=hv.bj (i:=i) (by lia);have e2:=hw.bj (i:=0) (by simp);have kC:=PB (b:=2^64) (l:=x) (i:=i) (by lia);rw[show ([d]:List Nat).getD 0 0=d from rfl] at e2;generalize x.getD i 0=a at*
  have e3:=ais (P:=P) (L:=L) h.aix h.Mx hr gx Z2;have eZ:=xL (r*2^64+a) d;have ns:=xE (r*2^64+a) ij;have rh:(r*2^64+a)/d<2^64:=by
   refine (xH ij).2 ?_
   lia
  generalize (r*2^64+a)/d=q1 at*
  generalize (r*2^64+a)%d=r1 at*
  have aM:=fun (hp:Hp) (ct:Nat)=>mv (hp:=hp) (ct:=ct) (id:=0) (v:=q1) (ex:=ydy) (l:=yk (i+1) 0++q) (o:=i) (by simp;lia)
  simp only[go_sem,ya,yh,KI,show ((i+1:Nat):Int)-1=(i:Int) by lia,show (0:Int)<=(i:Int) by lia,e1,e2,e3,dc 0 0 (show i<n by lia),ye,aM,ark];refine⟨_,i,rfl,by lia,i,r1,q1::q,?_,rfl,by simp;lia,OK.2 ⟨Hf.2 rh,aZ⟩,ns,?_⟩
  .rw [wrap64 (by lia) (by lia)];simp only[go_sem,ya,yb,aq,aC hv.pu,aC hw.pu]<;>rfl
  .rw [kC,aK];simp only[bv];rw[we,xJ,<-xk (2^64)];rw[xg d q1] at eZ
   lia
def aph{s u:Nat}(hs:s<64)(hu:u<2^64):u/2^s<2^64/\(0<s->u/2^s|||(u1*2^(64-s)%2^64)<2^64)/\
  (if 0<s then (u/2^s|||(u1*2^(64-s)%2^64)) else u/2^s)*2^s+u%2^s=u+2^64*(u1%2^s):=by
 have e:2^64=2^s*2^(64-s):=by rw[<-xF,show s+(64-s)=64 by lia]
 have h1:u1*2^(64-s)%2^64=(u1%2^s)*2^(64-s):=by rw[e,uH]
 have hp:=xf s;have h2:u/2^s<2^(64-s):=by
  refine (xH hp).2 ?_
  grind
 have h3:u/2^s|||(u1*2^(64-s)%2^64)=(u1%2^s)*2^(64-s)+u/2^s:=by rw[h1,ydh,V6 h2]
 have h4:(u1%2^s)*2^(64-s)+u/2^s<2^64:=by
  have:=yX (2^(64-s)) (show u1%2^s+1<=2^s from xE _ hp)
  grind
 have h5:=uF u (2^s)
 grind
def axn{us qs:List Nat}{n m s:Nat}(hs:s<64)(lu:us.length=la)(gu:lo (2^64) us)(hn:n<la)(Bf:la<=100000000000):
  cE P L [9,11,12,13,96,97] GU (fun k st=>∃(i:Nat) (rs:List Nat),st=⟨[(9,aa s),(11,.ay 0 0 la),(12,aa n),(13,.ay 1 0 m),(96,aa n),(97,aa i)],H2 qs (rs++us.drop i),2,0⟩/\i+k=n/\rs.length=i/\lo (2^64) rs/\bv (2^64) rs*2^s+us.getD 0 0%2^s=bv (2^64) (us.take i)+(2^64)^i*(us.getD i 0%2^s)) (fun ex st'=>∃tm rs,st'=⟨tm,H2 qs (rs++us.drop n),2,0⟩/\ex=.exit 4/\ai tm 11=.ay 0 0 la/\ai tm 12=aa n/\ai tm 13=.ay 1 0 m/\rs.length=n/\lo (2^64) rs/\bv (2^64) rs*2^s+us.getD 0 0%2^s=bv (2^64) (us.take n)+(2^64)^n*(us.getD n 0%2^s)):=by
 apply cI;rintro k st ⟨i,rs,rfl,hk,lr,gr,aK⟩;by_cases hi:i<n
 .left
  have dU:(0:Nat)<2^64:=by decide
  have g0:=iJ dU gu i;have g1:=iJ dU gu (i+1);have d0:us.drop i=us.getD i 0::us.getD (i+1) 0::us.drop (i+2):=by
   rw[yS (show i<us.length by lia),yS (show i+1<us.length by lia),gd,gd]
  have eL:=jU (b:=2^64) (l:=us) i;have nh:∀r,r<2^64->r*2^s+us.getD i 0%2^s=us.getD i 0+2^64*(us.getD (i+1) 0%2^s)->lo (2^64) (rs++[r])/\bv (2^64) (rs++[r])*2^s+us.getD 0 0%2^s=bv (2^64) (us.take (i+1))+(2^64)^(i+1)*(us.getD (i+1) 0%2^s):=fun r h1 h2=>by
   refine⟨OK.2 ⟨gr,Hf.2 h1⟩,?_⟩;rw[An,C3,lr,eL,we,AN,xk,xk];have e2:=congrArg (fun t=>(2^64)^i*t) h2;simp only[xJ] at e2;generalize (2^64)^i*(r*2^s)=p1 at*
   generalize (2^64)^i*(us.getD i 0%2^s)=p2 at*
   generalize (2^64)^i*us.getD i 0=p3 at*
   generalize (2^64)^i*(2^64*(us.getD (i+1) 0%2^s))=p4 at*
   lia
  have X2:us.drop (i+1)=us.getD (i+1) 0::us.drop (i+2):=by
   rw[yS (show i+1<us.length by lia),gd]
  generalize us.getD i 0=a at*
  obtain⟨c,hc⟩:∃c,c=us.getD (i+1) 0:=⟨_,rfl⟩;rw[<-hc] at g1 d0 X2 nh;generalize us.drop (i+2)=dr at*
  rw[d0];have⟨n1,n2,n3⟩:=aph (u1:=c) hs g0;have o1:=Mw .i64 a (s:=s) (by lia);have o2:=Mv .i64 c (s:=64-s) (by lia);have o3:binOp .sub (.int .i64 64) (aa s)=Gr (aa (64-s:Nat)):=by
   rw[Pu,wrap64 (by lia) (by lia)];congr 2;lia
  have o4:=SQ n1 (xE (c*2^(64-s)) dU);have sa:∀z y,(rs++z::y).set i a=rs++a::y:=fun z y=>by rw[ybf _ _ (by lia),lr];simp
  have e0:∀z y,uh i ((rs++z::y).map uc)=uc z::y.map uc:=fun z y=>by
   rw[xB,tJ (by simp[lr])];rfl
  have e1:∀z y u,uh (i+1) ((rs++z::y::u).map uc)=uc y::u.map uc:=fun z y u=>by
   rw[show rs++z::y::u=(rs++[z])++y::u by simp,xB,tJ (by simp[lr])];rfl
  have nD:∀(hp:Hp) (ct x z:Nat) (y:List Nat),jr hp ct 0 i 1 [.int .u64 (x:Int)] (Gr (.cells ydy ydy ydy 1 ((rs++z::y).map uc)))=Gr (.av [],aR hp 0 (.cells ydy ydy ydy 1 ((rs++x::y).map uc)),ct):=fun hp ct x z y=>by
   rw[mv (by simp;lia),ybf _ _ (by lia),lr];simp
  by_cases h0:0<s
  .rw [yE h0] at n3;have⟨f1,f2⟩:=nh _ (n2 h0) n3;generalize a/2^s=a1 at*
   generalize a1|||(c*2^(64-s)%2^64)=r at*
   simp only[go_sem,ya,yh,GU,H2,show (i:Int)<(n:Int) by lia,dc 0 0 (show i<la by lia),ye,e0,o1,nD,show (0:Int)<(s:Int) by lia,show (i:Int)+1=((i+1:Nat):Int) from rfl,wrapN (n:=i+1) (by lia),show ((i+1:Nat):Int)<(la:Int) by lia,dc 0 0 (show i+1<la by lia),e1,o3,o2,o4];refine⟨_,k-1,rfl,by lia,i+1,rs++[r],by simp only[go_sem,ya,yb,aq];rw[X2];simp,by lia,by simp[lr],f1,by rw[<-hc];exact f2⟩
  .rw [yp h0] at n3;have⟨f1,f2⟩:=nh _ n1 n3;generalize a/2^s=a1 at*
   simp only[go_sem,ya,yh,GU,H2,show (i:Int)<(n:Int) by lia,dc 0 0 (show i<la by lia),ye,e0,o1,nD,show ¬(0:Int)<(s:Int) by lia,show (i:Int)+1=((i+1:Nat):Int) from rfl,wrapN (n:=i+1) (by lia)];refine⟨_,k-1,rfl,by lia,i+1,rs++[a1],by simp only[go_sem,ya,yb,aq];rw[X2];simp,by lia,by simp[lr],f1,by rw[<-hc];exact f2⟩
 .right
  have:i=n:=by lia
  subst this;simp only[go_sem,ya,GU,H2,show ¬(i:Int)<(i:Int) by lia];exact⟨_,_,rfl,by simp,_,rs,rfl,rfl,rfl,rfl,rfl,lr,gr,aK⟩
section
variable {v w:AV}{l x:List Nat}
def acO{b bu bq0 pre:Nat}(h1:bu=pre+p*A)(h2:bu+bq0*V=U0):(pre+p*(A%V))+(bq0+p*(A/V))*V=U0:=by
 have eZ:=xL A V
 grind
def az5(hp:Hp)(ct:Nat)(ex:Bool)(sz n:Nat)(cs:List AV):own hp ct (.cR ex sz n cs)=(.ay ct 0 n,(ct,.cells ydy ydy ex sz cs)::hp,ct+1):=rfl
def axo(h:Wd P L)(hw:bR w vs)(gv:lo (2^64) vs){n m:Nat}(lv:vs.length=n)(dJ:2<=n)(Sr:n<=la)(Bf:la<=99999999999)(hm:m=la-n+1)(fB:0<vs.getD (n-1) 0){s:Nat}:
  cE P L [9,10,11,12,13,14] KJ (fun k st=>∃(j:Nat) (us qs:List Nat),st=⟨[(9,aa s),(10,w),(11,.ay 0 0 (la+1)),(12,aa n),(13,.ay 1 0 m),(14,aa ((j:Int)-1))],H2 qs us,2,0⟩/\j=k/\j<=m/\us.length=la+1/\qs.length=m/\lo (2^64) us/\lo (2^64) qs/\(∀i,i<j->qs.getD i 0=0)/\
    bv (2^64) us+bv (2^64) qs*bv (2^64) vs=U0/\bv (2^64) (us.drop j)<bv (2^64) vs) (fun ex st'=>∃tm us qs,st'=⟨tm,H2 qs us,2,0⟩/\ex=.exit 2/\ai tm 9=aa s/\ai tm 11=.ay 0 0 (la+1)/\ai tm 12=aa n/\ai tm 13=.ay 1 0 m/\us.length=la+1/\qs.length=m/\lo (2^64) us/\lo (2^64) qs/\
    bv (2^64) us+bv (2^64) qs*bv (2^64) vs=U0/\bv (2^64) us<bv (2^64) vs):=by
 apply cI;rintro k st ⟨j,us,qs,rfl,rfl,hj,lu,lq,gu,gq,hz,aK,qF⟩
 cases j with
 | zero=>
  right
  simp only[go_sem,ya,KJ,H2,show ¬(0:Int)<=((0:Nat):Int)-1 by lia];exact⟨_,_,rfl,by simp,_,us,qs,rfl,rfl,rfl,rfl,rfl,rfl,lu,lq,gu,gq,aK,by simpa using qF⟩
 | succ j=>
  left
  have dU:(0:Nat)<2^64:=by decide
  obtain⟨pre,eX⟩:∃p,p=us.take j:=⟨_,rfl⟩;obtain⟨x,hx⟩:∃p,p=(us.drop j).take (n+1):=⟨_,rfl⟩;obtain⟨post,gG⟩:∃p,p=us.drop (j+(n+1)):=⟨_,rfl⟩;have lp:pre.length=j:=by rw[eX,yP];lia
  have lx:x.length=n+1:=by rw[hx,yP,wh];lia
  have lY:us=pre++x++post:=by
   rw[eX,hx,gG,<-vV,xM,wo,wo]
  have gx:lo (2^64) x:=by rw[hx];exact Bv (aeN gu _) _
  have X3:lo (2^64) pre:=by rw[eX];exact Bv gu _
  have az6:lo (2^64) post:=by rw[gG];exact aeN gu _
  have hA:bv (2^64) (us.drop j)=us.getD j 0+2^64*bv (2^64) (us.drop (j+1)):=PB (by lia);have hgj:=iJ dU gu j;have Z3:us.drop j=x++post:=by rw[gG,hx,<-vV,wo]
  have Cn:bv (2^64) (us.drop j)=bv (2^64) x+(2^64)^(n+1)*bv (2^64) post:=by rw[Z3,An,lx]
  have Ny:=nc gv;rw[lv] at Ny;have aG:bv (2^64) (us.drop j)<2^64*bv (2^64) vs:=by lia
  have hp0:bv (2^64) post=0:=by
   rcases xj (bv (2^64) post) with e | e
   .exact e
   .have h1:=y5 ((2^64)^(n+1)) e;rw[yh,AN] at h1;rw[AN] at Cn
    lia
  rw[hp0,xI,y7] at Cn;have hl:jf x vs n (vs.getD (n-1) 0) (vs.getD (n-2) 0) (x.getD n 0) (x.getD (n-1) 0) (x.getD (n-2) 0):=
   ⟨dJ,by lia,lx,lv,gx,gv,rfl,rfl,rfl,rfl,rfl,fB,by rw[<-Cn];exact aG⟩
  have RR:=hl.digit;have⟨x',e1,Z4,SW,NA⟩:=aBL h hw hl (pre:=pre) (post:=post) (qs:=qs);rw[lp,<-lY] at e1;have Z5:bv (2^64) us=bv (2^64) pre+(2^64)^j*bv (2^64) x:=by
   have:=Kb (b:=2^64) us j (by lia)
   rw[Cn,<-eX] at this;exact this
  have X4:bv (2^64) (pre++x'++post)=bv (2^64) pre+(2^64)^j*bv (2^64) x':=by
   rw[xM,An,An,hp0,xI,y7,lp]
  have aR:=qc (b:=2^64) (l:=qs) (i:=j) (x:=bv (2^64) x/bv (2^64) vs) (by lia);rw[hz j (by lia),xI,y7] at aR;have nh:=acO (b:=0) Z5 aK;have aM:=fun (hp:Hp) (ct:Nat)=>mv (hp:=hp) (ct:=ct) (id:=1) (v:=bv (2^64) x/bv (2^64) vs) (ex:=ydy) (l:=qs) (o:=j) (by lia)
  have z7:0<bv (2^64) vs:=by lia
  have ns:=xE (bv (2^64) x) z7;have pn:∀tm (x y:X),c6 tm 0 (Gr x)=Gr j->c6 tm (la+1) (Gr y)=Gr (j+n+1)->fY (H2 qs us) (.sl 1) (.ay 0 0 (la+1)) tm (Gr x) (Gr y)=Gr (.ay 0 j (n+1)):=fun tm x y h1 h2=>by
   rw[atM (cs:=us.map uc) (pu:=ydy) (ex:=ydy) rfl h1 h2 (by lia) (by lia),show j+n+1-j=n+1 by lia]
  simp only[go_sem,ya,yh,KJ,H2,show ((j+1:Nat):Int)-1=(j:Int) by lia,show (0:Int)<=(j:Int) by lia,show (j:Int)+(n:Int)=((j+n:Nat):Int) from rfl,wrapN (n:=j+n) (by lia),show ((j+n:Nat):Int)+1=((j+n+1:Nat):Int) from rfl,wrapN (n:=j+n+1) (by lia),pn,eE,ahi,e1,dc 1 0 (show j<m by lia),ye,aM];refine⟨_,j,rfl,by lia,j,pre++x'++post,qs.set j (bv (2^64) x/bv (2^64) vs),?_,rfl,by lia,by rw[rQ,lp,Z4,gG,wh];lia,by simp[lq],OK.2 ⟨OK.2 ⟨X3,SW⟩,az6⟩,nV gq RR,fun i hi=>by rw[rP (by lia)];exact hz i (by lia),?_,?_⟩
  .rw [wrap64 (by lia) (by lia)];simp only[go_sem,ya,yb,aq,aC hw.pu]<;>rfl
  .rw [X4,NA,aR];exact nh
  .rw [xM,tJ lp,An,hp0,xI,y7,NA];exact ns
def az7{n:Nat}(h:l.length=n+1):(2^64)^n*l.getD n 0<=bv (2^64) l:=by
 have:=jU (b:=2^64) (l:=l) n
 grind
def po{m:Nat}(hn:iW l)(hv:bv (2^64) l=m)(h:m<(2^64)^K):l.length<=K:=aoC (b:=2^64) (by decide) hn (by rw[hv];exact h)
def axp(h:Wd P L)(hv:bR v x)(hw:bR w [d])(gx:lo (2^64) x)(lx:x.length<=90000000000)(ij:0<d)(Z2:d<2^64)(ec:ab P L 158 [v,w] (aa (er (bv (2^64) x) d)))(hc:d<=bv (2^64) x):
  ∃q r,ab P L 137 [v,w] (.av [q,r])/\WN q (bv (2^64) x/d)/\WN r (bv (2^64) x%d):=by
 have eY:¬er (bv (2^64) x) d<0:=by unfold er;rw[yp (by lia)];split<;>decide
 obtain⟨n,hn⟩:∃n,n=x.length:=⟨_,rfl⟩;have main:∃r l,(∀c:Nat->AV->AV->Option AV,True)/\r<d/\l.length=n/\lo (2^64) l/\bv (2^64) x=bv (2^64) l*d+r/\
   ∃q1 r1,bR q1 (eG l)/\bR r1 (eG [r])/\ab P L 137 [v,w] (.av [q1,r1]):=by
  unfold ab;rw[aD h.X1]
  simp only[go_sem,ya,LV,hv.len,hv.ah,hw.len,hw.ah,ec,eY,yB,yM,ye,show ((1:Nat):Int)=(1:Int) from rfl,<-hn,FG (n:=n) _ (by lia)];generalize hq:D P L (.loop _ KI) _=q;obtain⟨ex,s,rfl,tm,r,l,rfl,rfl,t6,t7,sL,aZ,hr,aK⟩:=bg hq (axm (P:=P) (L:=L) h hv gx (by lia) hw ij Z2 hn n) ⟨n,0,[],by
   rw[wrap64 (by lia) (by lia),wu]
   simp only[go_sem,ya,yb,aq,aC hv.pu,aC hw.pu]<;>rfl,rfl,rfl,PW,ij,by rw[xb (by lia)];simp[bv]⟩
  have hf:=oS ydy l;rw[sL] at hf;have⟨q1,e1,gK⟩:=Dv h.og hf (by lia);have⟨r1,e2,dS⟩:=Dv h.og (oS ydy [r]) (by simp);simp only[yB,yM,ye,yV,List.map_nil] at e2;refine⟨r,l,fun _=>trivial,hr,sL,aZ,aK,q1,r1,gK,dS,?_⟩
  simp only[go_sem,ya,yb,yG,yq,yh,aq,t6,t7,Du _ (n:=n) (l:=l) sL ydy,e1,gK.shut,e2,dS.shut];exact V7 gK dS _
 have⟨r,l,_,hr,sL,aZ,aK,q1,r1,gK,dS,e⟩:=main;have hq:bv (2^64) l=bv (2^64) x/d:=by
  rw[aK,xg,tA ij,xU hr,y7]
 have hm:r=bv (2^64) x%d:=by
  rw[aK,xg,yal,yR hr]
 exact⟨q1,r1,e,⟨_,gK,CN aZ,CM _,by rw[CL,hq]⟩,⟨_,dS,CN (Hf.2 (by lia)),CM _,by rw[CL,C3,hm]⟩⟩
def axq(h:Wd P L){y:List Nat}(hv:bR v x)(hw:bR w y)(gx:lo (2^64) x)(gy:lo (2^64) y)(nx:iW x)(ny:iW y)(lx:x.length<=90000000000)(ly:2<=y.length)(ec:ab P L 158 [v,w] (aa (er (bv (2^64) x) (bv (2^64) y))))(hc:bv (2^64) y<=bv (2^64) x):
  ∃q r,ab P L 137 [v,w] (.av [q,r])/\WN q (bv (2^64) x/bv (2^64) y)/\WN r (bv (2^64) x%bv (2^64) y):=by
 have dU:(0:Nat)<2^64:=by decide
 have eY:¬er (bv (2^64) x) (bv (2^64) y)<0:=by unfold er;rw[yp (by lia)];split<;>decide
 have hyx:y.length<=x.length:=by
  by_cases hh:x.length<y.length
  .have:=Pt (b:=2^64) (by decide) gx ny hh;lia
  .lia
 obtain⟨n,hn⟩:∃n,n=y.length:=⟨_,rfl⟩;obtain⟨la,Bf⟩:∃la,la=x.length:=⟨_,rfl⟩;have n5:=Kc ny (fun e=>by subst e;simp at ly);have Aa:=iJ dU gy (y.length-1);have Z6:=hw.bj (i:=y.length-1) (by lia);have ml:=az7 (l:=y) (n:=n-1) (by lia);rw[<-hn] at n5 Aa Z6;obtain⟨top,qF⟩:∃top,y.getD (n-1) 0=top:=⟨_,rfl⟩;rw[qF] at n5 Aa Z6 ml;have elz:=afE (P:=P) (f:=D P L) h.Mx Aa;have⟨z1,z2,z3⟩:=U2 (vY n5) Aa;generalize 64-dO 64 top=s at*
 have⟨ov,ev,lov,gov,vov⟩:=ait h.aiy hw gy (by lia) z1;have⟨ou,eu,lou,gou,vou⟩:=ait h.aiy hv gx (by lia) z1;have⟨v',Z7,cl⟩:=Dv h.og (oS ydy ov) (by lia);rw[lov,<-hn] at Z7;rw[<-hn] at ev;rw[<-Bf] at eu lou;have gJ:=xf s;obtain⟨vs,B7⟩:∃vs,vs=eG ov:=⟨_,rfl⟩;rw[<-B7] at cl;have Gc:lo (2^64) vs:=by rw[B7];exact CN gov
 have NB:iW vs:=by rw[B7];exact CM _
 have Bg:bv (2^64) vs=bv (2^64) y*2^s:=by rw[B7,CL,vov]
 have hyW:bv (2^64) y*2^s<(2^64)^n:=by
  have e:2^64=2^(64-s)*2^s:=by rw[<-xF,show 64-s+s=64 by lia]
  have e1:=jU (b:=2^64) (l:=y) (n-1);rw[show n-1+1=n by lia,yK (by lia),qF] at e1;have e2:=nc (Bv gy (n-1));rw[yP,xo (by lia)] at e2;have e3:top<2^(64-s):=th (a:=2^s) (Nat.lt_of_lt_of_eq z3 e);have e4:=yX (2^s) (show top+1<=2^(64-s) from e3);rw[<-e] at e4;have e5:bv (2^64) y<(2^64)^(n-1)*(top+1):=by rw[xJ,yh];lia
  have e6:=xZ e5 gJ;rw[xk] at e6;have e7:=y5 ((2^64)^(n-1)) e4;rw[<-AN,show n-1+1=n by lia] at e7;exact yI e6 e7
 have aBM:(2^64)^(n-1)*2^s<=bv (2^64) vs:=by
  rw[Bg];refine yX _ (xi ?_ ml)
  have:=y5 ((2^64)^(n-1)) (show 1<=top by lia)
  lia
 have Co:vs.length=n:=by
  have h1:vs.length<=n:=by
   refine po NB Bg ?_;exact hyW
  have h2:¬vs.length<n:=fun hh=>by
   have e1:=nc Gc;have e2:(2^64)^vs.length<=(2^64)^(n-1):=y8 dU (by lia);have e3:=yX (2^s) ml;rw[xk,<-Bg] at e3;have e4:=y5 ((2^64)^(n-1)) (show 1<=top*2^s by lia)
   lia
  lia
 have fB:0<vs.getD (n-1) 0:=by
  have:=Kc NB (fun e=>by rw[e] at Co;simp at Co;lia)
  rw[Co] at this;exact vY this
 obtain⟨m,hm⟩:∃m,m=la-n+1:=⟨_,rfl⟩;have WW:bv (2^64) (ou.drop m)<bv (2^64) vs:=by
  have e1:=Kb (b:=2^64) ou m (by lia);have e2:=nc gx;rw[<-Bf] at e2;have e3:=xZ e2 gJ;rw[<-vou] at e3;have e4:(2^64)^la=(2^64)^m*(2^64)^(n-1):=by rw[<-xF];congr 1;lia
  rw[e4,xk] at e3;have e5:(2^64)^m*bv (2^64) (ou.drop m)<(2^64)^m*((2^64)^(n-1)*2^s):=by lia
  exact yI (Nat.lt_of_mul_lt_mul_left e5) aBM
 have e1y:(y.length:Int)-1=((n-1:Nat):Int):=by lia
 have aBN:((la:Nat):Int)-(n:Int)=((m-1:Nat):Int):=by lia
 have jY:∃tm us qs rs,(us.length=la+1/\qs.length=m/\lo (2^64) us/\lo (2^64) qs/\bv (2^64) us+bv (2^64) qs*bv (2^64) vs=bv (2^64) x*2^s/\bv (2^64) us<bv (2^64) vs/\
   rs.length=n/\lo (2^64) rs/\bv (2^64) rs*2^s+us.getD 0 0%2^s=bv (2^64) (us.take n)+(2^64)^n*(us.getD n 0%2^s))/\ai tm 0=v/\
   ∃q1 r1,bR q1 (eG qs)/\bR r1 (eG rs)/\ab P L 137 [v,w] (.av [q1,r1]):=by
  unfold ab at ec ev eu Z7;unfold ab;rw[aD h.X1];have hfo:=Du (n:=n+1) (l:=ov) (hp:=[]) (by lia) ydy
  simp only[go_sem,ya,yb,LV,hv.len,hv.ah,hw.len,hw.ah,ec,eY,show ¬(y.length:Int)=1 by lia,e1y,wrapN (n:=n-1) (by lia),Z6,elz,ev,az5,Du _ (n:=n+1) (l:=ov) (by lia) ydy,Z7,cl.len,cl.shut,eu,Co,<-Bf,aBN,wrapN (n:=m-1) (by lia),show ((m-1:Nat):Int)+1=(m:Int) by lia,wrapN (n:=m) (by lia),FG (n:=m) _ (by lia)];generalize oG:D P L (.loop _ KJ) _=qq;obtain⟨ex,st,rfl,tm,us,qs,rfl,rfl,t9,t11,t12,t13,SX,SY,IB,Z8,aK,aG⟩:=bg oG (axo (P:=P) (L:=L) h cl Gc Co (by lia) (by lia) (by lia) hm fB (s:=s) (U0:=bv (2^64) x*2^s) m) ⟨m,ou,yk m 0,by
   rw[show ((m-1:Nat):Int)=(m:Int)-1 by lia]
   simp only[go_sem,ya,yb,aq,aC cl.pu]<;>rfl,rfl,yx _,lou,by simp,gou,Hg dU m,fun i _=>EB m i,by rw[Hh,wz,y7,vou],WW⟩
  simp only[go_sem,ya,yb,aq,t9,t11,t12,t13];generalize FI:D P L (.loop _ GU) _=ZY;obtain⟨ex,st,rfl,qS,rs,rfl,rfl,t11,t12,t13,Z9,grs,RS⟩:=bg FI (axn (P:=P) (L:=L) (qs:=qs) (m:=m) (la:=la+1) (n:=n) z1 SX IB (by lia) (by lia) n) ⟨0,[],by simp only[go_sem,ya,yb,aq]<;>rfl,by lia,rfl,PW,by simp[bv]⟩
  have pn:∀(hp:Hp) tm (y:X),ak hp 0=Gr (.cells ydy ydy ydy 1 ((rs++us.drop n).map uc))->c6 tm (la+1) (Gr y)=Gr n->fY hp (.sl 1) (.ay 0 0 (la+1)) tm Gs (Gr y)=Gr (.ay 0 0 n):=fun hp tm y h1 h2=>adR h1 h2 (by lia) (by lia)
  have NC:=oS ydy qs;rw[SY] at NC;have⟨q1,f1,gK⟩:=Dv h.og NC (by lia);have eL:(rs++us.drop n).take n=rs:=by rw[List.take_append_of_le_length (by lia),yK (by lia)]
  have ND:∃e,∀hp:Hp,mG 0 n (Gr (ydy,1,(rs++us.drop n).map uc,hp))=Gr (.au e n (rs.map uc),hp):=by
   refine⟨ydy&&yQ 0 1&&yt n ((rs++us.drop n).map uc).length,fun hp=>?_⟩;simp only[mG,ye,yh,slice,yg,<-yaP,eL];rw[yz (by simp;lia)]
   rfl
  have⟨e,ND⟩:=ND;have eh:=oS e rs;rw[Z9] at eh;have⟨r1,f2,dS⟩:=Dv h.og eh (by lia);unfold ab at f1 f2;refine⟨[(0,v)],us,qs,rs,⟨SX,SY,IB,Z8,aK,aG,Z9,grs,RS⟩,rfl,q1,r1,gK,dS,?_⟩
  simp only[go_sem,ya,yb,aq,t11,t12,t13,Du _ (n:=m) (l:=qs) SY ydy,f1,gK.shut,pn,eE,ND,f2,dS.shut];exact V7 gK dS _
 have⟨tm,us,qs,rs,⟨SX,SY,IB,Z8,aK,aG,Z9,grs,RS⟩,_,q1,r1,gK,dS,e⟩:=jY;have gS:0<bv (2^64) y:=by
  have:=y5 ((2^64)^(n-1)) (show 1<=top by lia)
  have:=ycl (n:=n-1) dU
  lia
 rw[Bg] at aK aG;have My:bv (2^64) qs=bv (2^64) x/bv (2^64) y:=by
  rw[<-tT _ _ gJ,<-aK,vU,xg,tA (wV gS gJ),xU aG,y7]
 have SZ:bv (2^64) us=(bv (2^64) x%bv (2^64) y)*2^s:=by
  rw[<-uH,<-aK,vU,xg (bv _ qs),yal,yR aG]
 have lY:=Kb (b:=2^64) us n (by lia);have ij:bv (2^64) (us.drop n)=0:=by
  rcases xj (bv (2^64) (us.drop n)) with h0 | h0
  .exact h0
  .have:=y5 ((2^64)^n) h0
   lia
 have hun:us.getD n 0=0:=by
  have:=PB (b:=2^64) (l:=us) (i:=n) (by lia)
  lia
 rw[ij,xI,y7] at lY;have DY:us.getD 0 0%2^s=0:=by
  have e1:=PB (b:=2^64) (l:=us) (i:=0) (by lia);rw[yg,SZ] at e1;have e2:2^64=2^s*2^(64-s):=by rw[<-xF,show s+(64-s)=64 by lia]
  have e3:(us.getD 0 0+2^64*bv (2^64) (us.drop (0+1)))%2^s=us.getD 0 0%2^s:=by
   conv=>lhs;rw[e2,xk]
   exact Nat.add_mul_mod_self_left _ _ _
  rw[<-e3,<-e1,Nat.mul_mod_left]
 rw[hun,DY,Nat.zero_mod,xI,y7,y7,<-lY,SZ] at RS;have ahj:bv (2^64) rs=bv (2^64) x%bv (2^64) y:=Nat.eq_of_mul_eq_mul_right gJ RS;exact⟨q1,r1,e,⟨_,gK,CN Z8,CM _,by rw[CL,My]⟩,⟨_,dS,CN grs,CM _,by rw[CL,ahj]⟩⟩
def aiB(h:Wd P L){b:Nat}(hv:WN v a)(hw:WN w b)(hb:0<b)(ha:a<(2^64)^K)(hbK:b<(2^64)^K)(hK:K<=90000000000):
  ∃q r,ab P L 137 [v,w] (.av [q,r])/\WN q (a/b)/\WN r (a%b):=by
 have⟨x,IC,gx,nx,vx⟩:=hv;have⟨y,S3,gy,ny,vy⟩:=hw;have lx:x.length<=90000000000:=xi (po nx vx ha) hK;have ly:y.length<=90000000000:=xi (po ny vy hbK) hK;have ec:=aio h.aiz IC S3 gx gy nx ny (by lia) (by lia);subst vx;subst vy;by_cases hc:bv (2^64) x<bv (2^64) y
 .have eY:er (bv (2^64) x) (bv (2^64) y)= -1:=by unfold er;rw[yE hc]
  rw[eY] at ec;refine⟨.aj,v,?_,⟨[],zn,PW,rfl,by rw[xU hc];rfl⟩,⟨x,IC,gx,nx,by rw[yR hc]⟩⟩
  unfold ab;rw[aD h.X1];simp only[go_sem,ya,LV,IC.ah,S3.ah,ec,show (-1:Int)<0 by decide];exact V7 zn IC _
 .rcases (show y.length=0\/y.length=1\/2<=y.length by lia) with h0 | h1 | h2
  .rw [yD h0] at hb;simp[bv] at hb
  .obtain ⟨d,rfl⟩:∃d,y=[d]:=by
    cases y with
    | nil=>simp at h1
    | cons d r=>cases r with
     | nil=>exact⟨d,rfl⟩
     | cons e r=>simp at h1
   exact axp h IC S3 gx lx hb (Hf.1 gy) ec (by lia)
  .exact axq h IC S3 gx gy nx ny lx h2 ec (by lia)
end
def jQ(v:AV)(n:Int):Prop:=∃w l,v=.agg [.bool (decide (n<0)),w]/\bw w l/\dg l/\nz l/\dv l=n.natAbs
def jx{l:List Int}{k:Nat}(hd:dg l)(hn:nz l)(h:dv l<1000000000^k):l.length<=k:=by
 by_cases h0:l=[]
 .grind
 .have h1:=Ql hn hd h0;have h2:1000000000^(l.length-1)<1000000000^k:=xQ h1 h;have h3:=(uB (show 1<1000000000 by decide)).1 h2
  lia
def fk{id:Nat}{a b x y:AV}(h1:dL a=ydy)(h2:dL b=ydy)(p1:aV a=ydy)(p2:aV b=ydy):
  jr hp ct id 0 2 [a,b] (Gr (.cells ydy ydy ydy 2 [x,y]))=Gr (.av [],aR hp id (.cells ydy ydy ydy 2 [a,b]),ct):=by
 rw[Hs (by rfl) (by simp) (by simp[b9,h1,h2])];simp[aH,p1,p2,over]
def cm(neg:Bool)(m:Nat):Int:=if neg=ydy then -(m:Int) else m
def qG(h:Has P L 294 Dq)(cJ:Has P L 300 nk)(neg:Bool){l:List Int}(hv:bw v l)(hd:dg l)(hl:l.length<=20000000000):
  ∃r,ab P L 294 [.bool neg,v] r/\jQ r (cm neg (dv l)):=by
 have⟨w,e1,hw,kF⟩:=Dt cJ hv hl;have sW:=Br l;have D3:=GL l;have mS:=CK hd;have hc:(neg&&decide ((0:Int)<((eF l).length:Nat)))=decide (cm neg (dv l)<0):=by
  unfold cm
  cases neg with
  | false=>simp
  | true=>
   simp only[wI,xS];by_cases h0:eF l=[]
   .rw [h0] at sW ⊢;simp only[dv] at sW;simp[<-sW]
   .have h1:0<(eF l).length:=tx.2 h0;have h2:0<dv l:=by
     rw[<-sW];rcases xj (dv (eF l)) with h | h
     .exact absurd (Vp D3 mS h) h0
     .exact h
    rw[yN (by lia),yN (by lia)]
 refine⟨.agg [.bool (decide (cm neg (dv l)<0)),w],?_,w,eF l,rfl,hw,mS,D3,?_⟩
 .rw [<-hc];unfold ab at e1 ⊢;rw[aD h]
  cases neg with
  | false=>
   simp only[go_sem,ya,yb,yq,Dq,aQ,hv.ah,e1,hw.pu,hw.shut,hw.one,hw.cells,fk];rcases hw with ⟨rfl,_⟩ | ⟨e,rfl⟩<;>rfl
  | true=>
   simp only[go_sem,ya,yb,yq,Dq,aQ,hv.ah,e1,hw.len,hw.pu,hw.shut,hw.one,hw.cells,fk];rcases hw with ⟨rfl,_⟩ | ⟨e,rfl⟩<;>rfl
 .rw [sW];unfold cm;split<;>lia
def aiC(h:Has P L 298 Re)(jg:Has P L 294 Dq)(cJ:Has P L 300 nk){n:Int}(hK:K<=20000000000)(hv:jQ v n)(hn:n.natAbs<1000000000^K):∃r,ab P L 298 [v] r/\jQ r (-n):=by
 obtain⟨w,l,rfl,hw,hd,hz,sW⟩:=hv;have⟨r,e1,hr⟩:=qG jg cJ (!decide (n<0)) hw hd (xi (jx hd hz (by rw[sW];exact hn)) hK)
 have e:cm (!decide (n<0)) (dv l)= -n:=by
  rw[sW];unfold cm;by_cases h0:n<0
  .simp [h0];lia
  .simp [h0];lia
 rw[e] at hr;obtain⟨w2,l2,rfl,iD,jC,lL,BX⟩:=hr;refine⟨_,?_,w2,l2,rfl,iD,jC,lL,BX⟩;unfold ab at e1 ⊢;rw[aD h];simp only[go_sem,ya,yb,Re,aQ,hw.pu,hw.ah,hw.one,iD.pu,iD.one,aX,ye,cP,e1,fk,bh];rcases iD with ⟨rfl,_⟩ | ⟨e,rfl⟩<;>rfl
section
variable {w:AV}{a b z:Int}{k m:Nat}
def dK(s:Int)(w:AV)(z:Int):Prop:=
 (w=.aj/\s=z/\-9223372036854775808<=z/\z<9223372036854775808)\/
 (∃e l,w=.au e l.length (l.map uc)/\lo (2^64) l/\iW l/\bv (2^64) l=z.natAbs/\s=(if z<0 then -1 else 1)/\9223372036854775808<=z.natAbs)
def cz(v:AV)(z:Int):Prop:=∃s w,v=.agg [aa s,w]/\dK s w z
def Bd(k:Nat)(z:Int):Prop:=z.natAbs<2^k
def C4(k:Nat):2^k<=(2^64)^k:=Nat.pow_le_pow_left (by decide) k
def Bd.mono(h:Bd k z)(hk:k<=m):Bd m z:=yI h (y8 (by decide) hk)
def Bd.neg(h:Bd k z):Bd k (-z):=by unfold Bd at h ⊢;rwa[Int.natAbs_neg]
def Bd.add(ha:Bd k a)(hb:Bd m b):Bd (max k m+1) (a+b):=by
 have h1:Bd (max k m) a:=ha.mono (by lia);have h2:Bd (max k m) b:=hb.mono (by lia);unfold Bd at h1 h2 ⊢
 grind
def Bd.mul(ha:Bd k a)(hb:Bd m b):Bd (k+m) (a*b):=by
 unfold Bd at*
 rw[Int.natAbs_mul,xF];exact Nat.mul_lt_mul'' ha hb
def Bd.le(hb:Bd k b)(h:a.natAbs<=b.natAbs):Bd k a:=xQ h hb
def WN.pos(h:WN v m)(h0:0<m):∃e l,v=.au e l.length (l.map uc)/\l≠[]/\lo (2^64) l/\iW l/\bv (2^64) l=m:=by
 have⟨l,hv,g,n,hb⟩:=h;have hl:l≠[]:=fun e=>by subst e;simp[bv] at hb;lia
 rcases hv with ⟨_,e⟩ | ⟨e,rfl⟩
 .simp_all
 .exact ⟨e,l,by simp,hl,g,n,hb⟩
def WN.aI(h:WN v m):∃l,bR v l/\lo (2^64) l/\iW l/\bv (2^64) l=m:=h
def qd(e:Bool)(n:Nat)(cs:List AV):lI .sl (.au e n cs) .aj=Gr ydz:=rfl
def iM:lI .sl .aj .aj=Gr ydy:=rfl
def PC(hp:Hp)(ct id:Nat)(a:Int)(e:Bool)(n:Nat)(cs:List AV)(x y:AV):jr hp ct id 0 2 [.int .i64 a,.au e n cs] (Gr (.cells ydy ydy ydy 2 [x,y]))=Gr (.av [],aR hp id (.cells ydy ydy ydy 2 [.int .i64 a,.au e n cs]),ct):=fk rfl rfl rfl rfl
def At{a x y:AV}{r:List (Nat×Nat×X)}(h:dL a=ydy):lD tm [x,y] 0 1 [a] r=fill tm [a,y] r:=aeU (by simp) h
def dK.rI(h1: -9223372036854775808<=z)(h2:z<9223372036854775808):cz (.agg [aa z,.aj]) z:=⟨z,.aj,rfl,.inl ⟨rfl,rfl,h1,h2⟩⟩
def dK.bK{s:Int}(h:dK s w z):(s<0↔z<0)/\(s=0↔z=0)/\-9223372036854775808<=s/\s<9223372036854775808:=by
 rcases h with ⟨_,rfl,h1,h2⟩ | ⟨e,l,_,_,_,_,rfl,h1⟩
 .grind
 .grind
structure Nu(P:aF)(L:Lib):Prop extends Wd P L where
 aBO:Has P L 117 QS
 aBP:Has P L 142 QU
 X5:Has P L 136 LU
 Mz:Has P L 145 BS
 aBQ:Has P L 146 Xx
 X6:Has P L 147 LW
 aiD:Has P L 163 QY
 aBR:Has P L 118 Fq
 aiE:Has P L 119 c119
 aBS:Has P L 156 XA
 FJ:Has P L 100 oc
 X7:Has P L 164 od
 aBT:Has P L 148 Xy
 aBU:Has P L 130 Xw
def BY(h:Nu P L)(h1: -9223372036854775808<=z)(h2:z<9223372036854775808):ab P L 117 [aa z] (.agg [aa z,.aj])/\cz (.agg [aa z,.aj]) z:=⟨n117 h.aBO z,dK.rI h1 h2⟩
def X8(h:Nu P L){n:Int}(h1: -9223372036854775808<=n)(h2:n<9223372036854775808):ab P L 142 [aa n] (uc n.natAbs):=by
 unfold ab;rw[aD h.aBP];by_cases h0:n<0
 .have e:IntKind.wrap .u64 (IntKind.wrap .i64 (0-n))=(n.natAbs:Int):=by
   by_cases hm:n= -9223372036854775808
   .subst hm;rfl
   .rw [wrap64 (by lia) (by lia),Qr];lia
  simp only[go_sem,ya,QU,h0,afA,e]
 .have e:IntKind.wrap .u64 n=(n.natAbs:Int):=by rw[Qr];lia
  simp only[go_sem,ya,QU,h0,afA,e]
def AQ(h:Nu P L){s:Int}(hz:dK s w z):∃r,ab P L 136 [.agg [aa s,w]] (.av [.bool (decide (z<0)),r])/\WN (bH r) z.natAbs:=by
 rcases hz with ⟨rfl,rfl,h1,h2⟩ | ⟨e,l,rfl,g,n,hb,hs,h1⟩
 .by_cases h0:s=0
  .subst h0;refine⟨.aj,?_,[],zn,PW,rfl,rfl⟩;unfold ab;rw[aD h.X5];simp only[go_sem,ya,yb,LU,aQ,aX,ye,cP,iM,Lk,Int.reduceLT];rfl
  .have e1:=X8 h h1 h2;refine⟨.cR ydy 1 1 [uc s.natAbs],?_,[s.natAbs],oS ydy [s.natAbs],Hf.2 (by lia),Gy (by lia) [],C3 _⟩;unfold ab;rw[aD h.X5];simp only[go_sem,ya,yb,yq,yh,LU,aQ,aX,ye,cP,iM,Lk,h0,e1];rfl
 .have zT:decide (s<0)=decide (z<0):=by rw[hs];split<;>simp<;>lia
  refine⟨.au e l.length (l.map uc),?_,l,oS e l,g,n,hb⟩;unfold ab;rw[aD h.X5];simp only[go_sem,ya,yb,LU,aQ,aX,ye,cP,qd,Lk,zT];rfl
def acP(h:d<=9223372036854775807):IntKind.wrap .i64 (d:Int)=d:=wrapN (by lia)
def FK(h:Nu P L)(neg:Bool)(hw:WN w m)(hm:m<(2^64)^K)(hK:K<=90000000000):∃r,ab P L 145 [.bool neg,w] r/\cz r (cm neg m):=by
 have⟨l,hu,g,n,hb⟩:=hw;have sL:l.length<=90000000000:=xi (po n hb hm) hK;by_cases h0:l=[]
 .subst h0
  have:m=0:=by rw[<-hb];rfl
  subst this;have e:cm neg 0=0:=by unfold cm;cases neg<;>rfl
  rw[e];refine⟨.agg [aa 0,.aj],?_,dK.rI (by decide) (by decide)⟩;unfold ab;rw[aD h.Mz];simp only[go_sem,ya,yb,BS,aQ,hu.len,yM,show (((0:Nat):Nat):Int)=0 from rfl,Ay];rfl
 .have kT:0<l.length:=tx.2 h0;by_cases h1:l.length=1/\l.getD 0 0<=9223372036854775807
  .have ⟨h1,h2⟩:=h1;obtain⟨d,rfl⟩:∃d,l=[d]:=by
    cases l with
    | nil=>simp at h1
    | cons d r=>cases r with
     | nil=>exact⟨d,rfl⟩
     | cons e r=>simp at h1
   have h2:d<=9223372036854775807:=h2;rw[C3] at hb;subst hb;have ex:=hu.bj (i:=0) (by simp);rw[show ([d]:List Nat).getD 0 0=d from rfl] at ex;have hlen:∀hp,gF hp 1 w=Gr (.int .i64 1):=fun hp=>hu.len
   cases neg with
   | true=>
    refine⟨.agg [aa (0-(d:Int)),.aj],?_,?_⟩
    .unfold ab;rw[aD h.Mz]
     simp only[go_sem,ya,yb,yq,BS,aQ,hlen,yaG,ex,show (d:Int)<=9223372036854775807 by lia,PX,acP h2,wrap64 (n:=0-(d:Int)) (by lia) (by lia),Ay];rfl
    .have:cm ydy d=0-(d:Int):=by unfold cm;simp
     rw[this];exact dK.rI (by lia) (by lia)
   | false=>
    refine⟨.agg [aa (d:Int),.aj],?_,?_⟩
    .unfold ab;rw[aD h.Mz];simp only[go_sem,ya,yb,yq,BS,aQ,hlen,yaG,ex,show (d:Int)<=9223372036854775807 by lia,PX,acP h2,Ay];rfl
    .have:cm ydz d=(d:Int):=by unfold cm;simp
     rw[this];exact dK.rI (by lia) (by lia)
  .have sX:9223372036854775808<=m:=by
    rw[<-hb];by_cases h2:l.length=1
    .obtain ⟨d,rfl⟩:∃d,l=[d]:=by
      cases l with
      | nil=>simp at h2
      | cons d r=>cases r with
       | nil=>exact⟨d,rfl⟩
       | cons e r=>simp at h2
     have:¬d<=9223372036854775807:=fun hd=>h1 ⟨h2,hd⟩
     rw[C3];lia
    .have h3:=VZ (b:=2^64) (by decide) n h0;have h4:(2^64)^1<=(2^64)^(l.length-1):=y8 (by decide) (by lia);rw[Nat.pow_one] at h4
     lia
   have cU:∃e,w=.au e l.length (l.map uc):=by
    rcases hu with ⟨rfl,hh⟩ | ⟨e,rfl⟩
    .simp at hh;exact absurd hh h0
    .exact ⟨e,by simp⟩
   obtain⟨e,rfl⟩:=cU;have ex:=hu.bj (i:=0) kT;have first:(decide ((l.length:Int)=1)=ydy/\¬((l.getD 0 0:Nat):Int)<=9223372036854775807)\/decide ((l.length:Int)=1)=ydz:=by
    by_cases h2:l.length=1
    .left;refine⟨by simp;lia,fun hd=>h1 ⟨h2,by lia⟩⟩
    .right;simp;lia
   cases neg with
   | true=>
    refine⟨.agg [aa (-1),.au e l.length (l.map uc)],?_,-1,_,rfl,.inr ⟨e,l,rfl,g,n,by rw[hb];unfold cm;simp,by unfold cm;simp;lia,by unfold cm;simp;lia⟩⟩
    unfold ab;rw[aD h.Mz];rcases first with ⟨f1,f2⟩ | f1
    .simp only [go_sem,ya,yb,yq,BS,aQ,show ¬(l.length:Int)=0 by lia,f1,f2,ex,At,PC];rfl
    .simp only [go_sem,ya,yb,yq,BS,aQ,show ¬(l.length:Int)=0 by lia,f1,At,PC];rfl
   | false=>
    refine⟨.agg [aa 1,.au e l.length (l.map uc)],?_,1,_,rfl,.inr ⟨e,l,rfl,g,n,by rw[hb];unfold cm;simp,by unfold cm;simp,by unfold cm;simp;lia⟩⟩
    unfold ab;rw[aD h.Mz];rcases first with ⟨f1,f2⟩ | f1
    .simp only [go_sem,ya,yb,yq,BS,aQ,show ¬(l.length:Int)=0 by lia,f1,f2,ex,At,PC];rfl
    .simp only [go_sem,ya,yb,yq,BS,aQ,show ¬(l.length:Int)=0 by lia,f1,At,PC];rfl
end
section
variable {v w:AV}{a b s z:Int}{l:List Nat}{K:Nat}
def a8:VC->VC
 | .seq a _=>a
 | c=>c
def arl{y:Nat}(ha:a.natAbs=x)(hb:b.natAbs=y)(h:decide (a<0)=decide (b<0)):cm (decide (a<0)) (x+y)=a+b:=by
 unfold cm
 grind
def adS{m:Nat}(hm:m+b.natAbs=a.natAbs)(h:¬decide (a<0)=decide (b<0)):cm (decide (a<0)) m=a+b:=by
 unfold cm
 grind
def arm:cm (!decide (a<0)) a.natAbs= -a:=by
 unfold cm
 grind
def adT:cm (decide (a<0) !=decide (b<0)) (a.natAbs*b.natAbs)=a*b:=by
 unfold cm
 grind
def n7(h:bR w l)(hp:Hp):result hp (.agg [aa s,w])=Gr (.agg [aa s,w]):=by
 rcases h with ⟨rfl,_⟩ | ⟨e,rfl⟩<;>rfl
def dC(h:bR w l)(hp:Hp)(ct id:Nat)(x y:AV):jr hp ct id 0 2 [.int .i64 s,w] (Gr (.cells ydy ydy ydy 2 [x,y]))=Gr (.av [],aR hp id (.cells ydy ydy ydy 2 [.int .i64 s,w]),ct):=fk rfl h.one rfl h.pu
def dK.aI(h:dK s w z):∃l,bR w l:=by
 rcases h with ⟨rfl,_⟩ | ⟨e,l,rfl,_⟩
 .exact ⟨[],zn⟩
 .exact ⟨l,oS e l⟩
def ahk(hp:Hp)(sz:Nat)(ag:Bool):AV->Option AV
 | .ptr id o=>SP sz ag o (ak hp id)
 | .bA cs=>jj sz ag cs
 | _=>Gs
def dw(tm:Env)(hp:Hp)(ct base i sz:Nat)(ag:Bool):results1 ⟨tm,hp,ct,base⟩ (.cell i sz ag)=ahk hp sz ag (ai tm i):=by
 rfl
def dB(hp:Hp)(sz:Nat)(ag:Bool)(id o:Nat):ahk hp sz ag (.ptr id o)=SP sz ag o (ak hp id):=rfl
def HT(h:Nu P L)(hv:cz v z):ab P L 146 [v] (aa (bK z)):=by
 obtain⟨s,w,rfl,hn⟩:=hv;have⟨l,hu⟩:=hn.aI;have e:bK s=bK z:=by
  have⟨h1,h2,_⟩:=hn.bK;unfold bK;by_cases h0:z<0
  .rw [yE h0,yE (h1.2 h0)]
  .by_cases h3:z=0
   .rw [yp (fun h=>h0 (h1.1 h)),yE (h2.2 h3),yp h0,yE h3]
   .rw [yp (fun h=>h0 (h1.1 h)),yp (fun h=>h3 (h2.1 h)),yp h0,yp h3]
 unfold ab;rw[aD h.aBQ];simp only[go_sem,ya,yb,Xx,aQ,hu.pu,hu.one,aX,ye,afz,oT,adK,rG,axa,e]
def HU(h:Nu P L)(hv:cz v z)(hz:Bd K z)(hK:K<=90000000000):∃r,ab P L 147 [v] r/\cz r (-z):=by
 obtain⟨s,w,rfl,hn⟩:=hv;have⟨p,e1,hp⟩:=AQ h hn;have⟨lp,jl,_⟩:=hp.aI;have⟨r,e2,hr⟩:=FK h (!decide (z<0)) hp (yI hz (C4 K)) hK;rw[arm] at hr;have bQ:=hr;obtain⟨s',w',rfl,dZ⟩:=hr;have⟨l',kG⟩:=dZ.aI;rcases hn with ⟨rfl,rfl,h1,h2⟩ | ⟨e,l0,rfl,g,n,hb,hs,h1⟩
 .by_cases h0:s= -9223372036854775808
  .refine ⟨_,?_,bQ⟩;unfold ab;rw[aD h.X6];simp only[go_sem,ya,yb,LW,aQ,aX,ye,cP,iM,eI,h0];rw[h0] at e1 e2;simp only[go_sem,ya,bZ,bP,e1,e2,jl.ah,bh,dw,dB,bZ,yg,n7 kG,dC kG]
  .refine ⟨.agg [aa (-s),.aj],?_,dK.rI (by lia) (by lia)⟩;unfold ab;rw[aD h.X6]
   simp only[go_sem,ya,yb,LW,aQ,aX,ye,cP,iM,eI,h0,wrap64 (n:=0-s) (by lia) (by lia),Ay,At];rw[Int.zero_sub];rfl
 .refine ⟨_,?_,bQ⟩;unfold ab;rw[aD h.X6];simp only[go_sem,ya,yb,LW,aQ,aX,ye,cP,qd,eI,bZ,bP,e1,e2,jl.ah,bh,dw,dB,bZ,yg,n7 kG,dC kG]
def X9(h:Nu P L)(hv:cz v z)(hz:Bd K z)(hK:K<=90000000000):∃r,ab P L 163 [v] r/\cz r (z.natAbs:Nat):=by
 have cl:=hv;obtain⟨s,w,rfl,hn⟩:=hv;have⟨l,hu⟩:=hn.aI;have nE:=hn.bK.1;by_cases h0:z<0
 .have ⟨r,e1,hr⟩:=HU h cl hz hK;rw[show -z=(z.natAbs:Int) by lia] at hr;have bQ:=hr;obtain⟨s',w',rfl,dZ⟩:=hr;have⟨l',kG⟩:=dZ.aI;refine⟨_,?_,bQ⟩;unfold ab;rw[aD h.aiD];simp only[go_sem,ya,yb,QY,aQ,hu.pu,hu.ah,hu.one,aX,ye,nE.2 h0,bZ,bP,e1,bh,dw,dB,bZ,yg,n7 kG,dC kG]
 .rw [show ((z.natAbs:Nat):Int)=z by lia];refine⟨_,?_,cl⟩;unfold ab;rw[aD h.aiD];simp only[go_sem,ya,yb,QY,aQ,hu.pu,hu.one,aX,ye,show ¬s<0 from fun h=>h0 (nE.1 h),bZ,dw,dB,bZ,yg,n7 hu,dC hu]
def axr(h:Nu P L){s1 s2:Int}{w1 w2:AV}(ha:dK s1 w1 a)(hb:dK s2 w2 b)(ka:Bd K a)(kb:Bd K b)(hK:K<=40000000000):
  ∃r,cz r (a+b)/\∀tm,ai tm 2=.ptr 0 0->ai tm 3=.ptr 1 0->ai tm 4=.ptr 2 0->et [.cell 4 2 ydy] (D P L (aA (aA c119.body)) ⟨tm,[(2,.cells ydy ydy ydy 2 [.int .i64 0,.aj]),(1,.cells ydy ydy ydy 2 [aa s2,w2]),(0,.cells ydy ydy ydy 2 [aa s1,w1])],3,0⟩)=Gr r:=by
 have⟨l1,u1⟩:=ha.aI;have⟨l2,u2⟩:=hb.aI;have⟨p,e1,hp⟩:=AQ h ha;have⟨q,e2,hq⟩:=AQ h hb;have⟨lp,jl,gp,np,vp⟩:=hp.aI;have⟨lq,ri,gq,nq,vq⟩:=hq.aI;have D4:=yI ka (C4 K);have D5:=yI kb (C4 K);have llp:lp.length<=40000000000:=xi (po np vp D4) hK;have llq:lq.length<=40000000000:=xi (po nq vq D5) hK;by_cases hs:decide (a<0)=decide (b<0)
 .have ⟨o,dT,e3,ho,pL,no,vo⟩:=aBw h.aBG h.og h.iO jl ri gp gq (by lia) (by lia);have⟨r,e4,hr⟩:=FK h (decide (a<0)) ⟨dT,ho,pL,no,vo⟩ (K:=K+1) (by rw[vp,vq,xp];lia) (by lia)
  rw[arl vp.symm vq.symm hs] at hr;have bQ:=hr;obtain⟨s',w',rfl,dZ⟩:=hr;have⟨l',kG⟩:=dZ.aI;refine⟨_,bQ,fun tm t2 t3 t4=>?_⟩;simp only[go_sem,ya,c119,aA,t2,t3,bZ,bP,u1.ah,u2.ah,e1,e2,jl.ah,ri.ah,eI,r9,hs,yac];rw[hs] at e4;simp only[go_sem,ya,t4,e3,ho.ah,ho.shut,e4,bh,dw,dB,bZ,yg,n7 kG,dC kG]
 .have D6:(decide (a<0)==decide (b<0))=ydz:=by simpa using hs
  have e3:=aio h.aiz jl ri gp gq np nq (by lia) (by lia);rw[vp,vq] at e3;by_cases hc:b.natAbs<=a.natAbs
  .have ⟨o,dT,e4,ho,pL,no,vo⟩:=aip h.aiA h.og h.AO jl ri gp gq nq (by lia) (by rw[vp,vq];exact hc)
   rw[vp,vq] at vo;have⟨r,e5,hr⟩:=FK h (decide (a<0)) ⟨dT,ho,pL,no,rfl⟩ (K:=K) (by lia) (by lia);rw[adS vo hs] at hr;have bQ:=hr;obtain⟨s',w',rfl,dZ⟩:=hr;have⟨l',kG⟩:=dZ.aI;have eY:(0:Int)<=er a.natAbs b.natAbs:=by unfold er;rw[yp (by lia)];split<;>decide
   refine⟨_,bQ,fun tm t2 t3 t4=>?_⟩;simp only[go_sem,ya,c119,aA,t2,t3,t4,bZ,bP,u1.ah,u2.ah,e1,e2,jl.ah,ri.ah,eI,r9,D6,e3,eY,e4,ho.ah,ho.shut,e5,bh,dw,dB,bZ,yg,n7 kG,dC kG]
  .have ⟨o,dT,e4,ho,pL,no,vo⟩:=aip h.aiA h.og h.AO ri jl gq gp np (by lia) (by rw[vp,vq];lia)
   rw[vp,vq] at vo;have⟨r,e5,hr⟩:=FK h (decide (b<0)) ⟨dT,ho,pL,no,rfl⟩ (K:=K) (by lia) (by lia);rw[adS vo (fun e=>hs e.symm),Int.add_comm] at hr;have bQ:=hr;obtain⟨s',w',rfl,dZ⟩:=hr;have⟨l',kG⟩:=dZ.aI;have eY:¬(0:Int)<=er a.natAbs b.natAbs:=by unfold er;rw[yE (by lia)];decide
   refine⟨_,bQ,fun tm t2 t3 t4=>?_⟩;simp only[go_sem,ya,c119,aA,t2,t3,t4,bZ,bP,u1.ah,u2.ah,e1,e2,jl.ah,ri.ah,eI,r9,D6,e3,eY,e4,ho.ah,ho.shut,e5,bh,dw,dB,bZ,yg,n7 kG,dC kG]
def MA(h:Nu P L)(hv:cz v a)(hw:cz w b)(ka:Bd K a)(kb:Bd K b)(hK:K<=40000000000):∃r,ab P L 119 [v,w] r/\cz r (a+b):=by
 obtain⟨s1,w1,rfl,h1⟩:=hv;obtain⟨s2,w2,rfl,h2⟩:=hw;have⟨l2,u2⟩:=h2.aI;have⟨r,hr,tail⟩:=axr h h1 h2 ka kb hK;have fin:∀tm,ai tm 2=.ptr 0 0->ai tm 3=.ptr 1 0->ai tm 4=.ptr 2 0->
   D P L (.seq (a8 c119.body) (a8 (aA c119.body))) ⟨[(0,.agg [aa s1,w1]),(1,.agg [aa s2,w2])],[],0,0⟩=Gr (.normal,⟨tm,[(2,.cells ydy ydy ydy 2 [.int .i64 0,.aj]),(1,.cells ydy ydy ydy 2 [aa s2,w2]),(0,.cells ydy ydy ydy 2 [aa s1,w1])],3,0⟩)->ab P L 119 [.agg [aa s1,w1],.agg [aa s2,w2]] r:=fun tm t2 t3 t4 e=>by
  unfold ab;rw[aD h.aiE];show et [.cell 4 2 ydy] (D P L (.seq (a8 c119.body) (.seq (a8 (aA c119.body)) (aA (aA c119.body)))) ⟨[(0,.agg [aa s1,w1]),(1,.agg [aa s2,w2])],[],0,0⟩)=_
  have e2:D P L (.seq (a8 c119.body) (.seq (a8 (aA c119.body)) (aA (aA c119.body)))) ⟨[(0,.agg [aa s1,w1]),(1,.agg [aa s2,w2])],[],0,0⟩=r7 P L (D P L (.seq (a8 c119.body) (a8 (aA c119.body))) ⟨[(0,.agg [aa s1,w1]),(1,.agg [aa s2,w2])],[],0,0⟩) (aA (aA c119.body)):=by
   rw[nZ,nZ]
   cases D P L (a8 c119.body) ⟨[(0,.agg [aa s1,w1]),(1,.agg [aa s2,w2])],[],0,0⟩ with
   | none=>rfl
   | some q=>
    have⟨ex,st⟩:=q
    cases ex with
    | normal=>rw[ju,ju,nZ]
    | ret=>rfl
    | exit id=>rfl
  rw[e2,e,ju];exact tail tm t2 t3 t4
 rcases h1 with ⟨rfl,rfl,a1,a2⟩ | ⟨e,l,rfl,ga,na,va,sa,a1⟩
 .rcases h2 with ⟨rfl,rfl,b1,b2⟩ | ⟨e,l,rfl,gb,nb,vb,sb,b1⟩
  .by_cases dl: -9223372036854775808<=s1+s2/\s1+s2<9223372036854775808
   .refine ⟨.agg [aa (s1+s2),.aj],?_,dK.rI dl.1 dl.2⟩;have e:decide (s1<s1+s2)=decide (0<s2):=by
     by_cases h:0<s2
     .simp only [h,yv];exact yN (by lia)
     .simp only [h,yu];exact yC (by lia)
    unfold ab;rw[aD h.aiE]
    simp only[go_sem,ya,yb,c119,aQ,Ay,iM,eI,r9,aX,ye,cP,wrap64 (n:=s1+s2) dl.1 dl.2,e,yac,At];rfl
   .have e:(decide (s1<IntKind.wrap .i64 (s1+s2))==decide (0<s2))=ydz:=by
     have hw:(9223372036854775808<=s1+s2/\IntKind.wrap .i64 (s1+s2)=s1+s2-2^64)\/(s1+s2< -9223372036854775808/\IntKind.wrap .i64 (s1+s2)=s1+s2+2^64):=by
      simp only[IntKind.wrap,IntKind.bits,IntKind.signed,wI]
      split<;>rename_i h<;>simp at h<;>lia
     by_cases h0:0<s2
     .rw [yN h0,yC (by lia)];rfl
     .rw [yC h0,yN (by lia)];rfl
    refine⟨r,fin _ ?_ ?_ ?_ (by simp only[go_sem,ya,yb,a8,aA,c119,aQ,iM,eI,r9,aX,ye,cP,e]<;>rfl),hr⟩<;>simp only[go_sem,ya]
  .refine ⟨r,fin _ ?_ ?_ ?_ (by simp only[go_sem,ya,yb,a8,aA,c119,aQ,iM,qd,eI,aX,ye,cP]<;>rfl),hr⟩<;>simp only[go_sem,ya]
 .refine ⟨r,fin _ ?_ ?_ ?_ (by simp only[go_sem,ya,yb,a8,aA,c119,aQ,u2.pu,u2.one,qd,eI,aX,ye,cP]<;>rfl),hr⟩<;>simp only[go_sem,ya]
end
end VE
