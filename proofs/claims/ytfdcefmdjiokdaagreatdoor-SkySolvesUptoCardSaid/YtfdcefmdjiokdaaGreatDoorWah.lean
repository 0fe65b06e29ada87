import Derived.ChangeSlices
import Derived.ChangeReads
import Derived.ChangeSame
import Derived.OpenShut
import Derived.Lib.AtoiErrMem
import Derived.Attr
import Derived.Test.YtfdcefmdjiokdaaGreatDoorWag
set_option linter.all false
set_option maxRecDepth 100000
open Array renaming getElem?_eq_some_iff->xT
open BitVec renaming ofInt->wC,ofInt_natCast->tv,ofNat->tu,toNat_ofNat->ui
open Bool renaming and_eq_true->yj,and_self->xt,and_true->vV,false_and->xI,false_eq_true->yH,false_or->vS,true_and->xQ,true_or->yar
open Go renaming Addr->uM,ChangeSpec->yct,DataW->xW,Field->tE,IntKind->xh,MemPlace->wY,Program->xM,TypeId->yL,Value->yr,World->yt
open Int renaming ediv_emod_unique->tY,emod_emod->yco,emod_lt_of_pos->wU,gcd->vE,gcd_dvd_left->yab,gcd_dvd_right->tV,lt_tmod_of_pos->ybo,mul_ediv_cancel'->yaV,natAbs_ediv_of_dvd->uY,natCast_mul->xS,reduceEq->uf,tdiv_eq_ediv_of_dvd->yaH,tdiv_eq_ediv_of_nonneg->xR,tmod_eq_emod_of_nonneg->xF,tmod_lt_of_pos->ybn,toNat_natCast->xx
open List renaming all_cons->uk,any_cons->ybe,append_assoc->xu,append_nil->wh,cons_append->xC,drop->xK,drop_drop->vP,drop_eq_getElem_cons->yP,drop_eq_nil_of_le->yY,drop_left'->tp,drop_zero->yh,eq_nil_of_length_eq_zero->yu,filter_cons->ybC,filter_eq_nil_iff->yaI,flatMap_cons->ybm,getD_cons_succ->yaU,getD_eq_getElem?_getD->yW,getElem?_cons_zero->uo,getElem?_eq_getElem->xz,length->tK,length_append->yE,length_cons->yB,length_drop->xZ,length_map->yg,length_nil->yI,length_reverse->yaW,length_singleton->uK,length_take->yJ,mapM_cons->uP,mapM_nil->yaA,map_append->yX,map_cons->yS,map_take->yax,mem_append->wm,mem_append_left->tG,mem_append_right->uv,mem_flatMap->tf,mem_singleton->wD,nil_append->xy,range->wO,range'->wK,range'_succ->vW,range'_zero->ybz,range_eq_range'->yaP,replicate->ye,replicate_succ->wG,reverse_cons->ybp,set_append_right->yaN,set_cons_succ->ybd,set_eq_take_append_cons_drop->uC,take_append_drop->xX,take_length->xH,take_of_length_le->yq,take_succ_cons->wS,take_succ_eq_append_getElem->yk
open Nat renaming add_comm->ybJ,add_mul->xU,add_sub_cancel->uR,add_zero->xg,beq->yG,beq_refl->vd,ble->yO,ble_eq_true_of_le->yC,blt->yU,div_add_mod->wF,div_eq_of_lt->wZ,div_le_self->vK,div_lt_iff_lt_mul->wE,eq_of_beq_eq_true->yz,eq_zero_or_pos->xE,gcd->wX,gcd_comm->tN,gcd_rec->ycC,le_div_iff_mul_le->tC,le_max_left->uL,le_max_right->uF,le_of_ble_eq_true->yF,le_of_lt->uh,le_refl->ym,le_trans->xB,lt_of_le_of_lt->wM,lt_of_lt_of_le->yT,lt_of_mul_lt_mul_right->uS,min_eq_left->xq,mod_add_div->uy,mod_eq_of_lt->y8,mod_lt->xV,mul_add->xO,mul_add_div->yam,mul_add_mod->yan,mul_assoc->xD,mul_comm->xY,mul_div_mul_right->tD,mul_le_mul->xo,mul_le_mul_left->yZ,mul_le_mul_right->yR,mul_lt_mul_of_pos_right->vl,mul_mod_mul_right->uD,mul_one->yf,mul_pos->ux,mul_zero->xP,not_lt_zero->vh,one_mul->ybX,or_comm->ycD,pos_of_ne_zero->ybq,pow_add->wP,pow_le_pow_right->y9,pow_lt_pow_iff_right->tH,pow_pos->ybL,pow_succ->xJ,pow_zero->ycu,reduceAdd->yb,reduceEqDiff->ya,reduceLT->yA,reduceLeDiff->yi,reduceMul->yV,strongRecOn->vX,sub_zero->ycs,two_pow_pos->vm,zero_add->yd,zero_le->uO,zero_mul->yaM
open Option renaming bind_eq_bind->ue,bind_some->wR,map_some->vn,pure_def->vA
open Option.some renaming injEq->yc
open Prod.mk renaming injEq->yD
open Option renaming some->Ix,none->Iy
open Bool renaming true->ycO,false->ycP
namespace VE
open Go (IntKind)
variable {P:aJ}{L:Lib}
variable{v:AV}{again apart ex fresh handsOn:Bool}{tm:Env}{Q:Ex->St->Prop}{hp old:Hp}{hi:Int}{az:List AV}{live post pre vs:List Nat}{A B K U0 V Y a base bo ct d la p q0 q1 sz u0 u1 u2 x:Nat}{I:Nat->St->Prop}
section
open Go
section
variable (P:xM)
def IF(self:yL->Bool):List tE->Nat->Nat->Bool
 | [],o,n=>yG o n
 | f::r,o,n=>yG f.offset o&&(self f.type&&IF self r (o+P.cellsOf f.type) n)
def flat:Nat->yL->Bool
 | 0,_=>ycP
 | n+1,t=>
  match P.underlying t with
  | some .bool | some (.int _) | some (.float _) | some .string=>yG (P.cellsOf t) 1
  | some (.slice e)=>yG (P.cellsOf t) 1&&(yU 0 (P.cellsOf e)&&flat n e)
  | some (.struct fs)=>IF P (fun u=>flat n u) fs.toList 0 (P.cellsOf t)
  | some (.array k e)=>yG (P.cellsOf t) (k*P.cellsOf e)&&flat n e
  | _=>ycP
def cI{H:Type}:Nat->yL->xW H->List AV
 | 0,_,_=>[]
 | n+1,t,d=>
  match P.underlying t,d with
  | some .bool,.lit (.bool b)=>[.bool b]
  | some (.int k),.lit (.int _ m)=>[.int k m]
  | some (.float k),.lit (.float _ b)=>[.dP k b]
  | some .string,.lit (.string s)=>[.str (s.map UInt8.toNat)]
  | some (.slice _),.nil=>[.ae]
  | some (.slice e),.slice ma spare=>[.aF spare.isEmpty ma.length (ma.flatMap fun x=>cI n e x)]
  | some (.struct fs),.agg parts=>(fs.toList.zip parts).flatMap fun x=>cI n x.1.type x.2
  | some (.array _ e),.agg parts=>parts.flatMap fun x=>cI n e x
  | _,_=>[]
end
section
variable {ai:Nat->Nat}{m:Mp}{S:Nat->Prop}{w:yt}
def aga:∀{a b:List AV} {jj o:Nat},cf ai m S w a jj o->cf ai m S w b jj (o+a.length)->cf ai m S w (a++b) jj o
 | [],b,jj,o,_,h=>by simpa using h
 | x::a,b,jj,o,h1,h2=>by
  exact⟨h1.1,aga h1.2 (by rw[yB] at h2;rw[show o+1+a.length=o+(a.length+1) by lia];exact h2)⟩
def Ry:∀{a b:List AV},aD a=ycO->aD b=ycO->aD (a++b)=ycO
 | [],_,_,h=>h
 | x::a,b,h1,h2=>by
  simp only[aD,xC,yj] at h1 ⊢;exact⟨h1.1,Ry h1.2 h2⟩
def agb:∀{a:List AV} {us:List yr},aE ai m S w a us->a.length=us.length
 | [],us,h=>by simp only[aE] at h;subst h;rfl
 | x::a,us,h=>by
  obtain⟨u,r,rfl,_,h2⟩:=h;simp[agb h2]
end
section
variable {H:Type}{enc:yL×yr->H}{P:xM}{w:yt}{held:Bool}{ai:Nat->Nat}{m:Mp}{S:Nat->Prop}
def aio{a:uM}{i:Nat}{u:yr}(h:w.cell? (a.add i)=Ix u):w.cell? ⟨a.block,a.off+i,Iy⟩=Ix u/\(i=0->a.spot=Iy):=by
 by_cases hi:i=0
 .subst hi;have e:a.add 0=a:=by simp[Addr.add]
  rw[e] at h;have hs:a.spot=Iy:=by
   cases hq:a.spot with
   | none=>rfl
   | some k=>
    unfold World.cell? at h
    split at h
    .simp [hq] at h
    all_goals simp_all
  have⟨b,o,sp⟩:=a;simp only at hs;subst hs;exact⟨by simpa using h,fun _=>rfl⟩
 .have e:a.add i=⟨a.block,a.off+i,Iy⟩:=by simp[Addr.add,hi]
  rw[e] at h;exact⟨h,fun h=>(hi h).elim⟩
def arS(a:uM)(i:Nat):(a.add i).block=a.block:=by unfold Addr.add;split<;>rfl
def awd(a:uM)(i:Nat):(a.add i).off=a.off+i:=by unfold Addr.add;split<;>simp_all
def RI{α β:Type}{f:α->Option β}:∀{l:List α} {r:List β},l.mapM f=Ix r->r.length=l.length
 | [],r,h=>by simp only[yaA,vA,yc] at h;subst h;rfl
 | x::l,r,h=>by
  rw[uP] at h
  cases h1:f x with
  | none=>simp[h1] at h
  | some y=>
   cases h2:l.mapM f with
   | none=>simp[h1,h2] at h
   | some ys=>
    simp only[h1,h2,wR,ue,vA,yc] at h;subst h;simp[RI h2]
def atV{c:AV}{l:List AV}{b o:Nat}(h:cf ai m S w (c::l) b o):b<w.heap.size:=by
 have⟨⟨u,h1,_⟩,_⟩:=h;unfold World.cell? at h1
 cases hq:w.heap[b]? with
 | none=>simp[hq] at h1
 | some o=>exact (xT.1 hq).1
def XQ{e:yL}{bA sz:Nat}{f:xW H->List AV}{a:uM}(fL:0<sz)(IH:∀(cs:List yr) (d:xW H) (ps:List wY),DataW.trod enc P w 0 (fun _=>ycO) held bA e cs=Ix (d,ps)->aE ai m S w (f d) cs/\aD (f d)=ycO/\cs.length=sz):
  ∀(k j:Nat) (xs:List (xW H×List wY)),(wK j k).mapM (fun i=>(w.cells? 0 (a.add (i*sz)) sz).bind (DataW.trod enc P w 0 (fun _=>ycO) held bA e))=Ix xs->
   cf ai m S w ((xs.map (·.1)).flatMap f) a.block (a.off+j*sz)/\aD ((xs.map (·.1)).flatMap f)=ycO/\((xs.map (·.1)).flatMap f).length=k*sz/\xs.length=k/\(0<k->a.spot=Iy\/0<j)
 | 0,j,xs,h=>by
  simp only[ybz,yaA,vA,yc] at h;subst h;simp[cf,aD]
 | k+1,j,xs,h=>by
  rw[vW,uP] at h
  cases h1:(w.cells? 0 (a.add (j*sz)) sz) with
  | none=>simp[h1] at h
  | some us=>
   cases h2:DataW.trod enc P w 0 (fun _=>ycO) held bA e us with
   | none=>simp[h1,h2] at h
   | some x=>
    cases h3:(wK (j+1) k).mapM (fun i=>(w.cells? 0 (a.add (i*sz)) sz).bind (DataW.trod enc P w 0 (fun _=>ycO) held bA e)) with
    | none=>simp[h1,h2,h3] at h
    | some ys=>
     simp only[h1,h2,h3,wR,ue,vA,yc] at h;subst h;have⟨d,ps⟩:=x;have⟨g1,g2,g3⟩:=IH us d ps h2;have⟨k1,k2,k3,k4,_⟩:=XQ fL IH k (j+1) ys h3;have⟨_,c2,c3⟩:=World.cells?_some h1;have hl:(f d).length=sz:=by rw[agb g1,g3]
     have hc:∀(i:Nat) (u:yr),us[i]? =Ix u->w.cell? ⟨a.block,a.off+j*sz+i,Iy⟩=Ix u:=by
      intro i u hi;have KK:i<sz:=by grind
      have h:=c3 i KK;rw[hi] at h
      have:=(aio h).1
      rwa[arS,awd] at this
     refine⟨?_,?_,?_,by simp[k4],?_⟩
     .simp only [yS,ybm];refine aga (IR _ us _ g1 hc) ?_
      grind
     .simp only [yS,ybm];exact Ry g2 k2
     .grind
     .intro _;rcases xE j with hj | hj
      .left
       have h:=c3 0 fL;have hu:us[0]? =Ix us[0]:=by simp_all
       rw[hu] at h
       have:=(aio h).2 rfl
       subst hj;simpa[Addr.add] using this
      .grind
def afh{bA N:Nat}{n:Nat}{cs:List yr}(hN:cs.length=N)(IH:∀(t:yL) (cs:List yr) (d:xW H) (ps:List wY),flat P n t=ycO->DataW.trod enc P w 0 (fun _=>ycO) held bA t cs=Ix (d,ps)->aE ai m S w (cI P n t d) cs/\aD (cI P n t d)=ycO/\cs.length=P.cellsOf t):
  ∀(r:List tE) (o:Nat) (xs:List (xW H×List wY)),IF P (fun u=>flat P n u) r o N=ycO->r.mapM (fun f=>DataW.trod enc P w 0 (fun _=>ycO) held bA f.type ((cs.drop f.offset).take (P.cellsOf f.type)))=Ix xs->
   aE ai m S w ((r.zip (xs.map (·.1))).flatMap fun x=>cI P n x.1.type x.2) (cs.drop o)/\aD ((r.zip (xs.map (·.1))).flatMap fun x=>cI P n x.1.type x.2)=ycO
 | [],o,xs,hf,h=>by
  have:=yz hf
  rw[yY (by lia)];simp[aE,aD]
 | f::r,o,xs,hf,h=>by
  simp only[IF,yj] at hf;have⟨e1,e2,e3⟩:=hf;have e1:=yz e1;rw[uP] at h
  cases h2:DataW.trod enc P w 0 (fun _=>ycO) held bA f.type ((cs.drop f.offset).take (P.cellsOf f.type)) with
  | none=>simp[h2] at h
  | some x=>
   cases h3:r.mapM (fun f=>DataW.trod enc P w 0 (fun _=>ycO) held bA f.type ((cs.drop f.offset).take (P.cellsOf f.type))) with
   | none=>simp[h2,h3] at h
   | some ys=>
    simp only[h2,h3,wR,ue,vA,yc] at h;subst h;have⟨d,ps⟩:=x;have⟨g1,g2,g3⟩:=IH f.type _ d ps e2 h2;have⟨k1,k2⟩:=afh hN IH r _ ys e3 h3;rw[e1] at g1;have e:cs.drop o=(cs.drop o).take (P.cellsOf f.type)++cs.drop (o+P.cellsOf f.type):=by rw[<-vP];exact (xX _ _).symm
    rw[e];exact⟨pL g1 k1,Ry g2 k2⟩
def aip{bA sz:Nat}{e:yL}{f:xW H->List AV}{cs:List yr}(IH:∀(cs:List yr) (d:xW H) (ps:List wY),DataW.trod enc P w 0 (fun _=>ycO) held bA e cs=Ix (d,ps)->aE ai m S w (f d) cs/\aD (f d)=ycO/\cs.length=sz):
  ∀(k j:Nat) (xs:List (xW H×List wY)),(wK j k).mapM (fun i=>DataW.trod enc P w 0 (fun _=>ycO) held bA e ((cs.drop (i*sz)).take sz))=Ix xs->cs.length=(j+k)*sz->
   aE ai m S w ((xs.map (·.1)).flatMap f) (cs.drop (j*sz))/\aD ((xs.map (·.1)).flatMap f)=ycO
 | 0,j,xs,h,hl=>by
  simp only[ybz,yaA,vA,yc] at h;subst h;rw[yY (by rw[hl];simp)]
  simp[aE,aD]
 | k+1,j,xs,h,hl=>by
  rw[vW,uP] at h
  cases h2:DataW.trod enc P w 0 (fun _=>ycO) held bA e ((cs.drop (j*sz)).take sz) with
  | none=>simp[h2] at h
  | some x=>
   cases h3:(wK (j+1) k).mapM (fun i=>DataW.trod enc P w 0 (fun _=>ycO) held bA e ((cs.drop (i*sz)).take sz)) with
   | none=>simp[h2,h3] at h
   | some ys=>
    simp only[h2,h3,wR,ue,vA,yc] at h;subst h;have⟨d,ps⟩:=x;have⟨g1,g2,g3⟩:=IH _ d ps h2;have⟨k1,k2⟩:=aip IH k (j+1) ys h3 (by rw[hl];congr 1;lia)
    have e:cs.drop (j*sz)=(cs.drop (j*sz)).take sz++cs.drop ((j+1)*sz):=by rw[xU,ybX,<-vP];exact (xX _ _).symm
    rw[e];exact⟨pL g1 k1,Ry g2 k2⟩
def ag6(hS:∀b,b<w.heap.size->S b):∀(n bA:Nat) (t:yL) (cs:List yr) (d:xW H) (ps:List wY),flat P n t=ycO->DataW.trod enc P w 0 (fun _=>ycO) held bA t cs=Ix (d,ps)->
  aE ai m S w (cI P n t d) cs/\aD (cI P n t d)=ycO/\cs.length=P.cellsOf t
 | 0,bA,t,cs,d,ps,hf,h=>by simp[flat] at hf
 | n+1,0,t,cs,d,ps,hf,h=>by simp[DataW.trod] at h
 | n+1,bA+1,t,cs,d,ps,hf,h=>by
  have IH:=ag6 hS n bA;unfold DataW.trod at h;simp only[flat] at hf
  split at h
  .rename_i hu;simp only[hu] at hf;simp only[yc,yD] at h;obtain⟨rfl,rfl⟩:=h;simp only[cI,hu];exact⟨by simp[aE,ak],by simp[aD,aP],by rw[yz hf];rfl⟩
  .rename_i hu;simp only[hu] at hf
   split at h
   .rename_i hk;simp only[yc,yD] at h;obtain⟨rfl,rfl⟩:=h;simp only[cI,hu];refine⟨?_,by simp[aD,aP],by rw[yz hf];rfl⟩
    rw[hk.1];simp[aE,ak]
   .cases h
  .rename_i hu;simp only[hu] at hf
   split at h
   .rename_i hk;simp only[yc,yD] at h;obtain⟨rfl,rfl⟩:=h;simp only[cI,hu];refine⟨?_,by simp[aD,aP],by rw[yz hf];rfl⟩
    rw[hk.1];simp[aE,ak]
   .cases h
  .rename_i hu;simp only[hu] at hf
   split at h
   .simp only [yc,yD] at h;obtain⟨rfl,rfl⟩:=h;simp only[cI,hu];refine⟨?_,by simp[aD,aP],by rw[yz hf];rfl⟩
    simp only[aE,ak];exact⟨_,_,rfl,⟨_,rfl,rfl⟩,rfl⟩
   .cases h
  .rename_i hu;simp[hu] at hf
  .rename_i hu;simp[hu] at hf
  .rename_i hu;simp only[hu,yj] at hf;simp only[yc,yD] at h;obtain⟨rfl,rfl⟩:=h;simp only[cI,hu];exact⟨by simp[aE,ak],by simp[aD,aP],by rw[yz hf.1];rfl⟩
  .rename_i e a len cap hu;simp only[hu,yj] at hf;have⟨f1,f2,f3⟩:=hf;have fL:=CJ.1 f2;simp only at h
   split at h
   case isFalse=>cases h
   rename_i hc;simp only[xL] at h
   cases h1:(wO len).mapM fun i=>(w.cells? 0 (a.add (i*P.cellsOf e)) (P.cellsOf e)).bind (DataW.trod enc P w 0 (fun _=>ycO) held bA e) with
   | none=>rw[h1] at h;simp at h
   | some ma=>
    cases h2:(wO (cap-len)).mapM fun j=>(w.cells? 0 (a.add ((len+j)*P.cellsOf e)) (P.cellsOf e)).bind (DataW.trod enc P w 0 (fun _=>ycO) held bA e) with
    | none=>rw[h1] at h;simp[h2] at h
    | some rest=>
     rw[h1] at h;simp only[wR,h2,vn,yc,yD] at h;obtain⟨rfl,rfl⟩:=h;have hIH:=fun cs d ps h=>IH e cs d ps f3 h
     rw[yaP] at h1 h2;have⟨k1,k2,k3,k4,k5⟩:=XQ (ai:=ai) (m:=m) (S:=S) fL hIH len 0 ma h1;have hrl:rest.length=cap-len:=by rw[RI h2];simp
     have jG:cap≠0->a.spot=Iy:=by
      intro aa5;rcases xE len with h0 | h0
      .subst h0;simp only[yd,ycs] at h2;have⟨_,_,_,_,q5⟩:=XQ (ai:=ai) (m:=m) (S:=S) fL hIH cap 0 rest h2;exact (q5 (by lia)).resolve_right (by lia)
      .exact (k5 h0).resolve_right (by lia)
     simp only[cI,hu,yg];refine⟨?_,by simp[aD,aP],by rw[yz f1];rfl⟩
     simp only[aE];refine⟨_,_,rfl,?_,rfl⟩;simp only[ak];by_cases aa5:cap=0
     .subst aa5;have nI:len=0:=by lia
      subst nI;have he:ma=[]:=yu k4;subst he;exact .inr ⟨a,rfl,rfl,rfl⟩
     .have ⟨b,o,sp⟩:=a;have jG:=jG aa5;simp only at jG;subst jG;refine .inl ⟨b,o,cap,by rw[k4],by lia,fun hx=>?_,?_,k2,by simpa using k1⟩
      .have:rest.length=0:=by simpa using hx
       lia
      .generalize hg:((ma.map (·.1)).flatMap fun x=>cI P n e x)=l at k1
       cases l with
       | nil=>exact .inl rfl
       | cons c l=>exact .inr (hS b (atV k1))
  .rename_i Cf x1 P9 fs hu;simp only[hu] at hf
   split at h
   case isFalse=>cases h
   rename_i hlen
   cases h1:fs.toList.mapM fun f=>DataW.trod enc P w 0 (fun _=>ycO) held bA f.type ((Cf.drop f.offset).take (P.cellsOf f.type)) with
   | none=>rw[h1] at h;simp at h
   | some xs=>
    rw[h1] at h;simp only[vn,yc,yD] at h;obtain⟨rfl,rfl⟩:=h;have⟨k1,k2⟩:=afh hlen (fun t cs d ps hf h=>IH t cs d ps hf h) fs.toList 0 xs hf h1;simp only[cI,hu];exact⟨by simpa using k1,k2,hlen⟩
  .rename_i Cf x1 P9 k e hu;simp only[hu,yj] at hf;have⟨f1,f2⟩:=hf;have f1:=yz f1
   split at h
   case isFalse=>cases h
   rename_i hlen
   cases h1:(wO k).mapM fun i=>DataW.trod enc P w 0 (fun _=>ycO) held bA e ((Cf.drop (i*P.cellsOf e)).take (P.cellsOf e)) with
   | none=>rw[h1] at h;simp at h
   | some xs=>
    rw[h1] at h;simp only[vn,yc,yD] at h;obtain⟨rfl,rfl⟩:=h;rw[yaP] at h1;have⟨k1,k2⟩:=aip (ai:=ai) (m:=m) (S:=S) (fun cs d ps h=>IH e cs d ps f2 h) k 0 xs h1 (by rw[hlen,f1];simp)
    simp only[cI,hu];exact⟨by simpa using k1,k2,hlen⟩
  all_goals first
   | (cases h;done)
   | (simp_all;done)
def nt(P:xM)(n:Nat)(t:yL)(d:xW H):AV:=
 match P.underlying t with
 | some (.struct _) | some (.array _ _)=>.agg (cI P n t d)
 | _=>(cI P n t d).headD .undef
def awe(hS:∀b,b<w.heap.size->S b){n:Nat}{t:yL}{v:yr}{d:xW H}{ps:List wY}(hf:flat P n t=ycO)(h:DataW.Trod enc P w 0 (fun _=>ycO) held t v d ps)(hv:Value.okWide P w .any base t v):ak ai m S w (nt P n t d) v/\aP (nt P n t d)=ycO:=by
 have⟨bA,h⟩:=h;have⟨h1,h2,h3⟩:=ag6 (ai:=ai) (m:=m) hS n bA t _ d ps hf h;have one:v.cells=#[v]->(∀fs,P.underlying t≠Ix (.struct fs))->(∀k e,P.underlying t≠Ix (.array k e))->ak ai m S w (nt P n t d) v/\aP (nt P n t d)=ycO:=by
  intro hc KH hna;have e:nt P n t d=(cI P n t d).headD .undef:=by
   unfold nt
   grind
  rw[e];rw[hc] at h1;generalize cI P n t d=l at h1 h2
  cases l with
  | nil=>simp[aE] at h1
  | cons x l=>
   simp only[aE] at h1;simp only[aD,yj] at h2
   grind
 cases n with
 | zero=>simp[flat] at hf
 | succ n=>
  unfold Value.okWide at hv;simp only[flat] at hf
  cases hu:P.underlying t with
  | none=>simp[hu] at hf
  | some ty=>
   rw[hu] at hv hf;cases ty<;>simp only[yH] at hf hv
   case struct fs=>
    obtain⟨cs,rfl,_,_⟩:=hv;have e:nt P (n+1) t d=.agg (cI P (n+1) t d):=by simp only[nt,hu]
    rw[e];exact⟨by simp only[ak];exact⟨cs,rfl,h1⟩,by simpa only[aP] using h2⟩
   case array k e=>
    obtain⟨cs,rfl,_,_⟩:=hv;have e:nt P (n+1) t d=.agg (cI P (n+1) t d):=by simp only[nt,hu]
    rw[e];exact⟨by simp only[ak];exact⟨cs,rfl,h1⟩,by simpa only[aP] using h2⟩
   all_goals
    refine one ?_ (by simp[hu]) (by simp[hu])
    cases v with
    | agg cs=>exfalso;simp only[Cell.okWide,Cell.ok,hu] at hv
    | _=>rfl
def CW(P:xM)(n:Nat):List yL->List (xW H)->List AV
 | t::ts,d::ds=>nt P n t d::CW P n ts ds
 | _,_=>[]
def ag7(hS:∀b,b<w.heap.size->S b){n base:Nat}:∀{ts:List yL} {vs:List yr} {ds:List (xW H)} {ps:List wY},ts.all (flat P n)=ycO->DataW.TrodAll enc P w 0 (fun _=>ycO) held ts vs ds ps->
  (∀(j:Nat) t v,ts[j]? =Ix t->vs[j]? =Ix v->Value.okWide P w .any base t v)->aE ai m S w (CW P n ts ds) vs/\aD (CW P n ts ds)=ycO
 | [],[],[],_,_,_,_=>by simp[CW,aE,aD]
 | t::ts,v::vs,d::ds,ps,hf,h,hv=>by
  simp only[uk,yj] at hf;have⟨p,q,h1,h2,_⟩:=h;have⟨a1,a2⟩:=awe (ai:=ai) (m:=m) hS hf.1 h1 (hv 0 t v rfl rfl);have⟨b1,b2⟩:=ag7 hS hf.2 h2 (fun j t v h1 h2=>hv (j+1) t v h1 h2);simp only[CW,aE,aD,yj]
  grind
 | [],_::_,_,_,_,h,_=>by simp[DataW.TrodAll] at h
 | [],[],_::_,_,_,h,_=>by simp[DataW.TrodAll] at h
 | _::_,[],_,_,_,h,_=>by simp[DataW.TrodAll] at h
 | _::_,_::_,[],_,_,h,_=>by simp[DataW.TrodAll] at h
end
end
section
open Go
section
variable {H:Type}{enc:yL×yr->H}{P:xM}{w w':yt}{held:Bool}{sp:Nat->Bool}
def aqJ(hs:∀b,b<w.heap.size->w'.heap[b]? =w.heap[b]?){a:uM}{u:yr}(h:w.cell? a=Ix u):w'.cell? a=Ix u:=by
 unfold World.cell? at h ⊢
 grind
def aqi(hs:∀b,b<w.heap.size->w'.heap[b]? =w.heap[b]?){a:uM}{n:Nat}{us:List yr}(h:w.cells? base a n=Ix us):w'.cells? base a n=Ix us:=by
 unfold World.cells? at h ⊢
 split at h
 .rename_i hb;rw[yK hb];exact mapM_carry h (fun x y _ _ hx=>aqJ hs hx)
 .cases h
def awf{a:uM}{n:Nat}(h:0<n):MemPlace.cell a.block (a.off+0)∈MemPlace.row a n:=by
 unfold MemPlace.row
 simp_all
def afi(hs:∀b,b<w.heap.size->w'.heap[b]? =w.heap[b]?):∀(n bA:Nat) (t:yL) (cs:List yr) (d:xW H) (ps:List wY),flat P n t=ycO->DataW.trod enc P w 0 (fun _=>ycO) held bA t cs=Ix (d,ps)->
  (∀p,p∈ps->sp p.block=ycO)->DataW.trod enc P w' 0 sp held bA t cs=Ix (d,ps)
 | 0,bA,t,cs,d,ps,hf,h,hp=>by simp[flat] at hf
 | n+1,0,t,cs,d,ps,hf,h,hp=>by simp[DataW.trod] at h
 | n+1,bA+1,t,cs,d,ps,hf,h,hp=>by
  have IH:=afi hs n bA;have elem:∀{e:yL} {a:uM} {y:xW H×List wY},flat P n e=ycO->(w.cells? 0 a (P.cellsOf e)).bind (DataW.trod enc P w 0 (fun _=>ycO) held bA e)=Ix y->(∀p,p∈y.2->sp p.block=ycO)->
    (w'.cells? 0 a (P.cellsOf e)).bind (DataW.trod enc P w' 0 sp held bA e)=Ix y:=by
   intro e a y he h hq
   cases h1:w.cells? 0 a (P.cellsOf e) with
   | none=>simp[h1] at h
   | some us=>
    rw[h1] at h;rw[aqi hs h1]
    grind
  unfold DataW.trod at h ⊢;simp only[flat] at hf
  split at h
  .grind
  .grind
  .grind
  .grind
  .grind
  .grind
  .grind
  .rename_i e a len cap hu;simp only[hu,yj] at hf;obtain⟨f1,f2,f3⟩:=hf;have fL:=CJ.1 f2;simp only at h ⊢
   split at h
   case isFalse=>cases h
   rename_i hc;rw[yK hc];simp only[xL] at h
   cases h1:(wO len).mapM fun i=>(w.cells? 0 (a.add (i*P.cellsOf e)) (P.cellsOf e)).bind (DataW.trod enc P w 0 (fun _=>ycO) held bA e) with
   | none=>rw[h1] at h;simp at h
   | some ma=>
    cases h2:(wO (cap-len)).mapM fun j=>(w.cells? 0 (a.add ((len+j)*P.cellsOf e)) (P.cellsOf e)).bind (DataW.trod enc P w 0 (fun _=>ycO) held bA e) with
    | none=>rw[h1] at h;simp[h2] at h
    | some rest=>
     rw[h1] at h;simp only[wR,h2,vn,yc,yD] at h;obtain⟨rfl,rfl⟩:=h;have k1:((wO len).mapM fun i=>(w'.cells? 0 (a.add (i*P.cellsOf e)) (P.cellsOf e)).bind (DataW.trod enc P w' 0 sp held bA e))=Ix ma:=
      mapM_carry h1 (fun x y _ hy hx=>elem f3 hx (fun p hq=>hp p (uv _ (tf.2 ⟨y,tG _ hy,hq⟩))))
     have k2:((wO (cap-len)).mapM fun j=>(w'.cells? 0 (a.add ((len+j)*P.cellsOf e)) (P.cellsOf e)).bind (DataW.trod enc P w' 0 sp held bA e))=Ix rest:=
      mapM_carry h2 (fun x y _ hy hx=>elem f3 hx (fun p hq=>hp p (uv _ (tf.2 ⟨y,uv _ hy,hq⟩))))
     have hr:(if sp a.block=ycO then (wO (cap-len)).mapM fun j=>(w'.cells? 0 (a.add ((len+j)*P.cellsOf e)) (P.cellsOf e)).bind (DataW.trod enc P w' 0 sp held bA e) else Ix [])=Ix rest:=by
      by_cases jG:sp a.block=ycO
      .rw [yK jG];exact k2
      .rw [yx jG];have h0:¬0<(ma.length+rest.length)*P.cellsOf e:=fun h0=>jG (hp _ (tG _ (awf h0)))
       have hz:ma.length+rest.length=0:=by
        rcases xE (ma.length+rest.length) with h | h
        .exact h
        .exact (h0 (ux h fL)).elim
       have:rest=[]:=yu (by omega)
       rw[this]
     rw[k1];simp only[wR];rw[hr];rfl
  .rename_i Cf x1 P9 fs hu;simp only[hu] at hf
   split at h
   case isFalse=>cases h
   rename_i hlen;rw[yK hlen]
   cases h1:fs.toList.mapM fun f=>DataW.trod enc P w 0 (fun _=>ycO) held bA f.type ((Cf.drop f.offset).take (P.cellsOf f.type)) with
   | none=>rw[h1] at h;simp at h
   | some xs=>
    rw[h1] at h;simp only[vn,yc,yD] at h;obtain⟨rfl,rfl⟩:=h;have Cd:∀(r:List tE) (o:Nat),IF P (fun u=>flat P n u) r o (P.cellsOf t)=ycO->∀f,f∈r->flat P n f.type=ycO:=by
     intro r
     induction r with
     | nil=>intro o _ f hm;cases hm
     | cons g r ih=>
      intro o hq f hm;simp only[IF,yj] at hq;rcases List.mem_cons.1 hm with rfl | hm
      .exact hq.2.1
      .exact ih _ hq.2.2 f hm
    have k1:(fs.toList.mapM fun f=>DataW.trod enc P w' 0 sp held bA f.type ((Cf.drop f.offset).take (P.cellsOf f.type)))=Ix xs:=
     mapM_carry h1 (fun f y hm hy hx=>IH _ _ y.1 y.2 (Cd _ _ hf f hm) hx (fun p hq=>hp p (tf.2 ⟨y,hy,hq⟩)))
    rw[k1];rfl
  .rename_i Cf x1 P9 k e hu;simp only[hu,yj] at hf
   split at h
   case isFalse=>cases h
   rename_i hlen;rw[yK hlen]
   cases h1:(wO k).mapM fun i=>DataW.trod enc P w 0 (fun _=>ycO) held bA e ((Cf.drop (i*P.cellsOf e)).take (P.cellsOf e)) with
   | none=>rw[h1] at h;simp at h
   | some xs=>
    rw[h1] at h;simp only[vn,yc,yD] at h;obtain⟨rfl,rfl⟩:=h;have k1:((wO k).mapM fun i=>DataW.trod enc P w' 0 sp held bA e ((Cf.drop (i*P.cellsOf e)).take (P.cellsOf e)))=Ix xs:=
     mapM_carry h1 (fun i y _ hy hx=>IH _ _ y.1 y.2 hf.2 hx (fun p hq=>hp p (tf.2 ⟨y,hy,hq⟩)))
    rw[k1];rfl
  all_goals first
   | (cases h;done)
   | (simp_all;done)
def aes(hs:∀b,b<w.heap.size->w'.heap[b]? =w.heap[b]?){n:Nat}:∀{ts:List yL} {vs:List yr} {ds:List (xW H)} {ps:List wY},ts.all (flat P n)=ycO->DataW.TrodAll enc P w 0 (fun _=>ycO) held ts vs ds ps->
  (∀p,p∈ps->sp p.block=ycO)->DataW.TrodAll enc P w' 0 sp held ts vs ds ps
 | [],[],[],ps,_,h,_=>by simpa only[DataW.TrodAll] using h
 | t::ts,v::vs,d::ds,ps,hf,h,hp=>by
  simp only[uk,yj] at hf;obtain⟨p,q,⟨bA,h1⟩,h2,rfl⟩:=h;exact⟨p,q,⟨bA,afi hs n bA t _ d p hf.1 h1 (fun x hx=>hp x (tG _ hx))⟩,aes hs hf.2 h2 (fun x hx=>hp x (uv _ hx)),rfl⟩
 | [],_::_,_,_,_,h,_=>by simp[DataW.TrodAll] at h
 | [],[],_::_,_,_,h,_=>by simp[DataW.TrodAll] at h
 | _::_,[],_,_,_,h,_=>by simp[DataW.TrodAll] at h
 | _::_,_::_,[],_,_,h,_=>by simp[DataW.TrodAll] at h
end
end
section
open Go Go.ChangeShapes Go.WideShapes
section
variable {H:Type}{enc:yL×yr->H}{P:xM}{W W':yt}
def arT(hc:Calm W W')(may:wY->Prop):W.keptBut W' may:=by
 refine⟨hc.os,hc.output,fun i hi=>?_⟩;rw[hc.same i hi]
 cases hq:W.heap[i]? with
 | none=>rfl
 | some o=>cases o<;>simp
def aqj(hc:Calm W W'){b off:Nat}(hb:b<W.heap.size):W'.frozen? ⟨b,off,Iy⟩=W.frozen? ⟨b,off,Iy⟩:=by
 unfold World.frozen?;rw[hc.same b hb]
def atW{fn:Func}{s:yct}{args:Array yr}{ds gs:List (xW H)}{before:List wY}{n:Nat}{tb:yL}(hW:DataW.Whole enc P fn.params.toList s.vars apart W args.toList ds gs before)(hv:s.vars=[])(TC:fn.params.toList.all (flat P n)=ycO)(hc:Calm W W')(oJ:s.fn H (ds++gs)={results:=[.lit (.bool ycO)],args:=ds})(E6:fn.resultTypes=#[tb])(nM:P.underlying tb=Ix .bool):
  s.post enc P fn apart fresh handsOn again W args (.bool ycO) W':=by
 have aY:=hW.lt;have hW0:=hW;obtain⟨p,q,hA,hV,hpq,hz,hn⟩:=hW;rw[hv] at hV;have hq:gs=[]/\q=[]:=by
  cases gs with
  | nil=>exact⟨rfl,by simpa only[DataW.TrodVars] using hV⟩
  | cons g gs=>simp[DataW.TrodVars] at hV
 obtain⟨rfl,rfl⟩:=hq;have Wu:before=p:=by simp_all
 subst Wu;have jt:∀sp:Nat->Bool,(∀p∈before,sp p.block=ycO)->DataW.TrodAll enc P W' 0 sp ycO fn.params.toList args.toList ds before:=fun sp h=>aes hc.same TC hA h
 have akV:∀(b:Nat) (sp:Nat->Bool) (hd:Bool),DataW.TrodAll enc P W' b sp hd fn.resultTypes.toList ((Value.bool ycO).resultList fn.resultTypes.size) [.lit (.bool ycO)] []:=by
  intro b sp hd;rw[E6];refine⟨[],[],⟨1,?_⟩,rfl,rfl⟩;simp[DataW.trod,nM,Value.cells]
 have hold:∀p∈before,(fun b=>decide (b<W.heap.size)) p.block=ycO:=fun p hp=>by simpa using aY p hp
 have akW:∀sp:Nat->Bool,DataW.TrodVars enc P W' sp s.vars ([]:List (xW H)) []:=fun sp=>by rw[hv];rfl
 refine⟨ds,[],before,[],before,[],hW0,by rw[oJ];exact akV _ _ _,by rw[oJ];exact jt _ hold,by rw[oJ];exact akW _,arT hc _,fun _=>?_⟩
 refine⟨?_,[.lit (.bool ycO)]++ds,[],[]++before++[],⟨[]++before,[],trodAll_append (jt _ (fun _ _=>rfl)) (akV _ _ _),akW _,rfl,?_,?_⟩,?_⟩
 .intro j t r h1 h2;rw[E6] at h1 h2
  cases j with
  | zero=>
   simp only[List.getElem?_toArray,uo,yc] at h1;simp only[Value.resultList,List.size_toArray,yB,yI,xL,yd,uo,yc] at h2;subst h1;subst h2;simp[Value.okWide,nM,Cell.okWide,Cell.ok]
  | succ j=>simp at h1
 .intro b off hp;have hp:MemPlace.cell b off∈before:=by grind
  rw[aqj hc (b:=b) (aY _ hp)];exact hz b off hp
 .grind
 .grind
def arU{O:bC}{n k:Nat}{fn:Func}{s:yct}{args:Array yr}{ds gs:List (xW H)}{before:List wY}{tb:yL}(hp:fF O n (CW O.P k fn.params.toList ds) (.bool ycO))(A9:O.w0=W)(oJ:O.P.funcs[O.ai n]? =Ix fn)(hb:fn.body.isSome=ycO)(qM:fn.name≠ "runtime.NumGoroutine")(aR:∀(j:Nat) t v,fn.params[j]? =Ix t->args[j]? =Ix v->Value.okWide O.P W .any base t v)(hW:DataW.Whole enc O.P fn.params.toList s.vars apart W args.toList ds gs before)(hv:s.vars=[])(TC:fn.params.toList.all (flat O.P k)=ycO)(hfs:s.fn H (ds++gs)={results:=[.lit (.bool ycO)],args:=ds})(E6:fn.resultTypes=#[tb])(nM:O.P.underlying tb=Ix .bool):
  Calls O.P (O.ai n) args W fun e W'=>∃v,e=.returned v/\s.post enc O.P fn apart fresh handsOn again W args v W':=by
 have hA:=hW;obtain⟨p,q,hA,_⟩:=hA;obtain⟨h1,h2⟩:=ag7 (ai:=O.ai) (m:=gC) (S:=fun b=>b<W.heap.size) (fun b hb=>hb) TC hA (fun j t v a b=>aR j t v (by simpa using a) (by simpa using b));have hi:=hp W (fun b=>b<W.heap.size) args ⟨fun b _=>by rw[A9],by rw[A9];exact ym _⟩ (fun b hb=>hb) h1 h2
 have key:∀e W',agR O W (fun b=>b<W.heap.size) (.bool ycO) e W'->∃v,e=.returned v/\s.post enc O.P fn apart fresh handsOn again W args v W':=by
  rintro e W' ⟨u,S',rfl,hc,_,_,_,hr⟩;obtain⟨_,_,hu,_⟩:=hr;subst hu;exact⟨_,rfl,atW hW hv TC hc hfs E6 nM⟩
 rcases hi with ⟨_,hi⟩ | ⟨u,w',hi,_⟩
 .exact callsIn_wide.1 (hi.mono key)
 .rw [R1 oJ hb qM] at hi;cases hi
end
end
namespace J1
open Go Go.Proofs
noncomputable def O(W:yt):bC:=⟨Tryz.prog,VE.a8,Dd sS.ai,VE.prog,Tu sS.cg sS.hd,W⟩
def agc{w:yt}{k:Nat}{os:Array Go.Obj}:Calm w (Go.Sort.grow (w.drewN k) os):=MJ (Lib.below_grow w.heap.size w (ym _) k os)
def ag8{W w:yt}(h:Lib.TabIs Tryz.prog W "internal/strconv.uint64pow10" .u64 Lib.pow10Tab)(hg:EC (O W) w):Lib.TabIs Tryz.prog w "internal/strconv.uint64pow10" .u64 Lib.pow10Tab:=by
 unfold Lib.TabIs World.var? at h ⊢
 cases hn:Tryz.prog.globalNamed "internal/strconv.uint64pow10" with
 | none=>rw[hn] at h;exact h
 | some g=>
  rw[hn] at h;simp only[wR] at h ⊢;have hb:g<W.heap.size:=by
   cases hq:W.heap[g]? with
   | none=>rw[hq] at h;cases h
   | some o=>exact (xT.1 hq).1
  rw[hg.1 g hb];exact h
def aDx:∀args w,(callFunc 174 args).run Tryz.prog w=.ok (.enter 174 args) w:=enters_of Tryz.func174 (by kernel_rfl) rfl
def aDy:∀args w,(callFunc 173 args).run Tryz.prog w=.ok (.enter 173 args) w:=enters_of Tryz.func173 (by kernel_rfl) rfl
def aDz:∀args w,(callFunc 247 args).run Tryz.prog w=.ok (.enter 247 args) w:=enters_of Tryz.func247 (by kernel_rfl) rfl
def aDA:∀args w,(callFunc 249 args).run Tryz.prog w=.ok (.enter 249 args) w:=enters_of Tryz.func249 (by kernel_rfl) rfl
def aDB:∀args w,(callFunc 250 args).run Tryz.prog w=.ok (.enter 250 args) w:=enters_of Tryz.func250 (by kernel_rfl) rfl
def aDC:∀args w,(callFunc 235 args).run Tryz.prog w=.ok (.enter 235 args) w:=enters_of Tryz.func235 (by kernel_rfl) rfl
def aDD:∀args w,(callFunc 223 args).run Tryz.prog w=.ok (.enter 223 args) w:=enters_of Tryz.func223 (by kernel_rfl) rfl
def aDE:∀args w,(callFunc 224 args).run Tryz.prog w=.ok (.enter 224 args) w:=enters_of Tryz.func224 (by kernel_rfl) rfl
def aDF:∀args w,(callFunc 225 args).run Tryz.prog w=.ok (.enter 225 args) w:=enters_of Tryz.func225 (by kernel_rfl) rfl
def aDG:∀args w,(callFunc 220 args).run Tryz.prog w=.ok (.enter 220 args) w:=enters_of Tryz.func220 (by kernel_rfl) rfl
def aDH:∀args w,(callFunc 280 args).run Tryz.prog w=.ok (.enter 280 args) w:=enters_of Tryz.func280 (by kernel_rfl) rfl
def aDI:∀args w,(callFunc 243 args).run Tryz.prog w=.ok (.enter 243 args) w:=enters_of Tryz.func243 (by kernel_rfl) rfl
def aBI(W:yt)(n:Nat)(sp:List AV->Option AV):Prop:=∀az r,sp az=Ix r->fF (O W) n az r
section
variable {W:yt}{m:Int}(hm:W.cell? ⟨1,0,Iy⟩=Ix (.int .i64 m))(ht:Lib.TabIs Tryz.prog W "internal/strconv.uint64pow10" .u64 Lib.pow10Tab)
include hm ht
theorem ayQ:al2.oI (aBI W):=
 (Tr.oe (apH (O:=O W) (f:=224) (by rfl) aDE Tryz.strings_TrimPrefix)
  (Tr.oe (apI (O:=O W) (f:=249) (by rfl) aDA (fun z w hz hg=>(Tryz.apB z hz w (ag8 ht hg)).mono fun _ _ ⟨h1,k,os,h2⟩=>⟨h1,h2▸agc⟩))
  (Tr.oe (apK (O:=O W) (f:=173) (by rfl) aDy Tryz.strings_CutPrefix)
  (Tr.oe (avY (O:=O W) (f:=174) (by rfl) aDx (a:=⟨1,0,Iy⟩) (m:=m) hm (fun s sep w hs hc=>Tryz.strings_Cut s sep m w hs hc))
  Tr.mI Tr.mI) (Tr.oe (atK (O:=O W) (f:=247) (by rfl) aDz (fun z w h0 h1 hg=>(Tryz.strconv_Itoa z h0 h1 w (ag8 ht hg)).mono fun _ _ ⟨h1,k,os,h2⟩=>⟨h1,h2▸agc⟩))
  Tr.mI Tr.mI)) (Tr.oe (arL (O:=O W) (f:=235) (by rfl) aDC (fun x y w hx hy=>Tryz.bits_Mul64 x y hx hy w))
  (Tr.oe (aqH (O:=O W) (f:=250) (by rfl) aDB Tryz.strings_Repeat)
  Tr.mI Tr.mI) (Tr.oe (apL (O:=O W) (f:=223) (by rfl) aDD Tryz.strings_HasPrefix)
  Tr.mI Tr.mI))) (Tr.oe (arN (O:=O W) (f:=268) (by rfl) (fun x y c w h=>Tryz.bits_Add64 x y c h w))
  (Tr.oe (atJ (O:=O W) (f:=220) (by rfl) aDG (fun s cs w hs dA ha=>Tryz.apY s cs w hs dA ha))
  (Tr.oe (atL (O:=O W) (f:=225) (by rfl) aDF (fun s z w hl h=>(Tryz.strconv_Atoi s z hl h w).mono fun _ _ ⟨h1,t,h2⟩=>⟨h1,h2▸MJ (Lib.bytesWorld_below _ _ _)⟩))
  Tr.mI Tr.mI) (Tr.oe (atM (O:=O W) (f:=280) (by rfl) aDH (fun x w h0 h1=>Tryz.bits_LeadingZeros64 x w h0 h1))
  Tr.mI Tr.mI)) (Tr.oe (arM (O:=O W) (f:=243) (by rfl) aDI (fun x w h0 h1=>Tryz.bits_Len64 x w h0 h1))
  (Tr.oe (arO (O:=O W) (f:=270) (by rfl) (fun x y b w h=>Tryz.bits_Sub64 x y b h w))
  Tr.mI Tr.mI) Tr.mI)))
theorem awg:jq (O W) where
 hint n f g h:=Tr.Gf (p:=fun f g=>Dd sS.ai g=f) (Xt sS.ayF) h
 mixed:=by kernel_rfl
 prog n F h:=Tr.Gf sS.awc h
 a8 n sp az r h hs:=Tr.Gf (ayQ hm ht) h az r hs
 JU n sp hp ct az v aq bc h:=by cases h
end
end J1
section
variable {hi lo:Int}{s:List (List Int)}{l:List Int}{i:Nat}
def a6:List Int->Int
 | []=>0
 | a::r=>if a=0 then a6 r else a
def Xh(h:i<l.length):a6 (l.drop i)=if l[i]=0 then a6 (l.drop (i+1)) else l[i]:=by
 rw[yP h,a6]
def ib(lo hi:Int):List Int->Bool
 | []=>ycP
 | a::r=>if a<lo\/hi<a then ycO else ib lo hi r
def arV(h:i<l.length):ib lo hi (l.drop i)=if l[i]<lo\/hi<l[i] then ycO else ib lo hi (l.drop (i+1)):=by
 rw[yP h,ib]
def mJ(n:Nat)(lo hi:Int):List (List Int)->Int
 | []=>0
 | r::s=>if r.length≠n then 2 else if ib lo hi r=ycO then 3 else mJ n lo hi s
def afj{n:Nat}(h:i<s.length):
  mJ n lo hi (s.drop i)=if s[i].length≠n then 2 else if ib lo hi s[i]=ycO then 3 else mJ n lo hi (s.drop (i+1)):=by
 rw[yP h,mJ]
def oP(s:List (List Int)):Int:=if s.length=0 then 12 else if 16<s.length then 5 else mJ s.length (-1000) 1000 s
def mg:List Int->Int
 | []=>0
 | a::r=>a+mg r
def XR(h:i<l.length):mg (l.take (i+1))=mg (l.take i)+l[i]:=by
 induction l generalizing i with
 | nil=>exact absurd h (vh _)
 | cons a r ih=>
  cases i with
  | zero=>simp[mg]
  | succ i=>
   have h':i<r.length:=by simp_all
   simp only[wS,mg,List.getElem_cons_succ,ih h']
   lia
def R2(h:ib lo hi l=ycP):∀i (bD:i<l.length),lo<=l[i]/\l[i]<=hi:=by
 induction l with
 | nil=>intro i bD;exact absurd bD (vh _)
 | cons a r ih=>
  simp only[ib] at h
  grind
def arW(h:ib lo hi l=ycP):∀i,ib lo hi (l.take i)=ycP:=by
 induction l with
 | nil=>intro i;simp[ib]
 | cons a r ih=>
  intro i;simp only[ib] at h
  split at h
  .grind
  .rename_i hc
   cases i with
   | zero=>simp[ib]
   | succ i=>simp only[wS,ib,hc,xr,ih h i]
def jc(s:List (List Int))(c r:Int):Int:=(s.getD (r%s.length).toNat []).getD (c%s.length).toNat 0
def awh{n m:Int}(h:0<m):(n.tmod m+m).tmod m=n%m:=by
 have e:n.tmod m=if 0<=n\/m∣n then n%m else n%m-m:=by
  grind
 have h1:=Int.emod_nonneg n (by lia:m≠0);rw[e]
 split
 .rw [xF (by lia),Int.add_emod_right,yco]
 .rw [show n%m-m+m=n%m by lia,xF h1,yco]
def XS{n:Nat}(h:mJ n lo hi s=0):∀i (bD:i<s.length),s[i].length=n/\ib lo hi s[i]=ycP:=by
 induction s with
 | nil=>intro i bD;exact absurd bD (vh _)
 | cons r s ih=>
  simp only[mJ] at h
  grind
end
section
variable {x:Int}{a b l:List Int}
def dv:List Int->Nat
 | []=>0
 | a::r=>a.toNat+1000000000*dv r
def pM:∀(a b:List Int),dv (a++b)=dv a+1000000000^a.length*dv b
 | [],b=>by simp[dv]
 | x::a,b=>by
  simp only[xC,dv,pM a b,yB,xJ,xO]
  grind
def zD(i:Nat):dv (l.take (i+1))=dv (l.take i)+1000000000^i*(l.getD i 0).toNat:=by
 by_cases h:i<l.length
 .rw [yk h,pM,yJ,xq (by lia)];simp[dv,yW,xz h]
 .rw [yq (by lia),yq (by lia)]
  grind
abbrev dg(l:List Int):Prop:=ib 0 999999999 l=ycP
def jo:dg (a++b)↔dg a/\dg b:=by
 induction a with
 | nil=>simp[dg,ib]
 | cons x a ih=>
  simp only[dg,xC,ib] at ih ⊢
  grind
def nY:dg [x]↔0<=x/\x<1000000000:=by
 simp only[dg,ib]
 grind
def jM(h:dg l)(i:Nat):0<=l.getD i 0/\l.getD i 0<1000000000:=by
 by_cases hi:i<l.length
 .have:=R2 h i hi
  grind
 .grind
def Gn(h:dg l)(i:Nat):dg (l.take i):=arW h i
def mK:∀{l:List Int},dg l->dv l<1000000000^l.length
 | [],_=>by simp[dv]
 | x::l,h=>by
  have h':dg ([x]++l):=h;have⟨h1,h2⟩:=jo.1 h';have h1:=nY.1 h1
  have:=mK h2
  simp only[dv,yB,xJ]
  lia
def eZ:List Int->List Int
 | []=>[]
 | a::r=>match eZ r with | []=>if a=0 then [] else [a] | t::q=>a::t::q
def ML:∀l:List Int,eZ (l++[0])=eZ l
 | []=>rfl
 | a::l=>by simp only[xC,eZ,ML l]
def Rz{a:Int}(h:a≠0):∀l:List Int,eZ (l++[a])=l++[a]
 | []=>by simp[eZ,h]
 | b::l=>by
  simp only[xC,eZ,Rz h l]
  cases hq:l++[a] with
  | nil=>simp at hq
  | cons t q=>rfl
def CC:∀l:List Int,dv (eZ l)=dv l
 | []=>rfl
 | a::l=>by
  have ih:=CC l;simp only[eZ,dv]
  split
  .rename_i h;rw[h] at ih
   split
   .rename_i h0;subst h0;simp[dv,<-ih]
   .simp [dv,<-ih]
  .rename_i t q h;rw[h] at ih;simp only[dv] at ih ⊢
   lia
def D9:∀{l:List Int},dg l->dg (eZ l)
 | [],_=>rfl
 | a::l,h=>by
  have h':dg ([a]++l):=h;have⟨h1,h2⟩:=jo.1 h';have ih:=D9 h2;simp only[eZ]
  split
  .grind
  .rename_i t q hq;rw[hq] at ih
   exact (jo (a:=[a]) (b:=t::q)).2 ⟨h1,ih⟩
def RJ:∀l:List Int,(eZ l).length<=l.length
 | []=>ym _
 | a::l=>by
  have ih:=RJ l;simp only[eZ]
  grind
def snoc{α:Type}(l:List α):l=[]\/∃m a,l=m++[a]:=by
 rcases List.eq_nil_or_concat l with h | ⟨m,a,h⟩
 .grind
 .grind
def aqk:∀(n:Nat) (l:List Int),l.length=n->eZ (eZ l)=eZ l:=by
 intro n
 induction n with
 | zero=>intro l h;rw[yu h];rfl
 | succ n ih=>
  intro l h;rcases snoc l with rfl | ⟨m,a,rfl⟩
  .rfl
  .by_cases h0:a=0
   .subst h0;rw[ML]
    grind
   .rw [Rz h0,Rz h0]
def aqK(l:List Int):eZ (eZ l)=eZ l:=aqk _ l rfl
abbrev nz(l:List Int):Prop:=eZ l=l
def IZ(l:List Int):nz (eZ l):=aqK l
def TD(h:nz l)(hd:dg l)(h0:l≠[]):1000000000^(l.length-1)<=dv l:=by
 rcases snoc l with rfl | ⟨m,a,rfl⟩
 .grind
 .by_cases ha:a=0
  .subst ha
   have:=RJ m
   have e:=congrArg tK h;rw[ML] at e
   grind
  .rw [pM]
   have:=nY.1 (jo.1 hd).2
   simp only[dv,yE,uK,uR,xP,xg];have h1:1<=a.toNat:=by lia
   have:=yZ (1000000000^m.length) h1
   lia
def aiq(h:nz l)(hd:dg l)(h0:dv l=0):l=[]:=by
 by_cases hl:l=[]
 .grind
 .have:=TD h hd hl
  grind
def Zr(ha:dg a)(hb:nz b)(dd:dg b)(h:a.length<b.length):dv a<dv b:=by
 have h1:=mK ha;have h2:=TD hb dd (fun e=>by subst e;simp at h);have h3:1000000000^a.length<=1000000000^(b.length-1):=y9 (by decide) (by lia)
 lia
def eL(m n:Nat):Int:=if m<n then -1 else if n<m then 1 else 0
def ajq{i:Nat}(h:i<l.length):dv l=dv (l.take i)+1000000000^i*(l[i].toNat+1000000000*dv (l.drop (i+1))):=by
 have e:l=l.take i++l[i]::l.drop (i+1):=by simp_all
 have:dv l=dv (l.take i++l[i]::l.drop (i+1)):=congrArg dv e
 rw[this,pM,yJ,xq (by lia)];rfl
def air{i:Nat}(ha:dg a)(hb:dg b)(h1:i<a.length)(h2:i<b.length)(he:a.drop (i+1)=b.drop (i+1))(h:a[i]<b[i]):dv a<dv b:=by
 rw[ajq h1,ajq h2,he];have hl:=mK (Gn ha i);have g1:=R2 ha i h1;have h3:a[i].toNat+1000000000*dv (b.drop (i+1))+1<=b[i].toNat+1000000000*dv (b.drop (i+1)):=by lia
 have:=yZ (1000000000^i) h3
 grind
def Zs:∀{l:List Int} {j:Nat} {x:Int},j<l.length->dv (l.set j x)+1000000000^j*(l.getD j 0).toNat=dv l+1000000000^j*x.toNat
 | [],j,x,h=>by simp at h
 | a::l,0,x,_=>by simp[dv];lia
 | a::l,j+1,x,h=>by
  have ih:=Zs (l:=l) (j:=j) (x:=x) (by simpa using h);simp only[ybd,dv,yaU,xJ]
  grind
def S5(h:dg l){j:Nat}(hx:0<=x/\x<1000000000):dg (l.set j x):=by
 by_cases hj:j<l.length
 .rw [uC,yK hj];have e:l=l.take (j+1)++l.drop (j+1):=(xX _ _).symm;have hd:dg (l.drop (j+1)):=by rw[e] at h;exact (jo.1 h).2
  exact jo.2 ⟨Gn h j,(jo (a:=[x]) (b:=l.drop (j+1))).2 ⟨nY.2 hx,hd⟩⟩
 .rw [List.set_eq_of_length_le (by lia)];exact h
def ag9{j m:Nat}(h:m≠j):(l.set j x).getD m 0=l.getD m 0:=by grind
def atX{V0 V' q X o c s:Nat}(hs:s=o+A*X+c)(aV:V'+p*q*o=V+p*q*(s%1000000000))(hv:V+p*q*c=V0+p*(A*Y)):
  V'+p*(q*1000000000)*(s/1000000000)=V0+p*(A*(Y+q*X)):=by
 have e:=uy s 1000000000;have e2:p*q*s=p*q*(s%1000000000)+p*(q*1000000000)*(s/1000000000):=by
  conv=>lhs;rw[<-e]
  rw[xO,<-xD (p*q),<-xD p q]
 have e3:p*q*s=p*q*o+p*q*(A*X)+p*q*c:=by rw[hs,xO,xO]
 have e4:p*(A*(Y+q*X))=p*(A*Y)+p*q*(A*X):=by
  rw[xO,xO,xD p q,<-xD A q X,xY A q,xD q A X]
 lia
def aha(n:Nat):dv (ye n 0)=0:=by
 induction n with
 | zero=>rfl
 | succ n ih=>simp[wG,dv,ih]
def ahb(n:Nat):dg (ye n 0):=by
 induction n with
 | zero=>rfl
 | succ n ih=>exact (jo (a:=[0]) (b:=ye n 0)).2 ⟨by decide,ih⟩
end
section
variable {l m:List Nat}{U V i p u0 u1 u2 ur v1 v2 vr x:Nat}
def bv(b:Nat):List Nat->Nat
 | []=>0
 | a::r=>a+b*bv b r
def lo(b:Nat)(l:List Nat):Prop:=∀x,x∈l->x<b
section
variable {b:Nat}
def Es(a:Nat):bv b [a]=a:=by simp[bv]
def Br:∀(l m:List Nat),bv b (l++m)=bv b l+b^l.length*bv b m
 | [],m=>by simp[bv]
 | x::l,m=>by
  simp only[xC,bv,Br l m,yB,xJ,xO]
  grind
def gd(h:i<l.length):l[i]=l.getD i 0:=by simp_all
def Zt(h:l.length<=i):l.getD i 0=0:=by simp_all
def lP(i:Nat):bv b (l.take (i+1))=bv b (l.take i)+b^i*l.getD i 0:=by
 by_cases h:i<l.length
 .rw [yk h,Br,yJ,xq (by lia),Es,gd h]
 .rw [yq (by lia),yq (by lia),Zt (by lia),xP,xg]
def S6:lo b []:=fun _ h=>by simp at h
def RL:lo b (l++m)↔lo b l/\lo b m:=by
 constructor
 .intro h;exact⟨fun x hx=>h x (by simp[hx]),fun x hx=>h x (by simp[hx])⟩
 .rintro ⟨h1,h2⟩ x hx;rcases wm.1 hx with h | h
  .exact h1 x h
  .exact h2 x h
def Jq:lo b [x]↔x<b:=by simp[lo]
def jr(hb:0<b)(h:lo b l)(i:Nat):l.getD i 0<b:=by
 by_cases hi:i<l.length
 .rw [<-gd hi];exact h _ (List.getElem_mem hi)
 .grind
def Eh(h:lo b l)(i:Nat):lo b (l.take i):=fun x hx=>h x (List.mem_of_mem_take hx)
def ais(h:lo b l)(i:Nat):lo b (l.drop i):=fun x hx=>h x (List.mem_of_mem_drop hx)
def pV(h:lo b l)(hx:x<b):lo b (l.set i x):=fun y hy=>by
 rcases List.mem_or_eq_of_mem_set hy with h1 | h1
 .exact h y h1
 .lia
def Jr(hb:0<b)(n:Nat):lo b (ye n 0):=fun x hx=>by
 grind
def Js(n:Nat):bv b (ye n 0)=0:=by
 induction n with
 | zero=>rfl
 | succ n ih=>simp[wG,bv,ih]
def Gp(n m:Nat):(ye n (0:Nat)).getD m 0=0:=by grind
def qd:∀{l:List Nat},lo b l->bv b l<b^l.length
 | [],_=>by simp[bv]
 | x::l,h=>by
  have h1:=h x (by simp);have h2:=qd (l:=l) (fun y hy=>h y (by simp[hy]));simp only[bv,yB,xJ,xY _ b]
  have:=yZ b (show bv b l+1<=b^l.length from h2)
  grind
def so:∀{l:List Nat} {i x:Nat},i<l.length->bv b (l.set i x)+b^i*l.getD i 0=bv b l+b^i*x
 | [],i,x,h=>by simp at h
 | a::l,0,x,_=>by simp[bv];lia
 | a::l,i+1,x,h=>by
  have ih:=so (l:=l) (i:=i) (x:=x) (by simpa using h)
  have:=congrArg (fun t=>b*t) ih
  simp only[xO] at this;simp only[ybd,bv,yaU,xJ,xY _ b,xD] at this ⊢
  lia
def zE{m:Nat}(h:i≠m):(l.set i x).getD m 0=l.getD m 0:=by simp_all
def aqL(h:i<l.length):(l.set i x).getD i 0=x:=by simp_all
def MY(l:List Nat)(i:Nat)(h:i<=l.length):bv b l=bv b (l.take i)+b^i*bv b (l.drop i):=by
 have:=Br (b:=b) (l.take i) (l.drop i)
 simp_all
def fa:List Nat->List Nat
 | []=>[]
 | a::r=>match fa r with | []=>if a=0 then [] else [a] | t::q=>a::t::q
def RA:∀l:List Nat,fa (l++[0])=fa l
 | []=>rfl
 | a::l=>by simp only[xC,fa,RA l]
def IG{a:Nat}(h:a≠0):∀l:List Nat,fa (l++[a])=l++[a]
 | []=>by simp[fa,h]
 | b::l=>by
  simp only[xC,fa,IG h l]
  cases hq:l++[a] with
  | nil=>simp at hq
  | cons t q=>rfl
abbrev jm(l:List Nat):Prop:=fa l=l
def aqM:∀(n:Nat) (l:List Nat),l.length=n->∃i,i<=n/\fa l=l.take i/\jm (l.take i)/\bv b (l.take i)=bv b l:=by
 intro n
 induction n with
 | zero=>intro l h;rw[yu h];exact⟨0,ym _,rfl,rfl,rfl⟩
 | succ n ih=>
  intro l h;rcases snoc l with rfl | ⟨m,a,rfl⟩
  .grind
  .have hm:m.length=n:=by simp_all
   by_cases h0:a=0
   .subst h0;have⟨i,h1,h2,h3,h4⟩:=ih m hm;have e:(m++[0]).take i=m.take i:=by grind
    refine⟨i,by lia,by rw[RA,h2,e],by rw[e];exact h3,?_⟩
    rw[e,h4,Br];simp[bv]
   .have e:(m++[a]).take (n+1)=m++[a]:=yq (by simp[hm]);exact⟨n+1,ym _,by rw[e,IG h0],by rw[e];exact IG h0 m,by rw[e]⟩
def RM(l:List Nat):∃i,i<=l.length/\fa l=l.take i/\jm (fa l)/\bv b (fa l)=bv b l:=by
 have⟨i,h1,h2,h3,h4⟩:=aqM (b:=b) l.length l rfl
 grind
def Ea(l:List Nat):bv b (fa l)=bv b l:=by
 have⟨_,_,_,_,h⟩:=RM (b:=b) l;exact h
def Eb(l:List Nat):jm (fa l):=by
 have⟨_,_,_,h,_⟩:=RM (b:=2) l;exact h
def Ec(h:lo b l):lo b (fa l):=by
 have⟨i,_,h2,_⟩:=RM (b:=b) l;rw[h2];exact Eh h i
def arX(l:List Nat):(fa l).length<=l.length:=by
 have⟨i,_,h2,_⟩:=RM (b:=2) l
 grind
def R3(h:jm l)(h0:l≠[]):l.getD (l.length-1) 0≠0:=by
 rcases snoc l with rfl | ⟨m,a,rfl⟩
 .grind
 .intro ha
  have:a=0:=by
   grind
  subst this;have e:=congrArg tK h;rw[RA] at e
  have:=arX m
  grind
def Zu(hb:0<b)(h:jm l)(h0:l≠[]):b^(l.length-1)<=bv b l:=by
 rcases snoc l with rfl | ⟨m,a,rfl⟩
 .grind
 .have ha:=R3 h h0;simp[yW] at ha;rw[Br,Es];simp only[yE,uK,uR]
  have:=yZ (b^m.length) (show 1<=a by lia)
  lia
def SB(hb:1<b)(hl:lo b l)(hm:jm m)(h:l.length<m.length):bv b l<bv b m:=by
 have h1:=qd hl;have h2:=Zu (b:=b) (by lia) hm (fun e=>by subst e;simp at h);have h3:b^l.length<=b^(m.length-1):=y9 (by lia) (by lia)
 lia
def ait(hl:lo b l)(h1:i<l.length)(h2:i<m.length)(he:l.drop (i+1)=m.drop (i+1))(h:l.getD i 0<m.getD i 0):bv b l<bv b m:=by
 rw[MY l (i+1) (by lia),MY m (i+1) (by lia),he,lP,lP]
 have:=qd (Eh hl i)
 have:=yZ (b^i) (show l.getD i 0+1<=m.getD i 0 from h)
 grind
def arY(hb:1<b){k:Nat}(h:jm l)(hk:bv b l<b^k):l.length<=k:=by
 by_cases h0:l=[]
 .grind
 .have h1:=Zu (b:=b) (by lia) h h0;have h2:b^(l.length-1)<b^k:=wM h1 hk
  have:=(tH hb).1 h2
  lia
def afk{t r:Nat}(hV:V=(v1*b+v2)*p+vr)(hU:U=((u0*b+u1)*b+u2)*p+ur)(hur:ur<p)(ht:t*v1+r=u0*b+u1)(h:r*b+u2<t*v2):U/V<=t-1:=by
 have h1:U<t*V:=by
  have e:t*((v1*b+v2)*p)=((t*v1)*b+t*v2)*p:=by
   grind
  have h2:((u0*b+u1)*b+u2)+1<=(t*v1)*b+t*v2:=by rw[<-ht,xU];lia
  have h3:=yR p h2;rw[hV,hU,xO,e]
  grind
 have Ba:0<V:=by
  grind
 have:=(wE Ba).2 h1
 lia
def agd{t r:Nat}(hb:0<b)(hV:V=(v1*b+v2)*p+vr)(Qa:vr<p)(hU:U=((u0*b+u1)*b+u2)*p+ur)(fS:0<v1)(dC:v2<b)(nM:t<b)(ht:t*v1+r=u0*b+u1)(h:b<=r\/t*v2<=r*b+u2):t<=U/V+1:=by
 have h2:t*v2<=r*b+u2:=by
  rcases h with h | h
  .have:=xo (uh nM) (uh dC)
   have:=yR b h
   lia
  .exact h
 have h3:t*(v1*b+v2)<=(u0*b+u1)*b+u2:=by
  rw[xO,<-xD,<-ht,xU];lia
 have hp:0<p:=by lia
 have aJA:b<=v1*b:=Nat.le_mul_of_pos_left b fS;have Ba:0<V:=by
  have:=ux (show 0<v1*b+v2 by lia) hp
  lia
 rcases xE t with h0 | h0
 .grind
 .obtain ⟨s,rfl⟩:∃s,t=s+1:=⟨t-1,by lia⟩;have h4:s*V<=U:=by
   have h5:V<=(v1*b+v2+1)*p:=by grind
   have h6:=yZ s h5;have h7:s*(v1*b+v2+1)<=(s+1)*(v1*b+v2):=by
    grind
   have h8:=yR p (xB h7 h3)
   grind
  exact Nat.succ_le_succ ((tC Ba).2 h4)
def Xi(hV:V=(v1*b+v2)*p+vr)(hU:U=((u0*b+u1)*b+u2)*p+ur)(hur:ur<p)(DJ:u2<b)(fS:0<v1):U/V<=(u0*b+u1)/v1:=by
 by_cases Ba:V=0
 .grind
 .refine (tC fS).2 ?_;have h1:=Nat.div_mul_le_self U V;generalize U/V=q at h1 ⊢;have h2:q*v1*(b*p)<=q*V:=by
   rw[hV,xD]
   grind
  have h3:U<(u0*b+u1+1)*(b*p):=by
   have:(u0*b+u1)*b+u2+1<=(u0*b+u1+1)*b:=by grind
   have:=yR p this
   grind
  have h4:q*v1*(b*p)<(u0*b+u1+1)*(b*p):=by lia
  have:=uS h4
  lia
def age(hV:V=(v1*b+v2)*p+vr)(hU:U=((u0*b+u1)*b+u2)*p+ur)(Qa:vr<p)(dC:v2<b)(h:U<b*V):u0<=v1:=by
 refine Nat.le_of_lt_succ ?_;have h1:V<(v1+1)*(b*p):=by
  have:v1*b+v2+1<=(v1+1)*b:=by grind
  have:=yR p this
  grind
 have h2:u0*(b*(b*p))<=U:=by
  grind
 have h3:=yZ b (uh h1);have e:b*((v1+1)*(b*p))=(v1+1)*(b*(b*p)):=by grind
 rw[e] at h3;have h4:u0*(b*(b*p))<(v1+1)*(b*(b*p)):=wM h2 (yT h h3);exact uS h4
end
end
section
variable {P:aJ}{L:Lib}{f:cG}{F:Nat->cG}
def FC(f:cG)(F:Nat->cG):Prop:=∀c s r,f c s=Ix r->∃n,F n c s=Ix r
def Mon(F:Nat->cG):Prop:=∀n m,n<=m->Le (F n) (F m)
def Q9(h:FC f F)(n:Nat)(az:List AV)(r:AV)(hr:bM P L f n az=Ix r):∃k,bM P L (F k) n az=Ix r:=by
 unfold bM at hr ⊢
 cases hL:L.pure n with
 | some sp=>exact⟨0,by simpa only[hL] using hr⟩
 | none=>
  simp only[hL] at hr ⊢
  cases hP:P n with
  | none=>simp[hP] at hr
  | some G=>
   simp only[hP] at hr ⊢
   cases hf:f G.body ⟨fY 0 az,[],0,0⟩ with
   | none=>simp[hf] at hr
   | some q=>
    have⟨k,hk⟩:=h _ _ _ hf
    grind
def Xu(h:FC f F)(hp:Hp)(ct:Nat)(n:Nat)(az:List AV)(r:AV×Hp×Nat)(hr:kN P L f hp ct n az=Ix r):∃k,kN P L (F k) hp ct n az=Ix r:=by
 unfold kN at hr ⊢
 cases hL:L.heap n with
 | some sp=>exact⟨0,by simpa only[hL] using hr⟩
 | none=>
  simp only[hL] at hr ⊢
  cases hP:P n with
  | none=>simp[hP] at hr
  | some G=>
   simp only[hP] at hr ⊢
   cases hf:f G.body ⟨fY 0 az,hp,ct,ct⟩ with
   | none=>simp[hf] at hr
   | some q=>
    have⟨k,hk⟩:=h _ _ _ hf
    grind
def aeQ(h:FC f F)(hm:Mon F)(hp:Hp)(ct:Nat)(l:Nat)(xs:List AV)(r:AV×Hp×Nat)(hr:se f hp ct l xs=Ix r):∃k,se (F k) hp ct l xs=Ix r:=by
 have key:∃k,∀g,Le (F k) g->se g hp ct l xs=Ix r:=by
  unfold se at hr
  cases hl:au hp l with
  | none=>simp[hl] at hr
  | some o=>
   split at hr
   .rename_i tm ps cX body pe A6
    cases hb:BA tm ps xs with
    | none=>simp[hb] at hr
    | some tm'=>
     simp only[hb] at hr
     cases h1:f cX ⟨tm',hp,ct,ct⟩ with
     | none=>simp[h1] at hr
     | some q=>
      have⟨k1,rM⟩:=h _ _ _ h1
      split at hr
      .rename_i s1 aDv
       split at hr
       .rename_i mi HJ Fp G1 Dw aDw
        cases h2:f body ⟨s1.tm,aV s1.hp l (.lp mi HJ Fp G1 1 Dw),s1.ct,s1.ct⟩ with
        | none=>simp[h2] at hr
        | some q2=>
         have⟨k2,DB⟩:=h _ _ _ h2;refine⟨max k1 k2,fun g hg=>?_⟩;have e1:=hg _ _ _ (hm k1 _ (uL k1 k2) _ _ _ rM);have e2:=hg _ _ _ (hm k2 _ (uF k1 k2) _ _ _ DB);unfold se
         grind
       .simp at hr
      .simp at hr
   .simp at hr
 have⟨k,hk⟩:=key;exact⟨k,hk _ (fun _ _ _ h=>h)⟩
def afl(h:FC f F)(hm:Mon F)(hp:Hp)(ct:Nat)(m:Md)(fv:AV)(xs:List AV)(r:AV×Hp×Nat)(hr:fP P L f hp ct m fv xs=Ix r):∃k,fP P L (F k) hp ct m fv xs=Ix r:=by
 unfold fP at hr ⊢
 split at hr
 .rename_i n first cap
  cases m with
  | pure=>
   cases hz:cm deep hp (first++(xs++cap)) with
   | none=>simp[hz] at hr
   | some q=>
    simp only[hz] at hr ⊢
    cases hc:bM P L f n q.1 with
    | none=>simp[hc] at hr
    | some u=>
     have⟨k,hk⟩:=Q9 h n q.1 u hc
     grind
  | own=>
   cases hz:cm deep hp (first++(xs++cap)) with
   | none=>simp[hz] at hr
   | some q=>
    simp only[hz] at hr ⊢
    cases hc:bM P L f n q.1 with
    | none=>simp[hc] at hr
    | some u=>
     have⟨k,hk⟩:=Q9 h n q.1 u hc
     grind
  | heap=>exact Xu h _ _ _ _ _ hr
  | dyn=>
   cases hz:aD (first++(xs++cap)) with
   | true=>
    simp only[hz,yN] at hr ⊢
    cases hc:bM P L f n (first++(xs++cap)) with
    | none=>simp[hc] at hr
    | some u=>
     have⟨k,hk⟩:=Q9 h n _ u hc
     grind
   | false=>
    simp only[hz,y5] at hr ⊢;exact Xu h _ _ _ _ _ hr
 .split at hr
  .exact aeQ h hm _ _ _ _ _ hr
  .exact aeQ h hm _ _ _ _ _ hr
  .simp at hr
 .simp at hr
def atY(h:FC f F)(hm:Mon F)(tm:Env)(hp:Hp)(ct:Nat)(o:Op)(r:AV×Hp×Nat)(hr:bq P L f tm hp ct o=Ix r):∃k,bq P L (F k) tm hp ct o=Ix r:=by
 unfold bq at hr ⊢
 split at hr
 .exact afl h hm _ _ _ _ _ _ hr
 .rename_i rs fv xs
  cases hc:fP P L f hp ct .dyn (aC tm fv) (dU tm xs) with
  | none=>simp[hc] at hr
  | some q=>
   have⟨k,hk⟩:=afl h hm _ _ _ _ _ _ hc
   grind
 all_goals exact⟨0,by simpa only using hr⟩
def XT(h:FC f F)(hm:Mon F):∀(ops:List bk) (s s':St),eC P L f ops s=Ix s'->∃k,eC P L (F k) ops s=Ix s'
 | [],s,s',hr=>⟨0,by simpa only[eC] using hr⟩
 | ⟨d,gd,o⟩::r,s,s',hr=>by
  simp only[eC] at hr ⊢
  split at hr
  .rename_i hw
   cases ho:bq P L f s.tm s.hp s.ct o with
   | none=>simp[ho] at hr
   | some q=>
    have⟨k1,rM⟩:=atY h hm _ _ _ _ _ ho;simp only[ho] at hr;have⟨k2,DB⟩:=XT h hm r _ _ hr;refine⟨max k1 k2,?_⟩;rw[af5 (hm k1 _ (uL k1 k2)) _ _ _ _ _ rM];exact Rv (hm k2 _ (uF k1 k2)) r _ _ DB
  .rename_i hw;exact XT h hm r _ _ hr
  .simp at hr
def F9(h:FC f F)(hm:Mon F):∀(c:VC) (s:St) (r:Ex×St),bH P L f c s=Ix r->∃k,bH P L (F k) c s=Ix r
 | .skip,s,r,hr=>⟨0,by simpa only[bH] using hr⟩
 | .oB ops,s,r,hr=>by
  simp only[bH] at hr ⊢
  cases ho:eC P L f ops s with
  | none=>simp[ho] at hr
  | some s'=>
   have⟨k,hk⟩:=XT h hm _ _ _ ho
   grind
 | .seq a b,s,r,hr=>by
  simp only[bH] at hr ⊢
  cases ha:bH P L f a s with
  | none=>simp[ha] at hr
  | some q=>
   have⟨k1,rM⟩:=F9 h hm a s q ha;have⟨ex,s1⟩:=q
   cases ex with
   | normal=>
    simp only[ha] at hr;have⟨k2,DB⟩:=F9 h hm b s1 r hr;refine⟨max k1 k2,?_⟩;rw[Ar (hm k1 _ (uL k1 k2)) a s _ rM];exact Ar (hm k2 _ (uF k1 k2)) b s1 r DB
   | ret=>exact⟨k1,by rw[rM];simpa only[ha] using hr⟩
   | exit id=>exact⟨k1,by rw[rM];simpa only[ha] using hr⟩
 | .cond x a b,s,r,hr=>by
  simp only[bH] at hr ⊢
  split at hr
  .rename_i t ht
   cases t with
   | true=>simp only[yN] at hr ⊢;exact F9 h hm a s r hr
   | false=>simp only[y5] at hr ⊢;exact F9 h hm b s r hr
  .simp at hr
 | .jj id a,s,r,hr=>by
  simp only[bH] at hr ⊢
  cases ha:bH P L f a s with
  | none=>simp[ha] at hr
  | some q=>
   have⟨k,hk⟩:=F9 h hm a s q ha
   grind
 | .kp live,s,r,hr=>⟨0,by simpa only[bH] using hr⟩
 | .fz ts,s,r,hr=>⟨0,by simpa only[bH] using hr⟩
 | .loop live a,s,r,hr=>by
  simp only[bH] at hr ⊢
  cases ha:bH P L f a (bW live s) with
  | none=>simp[ha] at hr
  | some q=>
   have⟨k1,rM⟩:=F9 h hm a _ q ha;have⟨ex,s1⟩:=q
   cases ex with
   | normal=>
    simp only[ha] at hr;have⟨k2,DB⟩:=h _ _ _ hr;refine⟨max k1 k2,?_⟩;rw[Ar (hm k1 _ (uL k1 k2)) a _ _ rM];exact hm k2 _ (uF k1 k2) _ _ _ DB
   | ret=>exact⟨k1,by rw[rM];simpa only[ha] using hr⟩
   | exit id=>exact⟨k1,by rw[rM];simpa only[ha] using hr⟩
 | .rf fv ps cX body,s,r,hr=>by
  simp only[bH] at hr ⊢
  split at hr
  .rename_i n first cap hx
   split at hr
   .grind
   .rename_i hL
    cases hc:kN P L f ((s.ct,.lp s.tm ps cX body 0 .none)::s.hp) (s.ct+1) n (first++(.fn (.y s.ct) [] []::cap)) with
    | none=>simp[hc] at hr
    | some q=>
     have⟨k,hk⟩:=Xu h _ _ _ _ _ hc
     grind
  .simp at hr
 | .exit id,s,r,hr=>⟨0,by simpa only[bH] using hr⟩
 | .ret,s,r,hr=>⟨0,by simpa only[bH] using hr⟩
end
section
variable (P:aJ)(L:Lib)
noncomputable def D:cG:=fun c s=>@dite _ (∃r n,ev P L n c s=Ix r) (Classical.propDecidable _) (fun h=>Ix h.choose) (fun _=>Iy)
variable {P L}
def al3{c:VC}{s:St}{r:Ex×St}{n:Nat}(h:ev P L n c s=Ix r):D P L c s=Ix r:=by
 have hx:∃r n,ev P L n c s=Ix r:=⟨r,n,h⟩;unfold D;have⟨m,hm⟩:=hx.choose_spec;have e1:=YP P L (uL n m) _ _ _ h;have e2:=YP P L (uF n m) _ _ _ hm
 grind
def aa6{c:VC}{s:St}{r:Ex×St}(h:D P L c s=Ix r):∃n,ev P L n c s=Ix r:=by
 unfold D at h;by_cases hx:∃r n,ev P L n c s=Ix r
 .grind
 .grind
def aDJ(n:Nat):Le (ev P L n) (D P L):=fun _ _ _ h=>al3 h
def akX:FC (D P L) (ev P L):=fun _ _ _ h=>aa6 h
def ayR:Mon (ev P L):=fun _ _ h=>YP P L h
def pn(c:VC)(s:St):D P L c s=bH P L (D P L) c s:=by
 cases h:D P L c s with
 | some r=>
  have⟨n,hn⟩:=aa6 h
  cases n with
  | zero=>rw[Nh] at hn;cases hn
  | succ n=>rw[SA] at hn;exact (Ar (aDJ n) c s r hn).symm
 | none=>
  cases hs:bH P L (D P L) c s with
  | none=>rfl
  | some r=>
   have⟨n,hn⟩:=F9 akX ayR c s r hs;rw[<-SA] at hn;rw[al3 hn] at h;cases h
def ajr{f:Nat}{r:AV}(h:bM P L (D P L) f az=Ix r):∃n,evF P L n f az=Ix r:=Q9 akX f az r h
end
section
open Go (IntKind BinOp UnOp)
structure Has(P:aJ)(L:Lib)(n:Nat)(F:aw):Prop where
 pure:L.pure n=Iy
 heap:L.heap n=Iy
 code:P n=Ix F
noncomputable def ju(P:aJ)(L:Lib)(r:Option (Ex×St))(b:VC):Option (Ex×St):=match r with | some (.normal,s)=>D P L b s | r=>r
def og(id:Nat)(r:Option (Ex×St)):Option (Ex×St):=match r with | some (.exit j,s)=>bif yG j id then Ix (.normal,s) else Ix (.exit j,s) | r=>r
noncomputable def Ov(P:aJ)(L:Lib)(live:List Nat)(a:VC)(r:Option (Ex×St)):Option (Ex×St):=match r with | some (.normal,s)=>D P L (.loop live a) s | r=>r
def norm(r:Option St):Option (Ex×St):=match r with | some s=>Ix (.normal,s) | none=>Iy
noncomputable def TE(P:aJ)(L:Lib)(v:AV)(a b:VC)(s:St):Option (Ex×St):=match v with | .bool t=>bif t then D P L a s else D P L b s | _=>Iy
def ayS(s:St):D P L .skip s=Ix (.normal,s):=by rw[pn];rfl
def ayT(id:Nat)(s:St):D P L (.exit id) s=Ix (.exit id,s):=by rw[pn];rfl
def aBJ(s:St):D P L .ret s=Ix (.ret,s):=by rw[pn];rfl
def al4(live:List Nat)(s:St):D P L (.kp live) s=Ix (.normal,bW live s):=by rw[pn];rfl
def aDK(ts:List Nat)(s:St):D P L (.fz ts) s=norm (zM ts s):=by rw[pn];rfl
def aBK(ops:List bk)(s:St):D P L (.oB ops) s=norm (eC P L (D P L) ops s):=by rw[pn];rfl
def nv(a b:VC)(s:St):D P L (.seq a b) s=ju P L (D P L a s) b:=by
 rw[pn,pn a];simp only[bH,ju]
 cases bH P L (D P L) a s with
 | none=>rfl
 | some q=>
  have⟨e,s1⟩:=q
  cases e with
  | normal=>exact (pn b s1).symm
  | ret=>rfl
  | exit id=>rfl
def ayU(x:X)(a b:VC)(s:St):D P L (.cond x a b) s=TE P L (aC s.tm x) a b s:=by
 rw[pn];simp only[bH,TE]
 cases aC s.tm x with
 | bool t=>
  cases t with
  | true=>exact (pn a s).symm
  | false=>exact (pn b s).symm
 | _=>rfl
def aBL(id:Nat)(a:VC)(s:St):D P L (.jj id a) s=og id (D P L a s):=by
 rw[pn,pn a];simp only[bH,og]
 cases bH P L (D P L) a s with
 | none=>rfl
 | some q=>have⟨e,s1⟩:=q;cases e<;>rfl
def S7(live:List Nat)(a:VC)(s:St):D P L (.loop live a) s=Ov P L live a (D P L a (bW live s)):=by
 rw[pn,pn a];simp only[bH,Ov]
 cases bH P L (D P L) a (bW live s) with
 | none=>rfl
 | some q=>have⟨e,s1⟩:=q;cases e<;>rfl
def il(s:St)(b:VC):ju P L (Ix (.normal,s)) b=D P L b s:=rfl
def awi(s:St)(b:VC):ju P L (Ix (.ret,s)) b=Ix (.ret,s):=rfl
def awj(id:Nat)(s:St)(b:VC):ju P L (Ix (.exit id,s)) b=Ix (.exit id,s):=rfl
def aiu(live:List Nat)(a:VC)(s:St):Ov P L live a (Ix (.normal,s))=D P L (.loop live a) s:=rfl
def awk(live:List Nat)(a:VC)(s:St):Ov P L live a (Ix (.ret,s))=Ix (.ret,s):=rfl
def awl(live:List Nat)(a:VC)(id:Nat)(s:St):Ov P L live a (Ix (.exit id,s))=Ix (.exit id,s):=rfl
def awm(id:Nat)(s:St):og id (Ix (.normal,s))=Ix (.normal,s):=rfl
def awn(id:Nat)(s:St):og id (Ix (.ret,s))=Ix (.ret,s):=rfl
def aiv(id:Nat)(s:St):og id (Ix (.exit id,s))=Ix (.normal,s):=by simp only[og,vd,yN]
def awo{id j:Nat}(s:St)(h:j≠id):og id (Ix (.exit j,s))=Ix (.exit j,s):=by
 have:yG j id=ycP:=by
  cases hq:yG j id with
  | false=>rfl
  | true=>exact absurd (yz hq) h
 simp only[og,this,y5]
def ayV(s:St):norm (Ix s)=Ix (.normal,s):=rfl
def ayW:norm Iy=Iy:=rfl
def awp(a b:VC)(s:St):TE P L (.bool ycO) a b s=D P L a s:=rfl
def awq(a b:VC)(s:St):TE P L (.bool ycP) a b s=D P L b s:=rfl
noncomputable def Z6(P:aJ)(L:Lib)(d:Option Nat)(r:List bk)(tm:Env)(base:Nat)(q:iS):Option St:=
 match q with | some (v,hp,ct)=>eC P L (D P L) r ⟨put d v tm,hp,ct,base⟩ | none=>Iy
noncomputable def GP(P:aJ)(L:Lib)(v:AV)(b:Bool)(d:Option Nat)(o:Op)(r:List bk)(s:St):Option St:=
 match v with
 | .bool c=>bif c==b then eC P L (D P L) (⟨d,Iy,o⟩::r) s else eC P L (D P L) r ⟨put d (.ax []) s.tm,s.hp,s.ct,s.base⟩
 | .ax []=>eC P L (D P L) r ⟨put d (.ax []) s.tm,s.hp,s.ct,s.base⟩
 | _=>Iy
def awr(s:St):eC P L (D P L) [] s=Ix s:=rfl
def atZ(d:Option Nat)(o:Op)(r:List bk)(tm:Env)(hp:Hp)(ct base:Nat):
  eC P L (D P L) (⟨d,Iy,o⟩::r) ⟨tm,hp,ct,base⟩=Z6 P L d r tm base (bq P L (D P L) tm hp ct o):=by
 simp only[eC,Z6]
 grind
def arZ(d:Option Nat)(t:Nat)(b:Bool)(o:Op)(r:List bk)(tm:Env)(hp:Hp)(ct base:Nat):
  eC P L (D P L) (⟨d,Ix (t,b),o⟩::r) ⟨tm,hp,ct,base⟩=GP P L (ab tm t) b d o r ⟨tm,hp,ct,base⟩:=by
 simp only[eC,GP]
 cases ab tm t with
 | bool c=>
  simp only
  cases hc:(c==b) with
  | true=>simp only[yN]
  | false=>simp only[y5]
 | ax vs=>cases vs<;>rfl
 | _=>rfl
def aws(d:Option Nat)(r:List bk)(tm:Env)(base:Nat)(v:AV)(hp:Hp)(ct:Nat):Z6 P L d r tm base (Ix (v,hp,ct))=eC P L (D P L) r ⟨put d v tm,hp,ct,base⟩:=rfl
def aBM(i:Nat)(v:AV)(tm:Env):put (Ix i) v tm=(i,v)::tm:=rfl
def aBN(v:AV)(tm:Env):put Iy v tm=tm:=rfl
def at0(d:Option Nat)(o:Op)(r:List bk)(s:St):GP P L (.bool ycO) ycO d o r s=eC P L (D P L) (⟨d,Iy,o⟩::r) s:=rfl
def at1(d:Option Nat)(o:Op)(r:List bk)(s:St):GP P L (.bool ycP) ycP d o r s=eC P L (D P L) (⟨d,Iy,o⟩::r) s:=rfl
def at2(d:Option Nat)(o:Op)(r:List bk)(tm:Env)(hp:Hp)(ct base:Nat):GP P L (.bool ycO) ycP d o r ⟨tm,hp,ct,base⟩=eC P L (D P L) r ⟨put d (.ax []) tm,hp,ct,base⟩:=rfl
def at3(d:Option Nat)(o:Op)(r:List bk)(tm:Env)(hp:Hp)(ct base:Nat):GP P L (.bool ycP) ycO d o r ⟨tm,hp,ct,base⟩=eC P L (D P L) r ⟨put d (.ax []) tm,hp,ct,base⟩:=rfl
def awt(b:Bool)(d:Option Nat)(o:Op)(r:List bk)(tm:Env)(hp:Hp)(ct base:Nat):GP P L (.ax []) b d o r ⟨tm,hp,ct,base⟩=eC P L (D P L) r ⟨put d (.ax []) tm,hp,ct,base⟩:=rfl
def jL{j i:Nat}(h:j≠i):yG j i=ycP:=by
 cases hq:yG j i with
 | false=>rfl
 | true=>exact absurd (yz hq) h
def ayX(tm:Env)(i:Nat):aC tm (.t i)=ab tm i:=rfl
def ayY(tm:Env)(v:AV):aC tm (.c v)=v:=rfl
def ar0(tm:Env):dU tm []=[]:=rfl
def aqN(tm:Env)(x:X)(r:List X):dU tm (x::r)=aC tm x::dU tm r:=rfl
def at4(i:Nat)(v:AV)(r:Env):ab ((i,v)::r) i=v:=by simp only[ab,vd,yN]
def ar1{j i:Nat}(v:AV)(r:Env)(h:j≠i):ab ((j,v)::r) i=ab r i:=by simp only[ab,jL h,y5]
def fq(i:Nat)(o:Obj)(r:Hp):au ((i,o)::r) i=Ix o:=by simp only[au,vd,yN]
def fO{j i:Nat}(o:Obj)(r:Hp)(h:j≠i):au ((j,o)::r) i=au r i:=by simp only[au,jL h,y5]
def ahc(i:Nat)(o u:Obj)(r:Hp):aV ((i,o)::r) i u=(i,u)::r:=by simp only[aV,vd,yN]
def XU{j i:Nat}(o u:Obj)(r:Hp)(h:j≠i):aV ((j,o)::r) i u=(j,o)::aV r i u:=by simp only[aV,jL h,y5]
def at5(i:Nat):eJ [] i=[]:=rfl
def ahd(i:Nat)(o:Obj)(r:Hp):eJ ((i,o)::r) i=eJ r i:=by simp only[eJ,vd,yN]
def agf{j i:Nat}(o:Obj)(r:Hp)(h:j≠i):eJ ((j,o)::r) i=(j,o)::eJ r i:=by simp only[eJ,jL h,y5]
def rd(hp:Hp)(ct:Nat)(q:Option AV):iS:=match q with | some v=>Ix (v,hp,ct) | none=>Iy
def mk(hp:Hp)(ct:Nat)(q:Option (AV×Obj)):iS:=match q with | some (v,b)=>Ix (v,(ct,b)::hp,ct+1) | none=>Iy
def aDL(hp:Hp)(ct:Nat)(v:AV):rd hp ct (Ix v)=Ix (v,hp,ct):=rfl
def aDM(hp:Hp)(ct:Nat)(v:AV)(b:Obj):mk hp ct (Ix (v,b))=Ix (v,(ct,b)::hp,ct+1):=rfl
def Z7(c a b:AV):Option AV:=match c with | .bool t=>Ix (bif t then a else b) | _=>Iy
def Qb(k:Nat->Option AV)(n:Option Nat):Option AV:=match n with | some i=>k i | none=>Iy
def akY(r:Option (List AV)):Option AV:=match r with | some cs=>Ix (.agg cs) | none=>Iy
def O7(ne:Bool)(r:Option Bool):Option AV:=match r with | some b=>Ix (.bool (ne !=b)) | none=>Iy
def aDN:AV->Option AV
 | .ptr id o=>Ix (.ptr id o)
 | .aQ cs=>Ix (.aQ cs)
 | .fn f a b=>Ix (.fn f a b)
 | _=>Iy
def O8(i:Nat):AV->Option AV | .ax vs=>vs[i]? | _=>Iy
section
variable {f:cG}{tm:Env}{hp:Hp}{ct:Nat}
def ayZ(x:X):bq P L f tm hp ct (.A0 x)=Ix (aC tm x,hp,ct):=rfl
def awu(c a b:X):bq P L f tm hp ct (.pick c a b)=rd hp ct (Z7 (aC tm c) (aC tm a) (aC tm b)):=by
 rfl
def at6(z:List AV)(ps:List (Nat×Nat×X)):bq P L f tm hp ct (.EA z ps)=rd hp ct (akY (fill tm z ps)):=by
 rfl
def aBO(sz:Nat)(ag:Bool)(x:X):bq P L f tm hp ct (.ld sz ag x)=rd hp ct (jx hp sz ag (aC tm x)):=rfl
def awv(x:X):bq P L f tm hp ct (.Oz x)=rd hp ct (aDN (aC tm x)):=by
 rfl
def ay0(op:BinOp)(x y:X):bq P L f tm hp ct (.bin op x y)=rd hp ct (binOp op (aC tm x) (aC tm y)):=rfl
def aBP(ne:Bool)(k:VF)(x y:X):bq P L f tm hp ct (.eq ne k x y)=rd hp ct (O7 ne (mf k (aC tm x) (aC tm y))):=by
 rfl
def aBQ(op:UnOp)(x:X):bq P L f tm hp ct (.un op x)=rd hp ct (unOp op (aC tm x)):=rfl
def aBR(k:Conv)(x:X):bq P L f tm hp ct (.cv k x)=rd hp ct (zR k (aC tm x)):=rfl
def ay1(g:Fr)(a b:List X):bq P L f tm hp ct (.KC g a b)=Ix (.fn g (dU tm a) (dU tm b),hp,ct):=rfl
def Jt(k:Cut)(x:X)(lo hi:Option X):bq P L f tm hp ct (.Aa k x lo hi)=rd hp ct (gI hp k (aC tm x) tm lo hi):=rfl
def ay2(k:Nat)(x:X):bq P L f tm hp ct (.off k x)=rd hp ct (JB k (aC tm x)):=rfl
def ay3(o sz:Nat)(ag:Bool)(x:X):bq P L f tm hp ct (.PF o sz ag x)=rd hp ct (Tk o sz ag (aC tm x)):=rfl
def ay4(sz:Nat)(x i:X):bq P L f tm hp ct (.aT sz x i)=rd hp ct (Qb (fun j=>iZ sz j (aC tm x)) (dM (aC tm i))):=by
 rfl
def ay5(n sz:Nat)(x i:X):bq P L f tm hp ct (.KD n sz x i)=rd hp ct (Qb (fun j=>Tl n sz j (aC tm x)) (dM (aC tm i))):=by
 rfl
def ay6(x i:X):bq P L f tm hp ct (.KE x i)=rd hp ct (Qb (fun j=>rm j (aC tm x)) (dM (aC tm i))):=by
 rfl
def ay7(n sz:Nat)(ag:Bool)(x i:X):bq P L f tm hp ct (.Dv n sz ag x i)=rd hp ct (Qb (fun j=>N7 n sz ag j (aC tm x)) (dM (aC tm i))):=by
 rfl
def ay8(i:Nat)(x:X):bq P L f tm hp ct (.ext i x)=rd hp ct (O8 i (aC tm x)):=by
 rfl
def ay9(k:Nat)(x:X):bq P L f tm hp ct (.len k x)=rd hp ct (fu hp k (aC tm x)):=rfl
def aza(sz:Nat)(x:X):bq P L f tm hp ct (.box sz x)=mk hp ct (dh tm hp ct (.box sz x)):=rfl
def aww(n sz:Nat)(z:List AV)(ps:List (Nat×Nat×X)):bq P L f tm hp ct (.sD n sz z ps)=mk hp ct (dh tm hp ct (.sD n sz z ps)):=rfl
def azb(sz by':Nat)(z:List AV)(l c:X):bq P L f tm hp ct (.sM sz by' z l c)=mk hp ct (dh tm hp ct (.sM sz by' z l c)):=rfl
def ajs:bq P L f tm hp ct .Du=Ix (.map ct,(ct,.mp ycO [] [])::hp,ct+1):=rfl
def azc(x:X):bq P L f tm hp ct (.Ab x)=mk hp ct (dh tm hp ct (.Ab x)):=rfl
def aBS(sz:Nat)(x v:X):bq P L f tm hp ct (.st sz x v)=du tm hp ct (.st sz x v):=rfl
def azd(sz by':Nat)(s x:X):bq P L f tm hp ct (.kD sz by' s x)=du tm hp ct (.kD sz by' s x):=rfl
def TF(hp:Hp)(ct:Nat)(r:Option AV):iS:=match r with | some v=>Ix (shut v,hp,ct) | none=>Iy
def U2(hp:Hp)(ct:Nat)(r:Option AV):iS:=match r with | some v=>Ix (own hp ct v) | none=>Iy
def Z8(P:aJ)(L:Lib)(f:cG)(ct n:Nat)(q:Option (List AV×Hp)):iS:=match q with | some (az,hp)=>TF hp ct (bM P L f n az) | none=>Iy
def Z9(P:aJ)(L:Lib)(f:cG)(ct n:Nat)(q:Option (List AV×Hp)):iS:=match q with | some (az,hp)=>U2 hp ct (bM P L f n az) | none=>Iy
def aaa(P:aJ)(L:Lib)(f:cG)(hp:Hp)(ct:Nat)(fv:AV)(xs:List AV):iS:=fP P L f hp ct .pure fv xs
def aab(P:aJ)(L:Lib)(f:cG)(hp:Hp)(ct:Nat)(fv:AV)(xs:List AV):iS:=fP P L f hp ct .own fv xs
def at7(g:X)(xs:List X):bq P L f tm hp ct (.call .pure g xs)=aaa P L f hp ct (aC tm g) (dU tm xs):=rfl
def aua(g:X)(xs:List X):bq P L f tm hp ct (.call .own g xs)=aab P L f hp ct (aC tm g) (dU tm xs):=rfl
def aub(g:X)(xs:List X):bq P L f tm hp ct (.call .heap g xs)=fP P L f hp ct .heap (aC tm g) (dU tm xs):=rfl
def awx(n:Nat)(first cap xs:List AV):aaa P L f hp ct (.fn (.f n) first cap) xs=Z8 P L f ct n (cm deep hp (first++(xs++cap))):=by
 simp only[aaa,fP,Z8,TF]
 cases cm deep hp (first++(xs++cap)) with
 | none=>rfl
 | some q=>cases bM P L f n q.1<;>rfl
def awy(n:Nat)(first cap xs:List AV):aab P L f hp ct (.fn (.f n) first cap) xs=Z9 P L f ct n (cm deep hp (first++(xs++cap))):=by
 simp only[aab,fP,Z9,U2]
 cases cm deep hp (first++(xs++cap)) with
 | none=>rfl
 | some q=>cases bM P L f n q.1<;>rfl
def awz(n:Nat)(az:List AV):Z8 P L f ct n (Ix (az,hp))=TF hp ct (bM P L f n az):=rfl
def awA(n:Nat)(az:List AV):Z9 P L f ct n (Ix (az,hp))=U2 hp ct (bM P L f n az):=rfl
def awB(v:AV):TF hp ct (Ix v)=Ix (shut v,hp,ct):=rfl
def aze(v:AV):U2 hp ct (Ix v)=Ix (own hp ct v):=rfl
def U3(hp:Hp)(r:Option AV):Option AV:=match r with | some v=>result hp v | none=>Iy
def fp(rs:List RV)(q:Option (Ex×St)):Option AV:=
 match q with
 | some (.normal,s) | some (.ret,s)=>U3 s.hp (kJ s rs)
 | _=>Iy
def aB{n:Nat}{F:aw}(h:Has P L n F)(az:List AV):bM P L f n az=fp F.eG (f F.body ⟨fY 0 az,[],0,0⟩):=by
 simp only[bM,h.pure,h.code]
 cases hq:f F.body ⟨fY 0 az,[],0,0⟩ with
 | none=>rfl
 | some q=>
  have⟨e,s⟩:=q
  cases e with
  | normal=>rfl
  | ret=>rfl
  | exit id=>rfl
def azf(rs:List RV)(s:St):fp rs (Ix (.normal,s))=U3 s.hp (kJ s rs):=rfl
def azg(rs:List RV)(s:St):fp rs (Ix (.ret,s))=U3 s.hp (kJ s rs):=rfl
def azh(v:AV):U3 hp (Ix v)=result hp v:=rfl
def aa7(r:RV)(s:St):kJ s [r]=results1 s r:=by
 simp only[kJ,oQ];cases results1 s r<;>rfl
def al5(r:Option (List AV)):Option AV:=match r with | some vs=>Ix (.ax vs) | none=>Iy
def aDO(r q:RV)(l:List RV)(s:St):kJ s (r::q::l)=al5 (oQ s (r::q::l)):=by
 simp only[kJ,oQ];cases results1 s r<;>cases results1 s q<;>cases oQ s l<;>rfl
def akZ(r:Option AV)(l:Option (List AV)):Option (List AV):=match r,l with | some v,Ix vs=>Ix (v::vs) | _,_=>Iy
def auc(s:St):oQ s []=Ix []:=rfl
def ar2(r:RV)(l:List RV)(s:St):oQ s (r::l)=akZ (results1 s r) (oQ s l):=rfl
def awC(v:AV)(vs:List AV):akZ (Ix v) (Ix vs)=Ix (v::vs):=rfl
def azi(vs:List AV):al5 (Ix vs)=Ix (.ax vs):=rfl
def aac(i:Nat)(s:St):results1 s (.t i)=Ix (ab s.tm i):=rfl
def aBT(a:AV):fY 0 [a]=[(0,a)]:=rfl
def aBU(a b:AV):fY 0 [a,b]=[(0,a),(1,b)]:=rfl
def aBV(a b c:AV):fY 0 [a,b,c]=[(0,a),(1,b),(2,c)]:=rfl
def aBW(a b c d:AV):fY 0 [a,b,c,d]=[(0,a),(1,b),(2,c),(3,d)]:=rfl
def aBX(a b c d e:AV):fY 0 [a,b,c,d,e]=[(0,a),(1,b),(2,c),(3,d),(4,e)]:=rfl
def aqO(k:xh)(n:Int):result hp (.int k n)=Ix (.int k n):=rfl
def aql(b:Bool):result hp (.bool b)=Ix (.bool b):=rfl
def aqP(s:List Nat):result hp (.str s)=Ix (.str s):=rfl
def aqm:result hp .ae=Ix .ae:=rfl
def aqQ(e:Bool)(n:Nat)(cs:List AV):result hp (.aF e n cs)=Ix (.aF e n cs):=rfl
def shut_int(k:xh)(n:Int):shut (.int k n)=.int k n:=rfl
def shut_bool(b:Bool):shut (.bool b)=.bool b:=rfl
def aud(s:List Nat):shut (.str s)=.str s:=rfl
def ar3:shut .ae=.ae:=rfl
def aue(e:Bool)(n:Nat)(cs:List AV):shut (.aF e n cs)=.aF e n cs:=rfl
def R4(e:Bool)(sz n:Nat)(cs:List AV):shut (.bR e sz n cs)=.aF e n cs:=rfl
def bf(cs:List AV):shut (.agg cs)=.agg cs:=rfl
def awD(g:Fr)(a b:List AV):shut (.fn g a b)=.fn g a b:=rfl
def r9(vs:List AV):shut (.ax vs)=.ax (G0 vs):=rfl
def IN:G0 []=[]:=rfl
def II(v:AV)(r:List AV):G0 (v::r)=cd v::G0 r:=rfl
def ar4(k:xh)(n:Int):cd (.int k n)=.int k n:=rfl
def aqR(b:Bool):cd (.bool b)=.bool b:=rfl
def ar5(s:List Nat):cd (.str s)=.str s:=rfl
def aqS:cd .ae=.ae:=rfl
def ar6(e:Bool)(n:Nat)(cs:List AV):cd (.aF e n cs)=.aF e n cs:=rfl
def ar7(e:Bool)(sz n:Nat)(cs:List AV):cd (.bR e sz n cs)=.aF e n cs:=rfl
def D7(cs:List AV):cd (.agg cs)=.agg cs:=rfl
def aa8(n:Nat)(r:List AV)(q:Option (AV×Hp)):Option (List AV×Hp):=match q with | some (v,hp)=>(match cm n hp r with | some (vs,ff)=>Ix (v::vs,ff) | none=>Iy) | none=>Iy
def al6(v:AV)(q:Option (List AV×Hp)):Option (List AV×Hp):=match q with | some (vs,hp)=>Ix (v::vs,hp) | none=>Iy
def auf(n:Nat):cm (n+1) hp []=Ix ([],hp):=rfl
def agh(n:Nat)(v:AV)(r:List AV):cm (n+1) hp (v::r)=aa8 n r (freeze n hp v):=by
 simp only[cm,aa8];cases freeze n hp v<;>rfl
def ajt(n:Nat)(r:List AV)(v:AV):aa8 n r (Ix (v,hp))=al6 v (cm n hp r):=by
 rfl
def aju(v:AV)(vs:List AV):al6 v (Ix (vs,hp))=Ix (v::vs,hp):=rfl
def awE(n:Nat)(k:xh)(a:Int):freeze (n+1) hp (.int k a)=Ix (.int k a,hp):=rfl
def aug(n:Nat)(b:Bool):freeze (n+1) hp (.bool b)=Ix (.bool b,hp):=rfl
def awF(n:Nat)(s:List Nat):freeze (n+1) hp (.str s)=Ix (.str s,hp):=rfl
def auh(n:Nat):freeze (n+1) hp .ae=Ix (.ae,hp):=rfl
def awG(n:Nat)(e:Bool)(k:Nat)(cs:List AV):freeze (n+1) hp (.aF e k cs)=Ix (.aF e k cs,hp):=rfl
def aui(n:Nat)(cs:List AV):freeze (n+1) hp (.aQ cs)=Ix (.aQ cs,hp):=rfl
end
section
variable {hp:Hp}
def azj(a b:AV):Z7 (.bool ycO) a b=Ix a:=rfl
def azk(a b:AV):Z7 (.bool ycP) a b=Ix b:=rfl
def aBY(k:Nat->Option AV)(n:Nat):Qb k (Ix n)=k n:=rfl
def As(k:xh)(n:Nat):dM (.int k (n:Int))=Ix n:=rfl
def azl(k:xh):dM (.int k 0)=Ix 0:=rfl
def azm(k:xh):dM (.int k 1)=Ix 1:=rfl
def azn(k:xh):dM (.int k 2)=Ix 2:=rfl
def azo(k:xh):dM (.int k 3)=Ix 3:=rfl
def azp(k:xh):dM (.int k 4)=Ix 4:=rfl
def azq(k:xh):dM (.int k 5)=Ix 5:=rfl
def azr(k:xh):dM (.int k 6)=Ix 6:=rfl
def azs(k:xh):dM (.int k 7)=Ix 7:=rfl
def azt(k:xh):dM (.int k 8)=Ix 8:=rfl
def azu(k:xh):dM (.int k 9)=Ix 9:=rfl
def awH(cs:List AV):akY (Ix cs)=Ix (.agg cs):=rfl
def aiw(k:xh)(a b:Int):binOp .add (.int k a) (.int k b)=Ix (.int k (k.wrap (a+b))):=by simp[binOp,oU]
def SC(k:xh)(a b:Int):binOp .sub (.int k a) (.int k b)=Ix (.int k (k.wrap (a-b))):=by simp[binOp,oU]
def aix(k:xh)(a b:Int):binOp .mul (.int k a) (.int k b)=Ix (.int k (k.wrap (a*b))):=by simp[binOp,oU]
def gN(k:xh)(a b:Int)(h:b≠0):binOp .quo (.int k a) (.int k b)=Ix (.int k (k.wrap (a.tdiv b))):=by simp[binOp,oU,h]
def iD(k:xh)(a b:Int)(h:b≠0):binOp .rem (.int k a) (.int k b)=Ix (.int k (a.tmod b)):=by simp[binOp,oU,h]
def awI(k:xh)(a b:Int):binOp .eql (.int k a) (.int k b)=Ix (.bool (decide (a=b))):=by
 simp[binOp,oU,intCmp,BEq.beq]
def awJ(k:xh)(a b:Int):binOp .neq (.int k a) (.int k b)=Ix (.bool (!decide (a=b))):=by
 simp[binOp,oU,intCmp,bne,BEq.beq]
def awK(k:xh)(a b:Int):binOp .lss (.int k a) (.int k b)=Ix (.bool (decide (a<b))):=by simp[binOp,oU,intCmp]
def awL(k:xh)(a b:Int):binOp .leq (.int k a) (.int k b)=Ix (.bool (decide (a<=b))):=by simp[binOp,oU,intCmp]
def awM(k:xh)(a b:Int):binOp .gtr (.int k a) (.int k b)=Ix (.bool (decide (b<a))):=by simp[binOp,oU,intCmp]
def awN(k:xh)(a b:Int):binOp .geq (.int k a) (.int k b)=Ix (.bool (decide (b<=a))):=by simp[binOp,oU,intCmp]
def azv(k:xh)(a:Int):unOp .neg (.int k a)=Ix (.int k (k.wrap (0-a))):=rfl
def azw(b:Bool):unOp .not (.bool b)=Ix (.bool !b):=rfl
def auj:fu hp 1 .ae=Ix (.int .i64 0):=rfl
def awO(e:Bool)(n:Nat)(cs:List AV):fu hp 1 (.aF e n cs)=Ix (.int .i64 n):=rfl
def awP(id o n:Nat):fu hp 1 (.av id o n)=Ix (.int .i64 n):=rfl
def awQ(s:List Nat):fu hp 0 (.str s)=Ix (.int .i64 s.length):=rfl
def SD{i n:Nat}(e:Bool)(cs:List AV)(h:i<n):iZ sz i (.aF e n cs)=Ix (.aQ (cs.drop (i*sz))):=by
 have hb:yU i n=ycO:=yC h;simp only[iZ]
 grind
def b9{i n:Nat}(id o:Nat)(h:i<n):iZ sz i (.av id o n)=Ix (.ptr id (o+i*sz)):=by
 have hb:yU i n=ycO:=yC h;simp only[iZ]
 grind
def R5(v:AV)(cs:List AV):jx hp 1 ycP (.aQ (v::cs))=Ix v:=rfl
def Wv(sz:Nat)(ag:Bool)(o:Nat)(q:Option Obj):Option AV:=match q with | some (.cells _ _ _ _ cs)=>gJ sz ag (cs.drop o) | _=>Iy
def azx(sz:Nat)(ag:Bool)(id o:Nat):jx hp sz ag (.ptr id o)=Wv sz ag o (au hp id):=by
 rfl
def aBZ(sz:Nat)(ag:Bool)(o:Nat)(rw pu ex:Bool)(z:Nat)(cs:List AV):Wv sz ag o (Ix (.cells rw pu ex z cs))=gJ sz ag (cs.drop o):=rfl
def EJ(sz:Nat)(v:AV)(cs:List AV):gJ sz ycP (v::cs)=Ix v:=rfl
def aDP(a:AV)(l:List AV):O8 0 (.ax (a::l))=Ix a:=rfl
def ext1(a b:AV)(l:List AV):O8 1 (.ax (a::b::l))=Ix b:=rfl
def aDQ(a b c:AV)(l:List AV):O8 2 (.ax (a::b::c::l))=Ix c:=rfl
def aDR(a b c d:AV)(l:List AV):O8 3 (.ax (a::b::c::d::l))=Ix d:=rfl
end
def C3:Env->Bool
 | []=>ycO
 | (_,v)::r=>aP v&&C3 r
mutual
def fX:∀{v:AV},aP v=ycO->refs v=[]
 | .int _ _,_ | .bool _,_ | .dP _ _,_ | .str _,_ | .oY,_ | .aQ _,_ | .ae,_ | .aF _ _ _,_ | .kZ,_ | .nD,_ | .nE _ _,_ | .undef,_=>rfl
 | .ptr _ _,h | .av _ _ _,h | .map _,h | .it _,h | .bR _ _ _ _,h=>by simp[aP] at h
 | .fn (.y _) _ _,h=>by simp[aP] at h
 | .fn (.f _) first cap,h=>by
  simp only[aP,yj] at h;simp only[refs,Ga h.1,Ga h.2,wh]
 | .agg cs,h=>by simp only[aP] at h;simp only[refs,Ga h]
 | .ax cs,h=>by simp only[aP] at h;simp only[refs,Ga h]
def Ga:∀{vs:List AV},aD vs=ycO->iF vs=[]
 | [],_=>rfl
 | v::r,h=>by
  simp only[aD,yj] at h;simp only[iF,fX h.1,Ga h.2,wh]
end
mutual
def mz(f:Nat->Option Nat):∀{v:AV},aP v=ycO->cg f v=v
 | .int _ _,_ | .bool _,_ | .dP _ _,_ | .str _,_ | .oY,_ | .aQ _,_ | .ae,_ | .aF _ _ _,_ | .kZ,_ | .nD,_ | .nE _ _,_ | .undef,_=>rfl
 | .ptr _ _,h | .av _ _ _,h | .map _,h | .it _,h | .bR _ _ _ _,h=>by simp[aP] at h
 | .fn (.y _) _ _,h=>by simp[aP] at h
 | .fn (.f _) first cap,h=>by
  simp only[aP,yj] at h;simp only[cg,Gc f h.1,Gc f h.2]
 | .agg cs,h=>by simp only[aP] at h;simp only[cg,Gc f h]
 | .ax cs,h=>by simp only[aP] at h;simp only[cg,Gc f h]
def Gc(f:Nat->Option Nat):∀{vs:List AV},aD vs=ycO->fo f vs=vs
 | [],_=>rfl
 | v::r,h=>by
  simp only[aD,yj] at h;simp only[fo,mz f h.1,Gc f h.2]
end
def afm:∀{tm:Env},C3 tm=ycO->gY tm=[]
 | [],_=>rfl
 | (i,v)::r,h=>by
  simp only[C3,yj] at h;simp only[gY,fX h.1,afm h.2,wh]
def agi(f:Nat->Option Nat):∀{tm:Env},C3 tm=ycO->je f tm=tm
 | [],_=>rfl
 | (i,v)::r,h=>by
  simp only[C3,yj] at h;simp only[je,mz f h.1,agi f h.2]
def Rc(h:C3 (cT tm live)=ycO):bW live ⟨tm,[],ct,0⟩=⟨cT tm live,[],0,0⟩:=by
 simp only[bW,afm h,lK,wh];simp only[reach,js,p9,agi _ h,yI,xg]
def aqn:bW [] ⟨tm,[],ct,0⟩=⟨[],[],0,0⟩:=rfl
def MZ{P:aJ}{L:Lib}{a:VC}(I:Nat->St->Prop)(Q:Ex->St->Prop)(step:∀k s,I k s->(∃s' k',D P L a (bW live s)=Ix (.normal,s')/\k'<k/\I k' s')\/(∃ex s',D P L a (bW live s)=Ix (ex,s')/\ex≠.normal/\Q ex s')):
  ∀k s,I k s->∃ex s',D P L (.loop live a) s=Ix (ex,s')/\Q ex s':=by
 intro k
 induction k using vX with
 | _ k ih=>
  intro s hI;rw[S7];rcases step k s hI with ⟨s',k',h1,h2,h3⟩ | ⟨ex,s',h1,h2,h3⟩
  .rw [h1,aiu];exact ih k' h2 s' h3
  .rw [h1]
   cases ex with
   | normal=>exact absurd rfl h2
   | ret=>exact⟨.ret,s',rfl,h3⟩
   | exit id=>exact⟨.exit id,s',rfl,h3⟩
def Yo{P:aJ}{L:Lib}{a:VC}(I:Nat->St->Prop)(Q:Ex->St->Prop)(step:∀k s,I k s->(∃s' k',D P L a s=Ix (.normal,s')/\k'<k/\I k' (bW live s'))\/(∃ex s',D P L a s=Ix (ex,s')/\ex≠.normal/\Q ex s')):
  ∀k s,I k (bW live s)->∃ex s',D P L (.loop live a) s=Ix (ex,s')/\Q ex s':=
 MZ (fun k s=>I k (bW live s)) Q (fun k s h=>step k _ h)
def cL(P:aJ)(L:Lib)(live:List Nat)(a:VC)(I:Nat->St->Prop)(Q:Ex->St->Prop):Prop:=∀k s,I k (bW live s)->∃ex s',D P L (.loop live a) s=Ix (ex,s')/\Q ex s'
def cP{P:aJ}{L:Lib}{a:VC}(step:∀k s,I k s->(∃s' k',D P L a s=Ix (.normal,s')/\k'<k/\I k' (bW live s'))\/(∃ex s',D P L a s=Ix (ex,s')/\ex≠.normal/\Q ex s')):cL P L live a I Q:=Yo I Q step
def aJn{P:aJ}{L:Lib}{a:VC}(step:∀k s,I k s->(∃s' k',D P L a s=Ix (.normal,s')/\k'<k/\I k' (bW live s'))\/(∃ex s',D P L a s=Ix (ex,s')/\ex≠.normal/\Q ex s')):
  ∀k s s0,bW live s=s0->I k s0->∃ex s',D P L (.loop live a) s=Ix (ex,s')/\Q ex s':=fun k s s0 h hi=>Yo I Q step k s (h▸hi)
def aj(h:aP v=ycO):refs v=[]/\∀f,cg f v=v:=⟨fX h,fun f=>mz f h⟩
def dT(P:aJ)(L:Lib)(live:List Nat)(a:VC)(I:Nat->St->Prop)(Q:Ex->St->Prop)(step:∀k s,I k s->(∃s' k',D P L a s=Ix (.normal,s')/\k'<k/\I k' (bW live s'))\/(∃ex s',D P L a s=Ix (ex,s')/\ex≠.normal/\Q ex s')):
  ∀k s,I k (bW live s)->∃ex s',D P L (.loop live a) s=Ix (ex,s')/\Q ex s':=Yo I Q step
def bg{P:aJ}{L:Lib}{c:VC}{s:St}{q:Option (Ex×St)}{I:St->Prop}(hq:D P L c s=q)(key:∀s,I s->∃ex s',D P L c s=Ix (ex,s')/\Q ex s')(hI:I s):
  ∃ex s',q=Ix (ex,s')/\Q ex s':=by
 rw[<-hq];exact key s hI
def auk(tm:Env):cT tm []=[]:=rfl
def ar8(tm:Env)(i:Nat)(r:List Nat):cT tm (i::r)=(i,ab tm i)::cT tm r:=rfl
def ar9:C3 []=ycO:=rfl
def aqT(i:Nat)(v:AV)(r:Env):C3 ((i,v)::r)=(aP v&&C3 r):=rfl
def GQ(k:xh)(n:Int):aP (.int k n)=ycO:=(rfl)
def awR(b:Bool):aP (.bool b)=ycO:=(rfl)
def ajv(s:List Nat):aP (.str s)=ycO:=(rfl)
def awS:aP .ae=ycO:=(rfl)
def azy(e:Bool)(n:Nat)(cs:List AV):aP (.aF e n cs)=ycO:=(rfl)
def awT(cs:List AV):aP (.aQ cs)=ycO:=(rfl)
def aul:aP .undef=ycO:=(rfl)
attribute [go_sem] deep aqn auk ar8 ar9 aqT GQ awR ajv awS azy awT aul vV xQ
attribute [go_sem] ayS ayT aBJ al4 aDK aBK nv ayU aBL il awi awj aiu awk awl awm awn aiv awo ayV ayW awp awq
 awr atZ arZ aws aBM aBN at0 at1 at2 at3 awt ayX ayY ar0 aqN at4 ar1 fq fO ahc XU at5 ahd agf
 aDL aDM ayZ awu at6 aBO awv ay0 aBP aBQ aBR ay1 Jt ay2 ay3 ay4 ay5 ay6 ay7 ay8 ay9 aza aww azb ajs azc aBS azd at7 aua aub
 awx awy awz awA awB aze azf azg azh aa7 aDO auc ar2 awC azi aac aBT aBU aBV aBW aBX
 aqO aql aqP aqm aqQ shut_int shut_bool aud ar3 aue R4 bf awD r9 IN II ar4 aqR ar5 aqS ar6 ar7 D7
 auf agh ajt aju awE aug awF auh awG aui
 azj azk aBY As azl azm azn azo azp azq azr azs azt azu awH aiw SC aix awI awJ awK awL awM awN azv azw auj awO awP awQ R5 azx aBZ EJ aDP ext1 aDQ aDR
 xy wh xC yo yp Bool.not_true Bool.not_false ybY yaC
end
section
variable {hp:Hp}{i:Nat}
abbrev aa(n:Int):AV:=.int .i64 n
def dt(v:AV)(cs:List AV):Prop:=(v=.ae/\cs=[])\/∃e,v=.aF e cs.length cs
section
variable {v:AV}{cs:List AV}{hp:Hp}
def dt.len(h:dt v cs){hp:Hp}:fu hp 1 v=Ix (.int .i64 (cs.length:Nat)):=by
 rcases h with ⟨rfl,rfl⟩ | ⟨e,rfl⟩<;>rfl
def dt.pu(h:dt v cs):aP v=ycO:=by
 rcases h with ⟨rfl,rfl⟩ | ⟨e,rfl⟩<;>rfl
def dt.af(h:dt v cs)(n:Nat){hp:Hp}:freeze (n+1) hp v=Ix (v,hp):=by
 rcases h with ⟨rfl,rfl⟩ | ⟨e,rfl⟩<;>rfl
def dt.shut(h:dt v cs):shut v=v:=by
 rcases h with ⟨rfl,rfl⟩ | ⟨e,rfl⟩<;>rfl
def dt.cd(h:dt v cs):cd v=v:=by
 rcases h with ⟨rfl,rfl⟩ | ⟨e,rfl⟩<;>rfl
def dt.eG(h:dt v cs){hp:Hp}:result hp v=Ix v:=by
 rcases h with ⟨rfl,rfl⟩ | ⟨e,rfl⟩<;>rfl
def dt.aT(h:dt v cs)(hi:i<cs.length):iZ 1 i v=Ix (.aQ (cs[i]::cs.drop (i+1))):=by
 rcases h with ⟨rfl,rfl⟩ | ⟨e,rfl⟩
 .grind
 .rw [SD e _ hi,yf,yP hi]
def dt.one(h:dt v cs):bF v=ycO:=by
 rcases h with ⟨rfl,rfl⟩ | ⟨e,rfl⟩<;>rfl
def dt.cells(h:dt v cs):cellsOf v=[v]:=by
 rcases h with ⟨rfl,rfl⟩ | ⟨e,rfl⟩<;>rfl
def Nj(e:Bool)(cs:List AV):dt (.aF e cs.length cs) cs:=.inr ⟨e,rfl⟩
def mY:dt .ae []:=.inl ⟨rfl,rfl⟩
end
def bl(v:AV)(l:List Int):Prop:=dt v (l.map aa)
section
variable {v:AV}{l:List Int}
def bl.len(h:bl v l):fu hp 1 v=Ix (.int .i64 (l.length:Nat)):=by
 have:=dt.len (hp:=hp) h
 grind
def bl.pu(h:bl v l):aP v=ycO:=dt.pu h
def bl.af(h:bl v l)(n:Nat):freeze (n+1) hp v=Ix (v,hp):=dt.af h n
def bl.shut(h:bl v l):VE.shut v=v:=dt.shut h
def bl.cd(h:bl v l):VE.cd v=v:=dt.cd h
def bl.eG(h:bl v l):result hp v=Ix v:=dt.eG h
def bl.one(h:bl v l):bF v=ycO:=dt.one h
def bl.cells(h:bl v l):cellsOf v=[v]:=dt.cells h
def bl.aT(h:bl v l)(hi:i<l.length):iZ 1 i v=Ix (.aQ (.int .i64 l[i]::(l.map aa).drop (i+1))):=by
 have:=dt.aT h (i:=i) (by simpa using hi)
 grind
def fZ(e:Bool)(l:List Int):bl (.aF e l.length (l.map aa)) l:=by
 have:=Nj e (l.map aa)
 rwa[yg] at this
end
def bZ{α β:Type}(p:α->β->Prop):List α->List β->Prop
 | [],[]=>True
 | a::r,b::s=>p a b/\bZ p r s
 | _,_=>False
section
variable {α β:Type}{p:α->β->Prop}
def bZ.len:∀{l:List α} {m:List β},bZ p l m->l.length=m.length
 | [],[],_=>rfl
 | _::_,_::_,h=>by rw[yB,yB,h.2.len]
def bZ.get:∀{l:List α} {m:List β} (_:bZ p l m) {i:Nat} (h1:i<l.length) (h2:i<m.length),p l[i] m[i]
 | a::r,b::s,h,0,_,_=>h.1
 | a::r,b::s,h,i+1,h1,h2=>by
  exact h.2.get (by simpa using h1) (by simpa using h2)
end
def ix(v:AV)(s:List (List Int)):Prop:=∃rows,dt v rows/\bZ bl rows s
section
variable {v:AV}{s:List (List Int)}
def ix.len(h:ix v s):fu hp 1 v=Ix (.int .i64 (s.length:Nat)):=by
 have⟨rows,h1,h2⟩:=h;rw[<-h2.len];exact h1.len
def ix.pu(h:ix v s):aP v=ycO:=by have⟨rows,h1,h2⟩:=h;exact h1.pu
def ix.af(h:ix v s)(n:Nat):freeze (n+1) hp v=Ix (v,hp):=by have⟨rows,h1,h2⟩:=h;exact h1.af n
def ix.one(h:ix v s):bF v=ycO:=by have⟨rows,h1,h2⟩:=h;exact h1.one
def ix.aT(h:ix v s)(hi:i<s.length):∃r rest,bl r s[i]/\iZ 1 i v=Ix (.aQ (r::rest)):=by
 have⟨rows,h1,h2⟩:=h;have bD:i<rows.length:=by rw[h2.len];exact hi
 exact⟨_,_,h2.get bD hi,h1.aT bD⟩
def aum:ix .ae []:=⟨[],mY,trivial⟩
end
def wrap64{n:Int}(h1: -9223372036854775808<=n)(h2:n<9223372036854775808):IntKind.wrap .i64 n=n:=by
 simp only[IntKind.wrap,IntKind.bits,IntKind.signed,xQ]
 grind
def wrapN{n:Nat}(h:n<9223372036854775808):IntKind.wrap .i64 (n:Int)=n:=wrap64 (by lia) (by lia)
end
abbrev ah(P:aJ)(L:Lib)(f:Nat)(az:List AV)(r:AV):Prop:=bM P L (D P L) f az=Ix r
def s30(h:Has P L 30 DG)(n lo hi:Int):ah P L 30 [aa n,aa lo,aa hi] (aa (if n<lo\/hi<n then 3 else 0)):=by
 unfold ah;rw[aB h];by_cases h1:n<lo
 .simp only [go_sem,ya,DG,h1,true_or,xL]
 .by_cases h2:hi<n
  .simp only [go_sem,ya,DG,h1,h2,or_true,xL]
  .simp only [go_sem,ya,DG,h1,h2,or_self,xr]
def rP(h:Has P L 31 Cj)(b:Bool)(n:Int):ah P L 31 [.bool b,aa n] (aa (if b=ycO then n else 0)):=by
 unfold ah;rw[aB h]
 cases b with
 | true=>simp only[go_sem,ya,Cj,xL]
 | false=>simp only[go_sem,ya,Cj];rfl
def s34(h:Has P L 34 HS)(jn:Has P L 31 Cj)(n lo hi:Int):ah P L 34 [aa n,aa lo,aa hi] (aa (if n<lo\/hi<n then 3 else 0)):=by
 unfold ah;rw[aB h];by_cases h1:n<lo
 .simp only [go_sem,ya,HS,h1,true_or,xL,rP jn]
 .by_cases h2:hi<n
  .simp only [go_sem,ya,HS,h1,h2,or_true,xL,rP jn]
  .simp only [go_sem,ya,HS,h1,h2,or_self,xr,rP jn];rfl
def sT(h:Has P L 33 KR){l:List Int}(hv:bl v l)(hl:l.length<=1000000):ah P L 33 [v] (aa (a6 l)):=by
 unfold ah;rw[aB h];simp only[go_sem,ya,KR,hv.len];have key:=MZ (P:=P) (L:=L) (live:=[5,6,7]) (a:=Tw)
  (I:=fun k s=>∃tm ct i,s=⟨tm,[],ct,0⟩/\ab tm 5=v/\ab tm 6=aa l.length/\ab tm 7=aa (i:Nat)/\i+k=l.length/\a6 (l.drop i)=a6 l)
  (Q:=fun ex s=>∃tm,s=⟨tm,[],0,0⟩/\((ex=.ret/\ab tm 2=aa (a6 l))\/(ex=.exit 0/\a6 l=0))) ?_ l.length
 .generalize hq:D P L (.loop _ Tw) _=q;obtain⟨ex,s,rfl,tm,rfl,h2⟩:=bg hq key ⟨_,_,0,rfl,rfl,rfl,rfl,by lia,rfl⟩;rcases h2 with ⟨rfl,h2⟩ | ⟨rfl,h2⟩
  .simp only [go_sem,h2]
  .rw [h2];simp only[go_sem]
 .rintro k s ⟨tm,ct,i,rfl,h5,h6,h7,hk,hf⟩;rw[Rc (by simp only[go_sem,h5,h6,h7,hv.pu])];simp only[go_sem,ya,h5,h6,h7,Tw];by_cases hi:i<l.length
  .have bD:(i:Int)<l.length:=by lia
   rw[Xh hi] at hf;by_cases hz:l[i]=0
   .left
    simp only[go_sem,ya,bD,hv.aT hi,hz];refine⟨_,k-1,rfl,by lia,_,_,i+1,rfl,?_⟩;rw[wrap64 (by lia) (by lia)];rw[yK hz] at hf;simp only[go_sem,ya];exact⟨trivial,trivial,rfl,by lia,hf⟩
   .right
    simp only[go_sem,ya,bD,hv.aT hi,hz];rw[yx hz] at hf;refine⟨_,_,rfl,by simp,_,rfl,.inl ⟨rfl,?_⟩⟩;simp only[go_sem,hf]
  .right
   have bD:¬(i:Int)<l.length:=by lia
   simp only[go_sem,bD];refine⟨_,_,rfl,by simp,_,rfl,.inr ⟨rfl,?_⟩⟩;rw[<-hf,yY (by lia)];rfl
def s42{n:Nat}(h:Has P L n V3){l:List Int}(hv:bl v l)(hl:l.length<=1000000):ah P L n [v] (aa (a6 l)):=by
 unfold ah;rw[aB h];simp only[go_sem,V3];have key:=MZ (P:=P) (L:=L) (live:=[0,3]) (a:=Tz)
  (I:=fun k s=>∃tm ct i,s=⟨tm,[],ct,0⟩/\ab tm 0=v/\ab tm 3=aa (i:Nat)/\i+k=l.length/\a6 (l.drop i)=a6 l)
  (Q:=fun ex s=>∃tm,s=⟨tm,[],0,0⟩/\((ex=.ret/\ab tm 2=aa (a6 l))\/(ex=.exit 0/\a6 l=0))) ?_ l.length
 .generalize hq:D P L (.loop _ Tz) _=q;obtain⟨ex,s,rfl,tm,rfl,h2⟩:=bg hq key ⟨_,_,0,rfl,rfl,rfl,by lia,rfl⟩;rcases h2 with ⟨rfl,h2⟩ | ⟨rfl,h2⟩
  .simp only [go_sem,h2]
  .rw [h2];simp only[go_sem]
 .rintro k s ⟨tm,ct,i,rfl,h0,h3,hk,hf⟩;rw[Rc (by simp only[go_sem,h0,h3,hv.pu])];simp only[go_sem,ya,h0,h3,Tz,hv.len];by_cases hi:i<l.length
  .have bD:(i:Int)<l.length:=by lia
   rw[Xh hi] at hf;by_cases hz:l[i]=0
   .left
    simp only[go_sem,ya,bD,hv.aT hi,hz];refine⟨_,k-1,rfl,by lia,_,_,i+1,rfl,?_⟩;rw[wrap64 (by lia) (by lia)];rw[yK hz] at hf;simp only[go_sem,ya];exact⟨trivial,rfl,by lia,hf⟩
   .right
    simp only[go_sem,ya,bD,hv.aT hi,hz];rw[yx hz] at hf;refine⟨_,_,rfl,by simp,_,rfl,.inl ⟨rfl,?_⟩⟩;simp only[go_sem,hf]
  .right
   have bD:¬(i:Int)<l.length:=by lia
   simp only[go_sem,bD];refine⟨_,_,rfl,by simp,_,rfl,.inr ⟨rfl,?_⟩⟩;rw[<-hf,yY (by lia)];rfl
def al7(h:Has P L 134 J6){n m:Int}(hm:0<m)(iT:m<=1000000):ah P L 134 [aa n,aa m] (aa (n%m)):=by
 unfold ah;rw[aB h];have h1:m≠0:=by lia
 have h2:n.tmod m<m:=ybn n hm;have h3: -m<n.tmod m:=by
  have h:=ybo n hm
  lia
 simp only[go_sem,ya,J6,iD _ _ _ h1,wrap64 (n:=n.tmod m+m) (by lia) (by lia),awh hm]
section
variable {v:AV}{ex pu:Bool}{cs new:List AV}{by' n o sz z:Nat}
section
variable {P:aJ}{L:Lib}{f:cG}{tm:Env}{hp:Hp}{ct:Nat}
def asa(k:xh)(n:Int):cellsOf (.int k n)=[.int k n]:=(rfl)
def aqU(b:Bool):cellsOf (.bool b)=[.bool b]:=(rfl)
def asb(s:List Nat):cellsOf (.str s)=[.str s]:=(rfl)
def aqV:cellsOf .ae=[.ae]:=(rfl)
def asc(e:Bool)(n:Nat)(cs:List AV):cellsOf (.aF e n cs)=[.aF e n cs]:=(rfl)
def asd(id o n:Nat):cellsOf (.av id o n)=[.av id o n]:=(rfl)
def ase(id o:Nat):cellsOf (.ptr id o)=[.ptr id o]:=(rfl)
def aun(g:Fr)(a b:List AV):cellsOf (.fn g a b)=[.fn g a b]:=(rfl)
def asf(cs:List AV):cellsOf (.agg cs)=cs:=(rfl)
def I0(k:xh)(n:Int):bF (.int k n)=ycO:=(rfl)
def auo(b:Bool):bF (.bool b)=ycO:=(rfl)
def SE(s:List Nat):bF (.str s)=ycO:=(rfl)
def aup:bF .ae=ycO:=(rfl)
def awU(e:Bool)(n:Nat)(cs:List AV):bF (.aF e n cs)=ycO:=(rfl)
def awV(id o n:Nat):bF (.av id o n)=ycO:=(rfl)
def awW(id o:Nat):bF (.ptr id o)=ycO:=(rfl)
def azz(g:Fr)(a b:List AV):bF (.fn g a b)=ycO:=(rfl)
def auq:bP []=ycO:=(rfl)
def agj(v:AV)(r:List AV):bP (v::r)=(bF v&&bP r):=(rfl)
def asg:aD []=ycO:=(rfl)
def aqW(v:AV)(r:List AV):aD (v::r)=(aP v&&aD r):=(rfl)
def azA(id o:Nat):aP (.ptr id o)=ycP:=(rfl)
def azB(id o n:Nat):aP (.av id o n)=ycP:=(rfl)
def aB0(g:Nat)(a b:List AV):aP (.fn (.f g) a b)=(aD a&&aD b):=(rfl)
def aDS(l:Nat)(a b:List AV):aP (.fn (.y l) a b)=ycP:=(rfl)
def azC(cs:List AV):aP (.agg cs)=aD cs:=(rfl)
def azD(cs:List AV):aP (.ax cs)=aD cs:=(rfl)
def E7(ct sz:Nat)(cs:List AV):Option (AV×Obj):=bif yG cs.length sz&&bP cs then Ix (.ptr ct 0,.cells ycO (aD cs) ycO sz cs) else Iy
def azE(sz:Nat)(x:X):dh tm hp ct (.box sz x)=E7 ct sz (cellsOf (aC tm x)):=rfl
def TG(h:bF v=ycO):E7 ct 1 [v]=Ix (.ptr ct 0,.cells ycO (aP v&&ycO) ycO 1 [v]):=by
 simp[E7,bP,aD,h]
def aG(hn:cs.length=n)(h:bP cs=ycO):E7 ct n cs=Ix (.ptr ct 0,.cells ycO (aD cs) ycO n cs):=by
 subst hn;simp[E7,h]
def fN(hp:Hp)(ct id o sz:Nat)(new:List AV)(q:Option Obj):iS:=
 match q with
 | some (.cells ycO pu ex z cs)=>bif yG new.length sz&&yO (o+sz) cs.length&&bP new then Ix (.ax [],aV hp id (.cells ycO (pu&&aD new) ex z (over o new cs)),ct) else Iy
 | _=>Iy
def stV(hp:Hp)(ct sz:Nat)(p:AV)(new:List AV):iS:=match p with | .ptr id o=>fN hp ct id o sz new (au hp id) | _=>Iy
def ahe(sz:Nat)(x v:X):du tm hp ct (.st sz x v)=stV hp ct sz (aC tm x) (cellsOf (aC tm v)):=rfl
def ak0(sz id o:Nat)(new:List AV):stV hp ct sz (.ptr id o) new=fN hp ct id o sz new (au hp id):=rfl
def aDT{u:AV}{id:Nat}(h:bF v=ycO):fN hp ct id 0 1 [v] (Ix (.cells ycO pu ex z [u]))=Ix (.ax [],aV hp id (.cells ycO (pu&&(aP v&&ycO)) ex z [v]),ct):=by
 simp[fN,bP,aD,h,over];rfl
def mb{id:Nat}(h1:new.length=sz)(h2:o+sz<=cs.length)(h:bP new=ycO):
  fN hp ct id o sz new (Ix (.cells ycO pu ex z cs))=Ix (.ax [],aV hp id (.cells ycO (pu&&aD new) ex z (over o new cs)),ct):=by
 subst h1;simp[fN,h,yC h2]
def TH(ct n sz:Nat)(q:Option (List AV)):Option (AV×Obj):=match q with | some cs=>bif yG cs.length (n*sz) then Ix (.av ct 0 n,.cells ycO (aD cs) ycO sz cs) else Iy | none=>Iy
def awX(n sz:Nat)(z:List AV)(ps:List (Nat×Nat×X)):dh tm hp ct (.sD n sz z ps)=TH ct n sz (fill tm z ps):=by
 simp only[dh,TH];cases fill tm z ps<;>rfl
def awY(h:cs.length=n*sz):TH ct n sz (Ix cs)=Ix (.av ct 0 n,.cells ycO (aD cs) ycO sz cs):=by
 simp[TH,h]
def iH(tm:Env)(cs:List AV)(o sz:Nat)(new:List AV)(r:List (Nat×Nat×X)):Option (List AV):=
 bif yG new.length sz&&yO (o+sz) cs.length&&bP new then fill tm (over o new cs) r else Iy
def aur(cs:List AV):fill tm cs []=Ix cs:=rfl
def ash(cs:List AV)(o sz:Nat)(x:X)(r:List (Nat×Nat×X)):fill tm cs ((o,sz,x)::r)=iH tm cs o sz (cellsOf (aC tm x)) r:=rfl
def aiy{r:List (Nat×Nat×X)}(h1:o+1<=cs.length)(h2:bF v=ycO):iH tm cs o 1 [v] r=fill tm (over o [v] cs) r:=by
 simp[iH,bP,h2,yC h1]
def pP{r:List (Nat×Nat×X)}(h0:new.length=sz)(h1:o+sz<=cs.length)(h2:bP new=ycO):iH tm cs o sz new r=fill tm (over o new cs) r:=by
 subst h0;simp[iH,h2,yC h1]
def aB1(v u:AV)(r:List AV):over 0 [v] (u::r)=v::r:=rfl
def aB2(v a u:AV)(r:List AV):over 1 [v] (a::u::r)=a::v::r:=rfl
def aB3(v a b u:AV)(r:List AV):over 2 [v] (a::b::u::r)=a::b::v::r:=rfl
def aB4(v a b c u:AV)(r:List AV):over 3 [v] (a::b::c::u::r)=a::b::c::v::r:=rfl
def aB5(v a b c d u:AV)(r:List AV):over 4 [v] (a::b::c::d::u::r)=a::b::c::d::v::r:=rfl
def aB6(v a b c d e u:AV)(r:List AV):over 5 [v] (a::b::c::d::e::u::r)=a::b::c::d::e::v::r:=rfl
def rE(ct sz by':Nat)(zero:List AV)(l c:Option Nat):Option (AV×Obj):=
 match l,c with
 | some l,Ix c=>bif yO l c&&(yO c room&&(yO (c*by') room&&(yG zero.length sz&&bP zero))) then Ix (.av ct 0 l,.cells ycO (aD zero) (yG l c) sz (ye l zero).flatten) else Iy
 | _,_=>Iy
def azF(sz by':Nat)(z:List AV)(l c:X):dh tm hp ct (.sM sz by' z l c)=rE ct sz by' z (dM (aC tm l)) (dM (aC tm c)):=by
 simp only[dh,rE]
 grind
def BF{l:Nat}{z:List AV}(h1:l<=1099511627776)(h2:l*by'<=1099511627776)(h3:z.length=sz)(h4:bP z=ycO):
  rE ct sz by' z (Ix l) (Ix l)=Ix (.av ct 0 l,.cells ycO (aD z) ycO sz (ye l z).flatten):=by
 subst h3;simp[rE,h4,yC (show l<=room from h1),yC (show l*by'<=room from h2),yC (ym l)]
def Hs(hp:Hp)(ct sz by':Nat)(s:AV)(src:Option (Nat×List AV)):iS:=
 match src with
 | none=>Iy
 | some (m,new)=>
  match s with
  | .ae=>
   bif yG m 0 then Ix (.ae,hp,ct)
   else bif yO m room&&(yO (m*by') room&&yU 0 sz) then Ix (.av ct 0 m,(ct,.cells ycO (aD new) ycP sz new)::hp,ct+1) else Iy
  | .aF ycO n cs=>
   bif yG m 0 then Ix (.aF ycO n cs,hp,ct)
   else bif yO (n+m) room&&(yO ((n+m)*by') room&&(yG cs.length (n*sz)&&yU 0 sz)) then Ix (.av ct 0 (n+m),(ct,.cells ycO (aD cs&&aD new) ycP sz (cs++new))::hp,ct+1) else Iy
  | .av id o n=>
   match au hp id with
   | some (.cells ycO pu _ z cs)=>
    bif yG z sz&&(yO (n+m) room&&(yO ((n+m)*by') room&&(yO (o+n*sz) cs.length&&(yU 0 sz&&bP new)))) then
     Ix (.av ct 0 (n+m),(ct,.cells ycO (pu&&aD new) ycP sz (slice o (n*sz) cs++new))::eJ hp id,ct+1)
    else Iy
   | _=>Iy
  | _=>Iy
def asi(sz by':Nat)(s x:X):du tm hp ct (.kD sz by' s x)=Hs hp ct sz by' (aC tm s) (Bz hp sz (aC tm x)):=by
 simp only[du,Hs]
 cases Bz hp sz (aC tm x) with
 | none=>rfl
 | some q=>have⟨m,new⟩:=q;cases aC tm s<;>rfl
def aqX(sz id o n:Nat):Bz hp sz (.av id o n)=nT hp sz (.av id o n):=rfl
def afn(sz:Nat)(e:Bool)(n:Nat)(cs:List AV):Bz hp sz (.aF e n cs)=nT hp sz (.aF e n cs):=rfl
def aqo(sz:Nat):Bz hp sz .ae=Ix (0,[]):=rfl
def HX(o n sz:Nat)(q:Option Obj):Option (Nat×List AV):=match q with | some (.cells _ _ _ _ cs)=>bif yO (o+n*sz) cs.length then Ix (n,slice o (n*sz) cs) else Iy | _=>Iy
def aqp(sz id o n:Nat):nT hp sz (.av id o n)=HX o n sz (au hp id):=rfl
def aB7(rw pu ex:Bool)(z:Nat)(v:AV):HX 0 1 1 (Ix (.cells rw pu ex z [v]))=Ix (1,[v]):=rfl
def awZ{rw:Bool}(h:cs.length=n*sz):HX 0 n sz (Ix (.cells rw pu ex z cs))=Ix (n,cs):=by
 simp only[HX,yd,<-h,yC (ym cs.length),yN,slice,yh,xH]
def eT{m:Nat}(hm:0<m)(h1:m<=1099511627776)(h2:m*by'<=1099511627776)(hs:0<sz):
  Hs hp ct sz by' .ae (Ix (m,new))=Ix (.av ct 0 m,(ct,.cells ycO (aD new) ycP sz new)::hp,ct+1):=by
 have e1:yG m 0=ycP:=jL (by lia);have e2:yU 0 sz=ycO:=yC hs;simp[Hs,e1,e2,yC (show m<=room from h1),yC (show m*by'<=room from h2)]
def dZ{id m:Nat}(hg:au hp id=Ix (.cells ycO pu ex sz cs))(hl:cs.length=n*sz)(h1:n+m<=1099511627776)(h2:(n+m)*by'<=1099511627776)(hs:0<sz)(ho:bP new=ycO):
  Hs hp ct sz by' (.av id 0 n) (Ix (m,new))=Ix (.av ct 0 (n+m),(ct,.cells ycO (pu&&aD new) ycP sz (cs++new))::eJ hp id,ct+1):=by
 have e2:yU 0 sz=ycO:=yC hs;simp only[Hs,hg];simp[e2,ho,yC (show n+m<=room from h1),yC (show (n+m)*by'<=room from h2),<-hl,slice,yC (ym cs.length)]
def al8(n:Nat)(g:Nat)(cap:List AV)(q:Option (List AV×Hp)):Option (AV×Hp):=match q with | some (first,hp)=>(match cm n hp cap with | some (Ug,ff)=>Ix (.fn (.f g) first Ug,ff) | none=>Iy) | none=>Iy
def al9(g:Nat)(first:List AV)(q:Option (List AV×Hp)):Option (AV×Hp):=match q with | some (cap,hp)=>Ix (.fn (.f g) first cap,hp) | none=>Iy
def azG(n g:Nat)(first cap:List AV):freeze (n+1) hp (.fn (.f g) first cap)=al8 n g cap (cm n hp first):=rfl
def azH(n g:Nat)(first cap:List AV):al8 n g cap (Ix (first,hp))=al9 g first (cm n hp cap):=rfl
def azI(g:Nat)(first cap:List AV):al9 g first (Ix (cap,hp))=Ix (.fn (.f g) first cap,hp):=rfl
def ama(o:Nat)(q:Option (Bool×Nat×List AV×Hp)):Option (AV×Hp):=match q with | some (_,_,cs,hp)=>Ix (.aQ (cs.drop o),hp) | none=>Iy
def aw0(n id o:Nat):freeze (n+1) hp (.ptr id o)=ama o (Au n hp id):=rfl
def azJ(o:Nat)(ex:Bool)(sz:Nat)(cs:List AV):ama o (Ix (ex,sz,cs,hp))=Ix (.aQ (cs.drop o),hp):=rfl
def nG(o k:Nat)(q:Option (Bool×Nat×List AV×Hp)):Option (AV×Hp):=
 match q with
 | some (ex,sz,cs,hp)=>bif yO (o+k*sz) cs.length then Ix (.aF (ex&&yU 0 sz&&yG (o+k*sz) cs.length) k (slice o (k*sz) cs),hp) else Iy
 | none=>Iy
def aiz(n id o k:Nat):freeze (n+1) hp (.av id o k)=nG o k (Au n hp id):=rfl
def oR{k:Nat}(ex:Bool)(hl:cs.length=k*sz)(hs:0<sz):nG 0 k (Ix (ex,sz,cs,hp))=Ix (.aF ex k cs,hp):=by
 have e2:yU 0 sz=ycO:=yC hs;simp[nG,<-hl,e2,slice,yC (ym cs.length)]
def Kh(n id:Nat)(hp:Hp)(q:Option Obj):Option (Bool×Nat×List AV×Hp):=
 match q with
 | some (.cells rw pu ex sz cs)=>
  bif pu then Ix (ex,sz,cs,bif rw then aV hp id (.cells ycP ycO ex sz cs) else hp)
  else match cm n hp cs with
   | some (ej,aq)=>Ix (ex,sz,ej,aV aq id (.cells ycP ycP ex sz cs))
   | none=>Iy
 | _=>Iy
def aiA(n id:Nat):Au (n+1) hp id=Kh n id hp (au hp id):=rfl
def azK(n id:Nat)(ex:Bool)(sz:Nat)(cs:List AV):Kh n id hp (Ix (.cells ycO ycO ex sz cs))=Ix (ex,sz,cs,aV hp id (.cells ycP ycO ex sz cs)):=rfl
def azL(n id:Nat)(ex:Bool)(sz:Nat)(cs:List AV):Kh n id hp (Ix (.cells ycP ycO ex sz cs))=Ix (ex,sz,cs,hp):=rfl
def a7(n:Nat)(cs:List AV)(h:cm n hp cs=Ix (cs,hp)):freeze (n+1) hp (.agg cs)=Ix (.agg cs,hp):=by
 simp only[freeze,h]
def mW{id:Nat}(hg:au hp id=Ix (.cells ycO ycO ex sz cs))(hl:cs.length=n*sz)(hs:0<sz):result hp (.av id 0 n)=Ix (.bR ex sz n cs):=by
 have e2:yU 0 sz=ycO:=yC hs;simp only[result,AE,hg,yd,<-hl,yC (ym cs.length),yN,e2,vV,slice,yh,xH]
 simp
def asj{k id:Nat}(hg:au hp id=Ix (.cells ycO ycO ex sz cs))(hl:cs.length=n*sz)(hs:0<sz):AE k hp (.av id 0 n)=Ix (.bR ex sz n cs,eJ hp id):=by
 have e2:yU 0 sz=ycO:=yC hs;simp only[AE,hg,yd,<-hl,yC (ym cs.length),yN,e2,vV,slice,yh,xH]
 simp
def apZ{id:Nat}{k:xh}{b:Int}(hg:au hp id=Ix (.cells ycO ycO ex sz cs))(hl:cs.length=n*sz)(hs:0<sz):result hp (.ax [.av id 0 n,.int k b])=Ix (.ax [.bR ex sz n cs,.int k b]):=by
 have h1:I6 [.av id 0 n,.int k b]=Ix [id]:=rfl;simp only[result,h1,CG,asj hg hl hs];rfl
def apM(b:Bool):result hp (.ax [.ae,.bool b])=Ix (.ax [.ae,.bool b]):=rfl
def apN(k:xh)(b:Int):result hp (.ax [.ae,.int k b])=Ix (.ax [.ae,.int k b]):=rfl
def apO(e:Bool)(n:Nat)(cs:List AV)(k:xh)(b:Int):result hp (.ax [.aF e n cs,.int k b])=Ix (.ax [.aF e n cs,.int k b]):=rfl
def asl(s:St):zM [] s=Ix s:=rfl
def fzC(t:Nat)(r:List Nat)(tm:Env)(ct base:Nat)(q:Option (AV×Hp)):Option St:=match q with | some (v,hp)=>zM r ⟨(t,v)::tm,hp,ct,base⟩ | none=>Iy
def aqY(t:Nat)(r:List Nat)(tm:Env)(hp:Hp)(ct base:Nat):zM (t::r) ⟨tm,hp,ct,base⟩=fzC t r tm ct base (freeze deep hp (ab tm t)):=by
 simp only[zM,fzC];cases freeze deep hp (ab tm t)<;>rfl
def aB8(t:Nat)(r:List Nat)(tm:Env)(ct base:Nat)(v:AV)(hp:Hp):fzC t r tm ct base (Ix (v,hp))=zM r ⟨(t,v)::tm,hp,ct,base⟩:=rfl
end
attribute [go_sem] apM apN apO asa aqU asb aqV asc asd ase aun asf I0 auo SE aup awU awV awW azz auq agj
 asg aqW azA azB aB0 aDS azC azD azE TG ahe ak0 aDT awX aur ash aB1 aB2 aB3 aB4 aB5 aB6 azF
 asi aqX afn aqo aqp aB7 azG azH azI aw0 azJ aiz oR awY aiy aiA azK azL asl aqY aB8
 Bool.and_false xI yh eq_self
end
def ahf:∀hp:Hp,lK 0 hp=[]
 | []=>rfl
 | (id,o)::r=>by
  have:yU id 0=ycP:=rfl
  simp only[lK,this,y5,ahf r]
def ajw(f:Nat->Option Nat):∀hp:Hp,p9 0 f hp=[]
 | []=>rfl
 | (id,o)::r=>by
  have:yU id 0=ycP:=rfl
  simp only[p9,this,y5,ajw f r]
def pos(seen:List Nat):Nat->Option Nat:=fun id=>fG id seen 0
def aa9(tm:Env)(hp:Hp)(seen:List Nat):St:=⟨je (pos seen) tm,js hp (pos seen) seen 0 [],seen.length,0⟩
def pE(hp:Hp):Nat->List Nat->List Nat->List Nat:=reach hp 0
def ao(live:List Nat)(tm:Env)(hp:Hp)(ct:Nat):bW live ⟨tm,hp,ct,0⟩=aa9 (cT tm live) hp (pE hp 100000 (gY (cT tm live)) []):=by
 have e:∀seen,nZ 0 seen=pos seen:=fun seen=>by
  funext id
  have:yU id 0=ycP:=rfl
  simp only[nZ,this,y5,pos]
 simp only[bW,ahf,wh,e,ajw,aa9,pE,yd]
def asm:gY []=[]:=rfl
def aqZ(i:Nat)(v:AV)(r:Env):gY ((i,v)::r)=refs v++gY r:=rfl
def aus(k:xh)(n:Int):refs (.int k n)=[]:=rfl
def asn(b:Bool):refs (.bool b)=[]:=rfl
def aut(s:List Nat):refs (.str s)=[]:=rfl
def aso:refs .ae=[]:=rfl
def auu(e:Bool)(n:Nat)(cs:List AV):refs (.aF e n cs)=[]:=rfl
def asp(cs:List AV):refs (.aQ cs)=[]:=rfl
def aq0:refs .undef=[]:=rfl
def auv(id o:Nat):refs (.ptr id o)=[id]:=rfl
def auw(id o n:Nat):refs (.av id o n)=[id]:=rfl
def aw1(g:Nat)(a b:List AV):refs (.fn (.f g) a b)=iF a++iF b:=rfl
def azM(l:Nat)(a b:List AV):refs (.fn (.y l) a b)=[l]:=rfl
def auy(cs:List AV):refs (.agg cs)=iF cs:=rfl
def asq:iF []=[]:=rfl
def aq1(v:AV)(r:List AV):iF (v::r)=refs v++iF r:=rfl
def U4(hp:Hp)(n id:Nat)(iq seen:List Nat)(q:Option Obj):List Nat:=match q with | some o=>pE hp n (lZ o++iq) (seen++[id]) | none=>pE hp n iq seen
def U5(hp:Hp)(n id:Nat)(iq seen:List Nat)(b:Bool):List Nat:=bif b then pE hp n iq seen else U4 hp n id iq seen (au hp id)
def aiB(hp:Hp)(n:Nat)(seen:List Nat):pE hp (n+1) [] seen=seen:=rfl
def M1(hp:Hp)(n id:Nat)(iq seen:List Nat):pE hp (n+1) (id::iq) seen=U5 hp n id iq seen (me id seen):=by
 have:yU id 0=ycP:=rfl
 simp only[pE,reach,this,vS,U5,U4]
 cases me id seen with
 | true=>rfl
 | false=>simp only[y5];cases au hp id<;>rfl
def azN(hp:Hp)(n id:Nat)(iq seen:List Nat):U5 hp n id iq seen ycO=pE hp n iq seen:=rfl
def NX(hp:Hp)(n id:Nat)(iq seen:List Nat):U5 hp n id iq seen ycP=U4 hp n id iq seen (au hp id):=rfl
def NY(hp:Hp)(n id:Nat)(iq seen:List Nat)(o:Obj):U4 hp n id iq seen (Ix o)=pE hp n (lZ o++iq) (seen++[id]):=rfl
def R6(i:Nat):me i []=ycP:=rfl
def ahg(i:Nat)(r:List Nat):me i (i::r)=ycO:=by simp only[me,vd,yN]
def XV{i j:Nat}(r:List Nat)(h:j≠i):me i (j::r)=me i r:=by simp only[me,jL h,y5]
def YR(rw ex:Bool)(sz:Nat)(cs:List AV):lZ (.cells rw ycO ex sz cs)=[]:=rfl
def YS(rw ex:Bool)(sz:Nat)(cs:List AV):lZ (.cells rw ycP ex sz cs)=iF cs:=rfl
def auz(tm:Env)(ps:List Nat)(a b:VC)(st:Nat)(pe:C9):lZ (.lp tm ps a b st pe)=gY tm:=rfl
def aiC(i:Nat)(r:List Nat)(k:Nat):fG i (i::r) k=Ix k:=by simp only[fG,vd,yN]
def ahh{i j:Nat}(r:List Nat)(k:Nat)(h:j≠i):fG i (j::r) k=fG i r (k+1):=by simp only[fG,jL h,y5]
def pos_eq(seen:List Nat)(i:Nat):pos seen i=fG i seen 0:=rfl
def ak1(o:Nat)(q:Option Nat):AV:=match q with | some j=>.ptr j o | none=>.undef
def ak2(o n:Nat)(q:Option Nat):AV:=match q with | some j=>.av j o n | none=>.undef
def auA(s:List Nat):je (pos s) []=[]:=rfl
def asr(s:List Nat)(i:Nat)(v:AV)(r:Env):je (pos s) ((i,v)::r)=(i,cg (pos s) v)::je (pos s) r:=rfl
def aw2(s:List Nat)(k:xh)(n:Int):cg (pos s) (.int k n)=.int k n:=rfl
def auB(s:List Nat)(b:Bool):cg (pos s) (.bool b)=.bool b:=rfl
def aw3(s:List Nat)(t:List Nat):cg (pos s) (.str t)=.str t:=rfl
def auC(s:List Nat):cg (pos s) .ae=.ae:=rfl
def aw4(s:List Nat)(e:Bool)(n:Nat)(cs:List AV):cg (pos s) (.aF e n cs)=.aF e n cs:=rfl
def auD(s:List Nat)(cs:List AV):cg (pos s) (.aQ cs)=.aQ cs:=rfl
def ass(s:List Nat):cg (pos s) .undef=.undef:=rfl
def aw5(s:List Nat)(id o:Nat):cg (pos s) (.ptr id o)=ak1 o (fG id s 0):=rfl
def aw6(s:List Nat)(id o n:Nat):cg (pos s) (.av id o n)=ak2 o n (fG id s 0):=rfl
def azO(s:List Nat)(g:Nat)(a b:List AV):cg (pos s) (.fn (.f g) a b)=.fn (.f g) (fo (pos s) a) (fo (pos s) b):=rfl
def aw7(s:List Nat)(cs:List AV):cg (pos s) (.agg cs)=.agg (fo (pos s) cs):=rfl
def auE(s:List Nat):fo (pos s) []=[]:=rfl
def ast(s:List Nat)(v:AV)(r:List AV):fo (pos s) (v::r)=cg (pos s) v::fo (pos s) r:=rfl
def aw8(o j:Nat):ak1 o (Ix j)=.ptr j o:=rfl
def aw9(o n j:Nat):ak2 o n (Ix j)=.av j o n:=rfl
def aba(hp:Hp)(f:Nat->Option Nat)(r:List Nat)(k:Nat)(acc:Hp)(q:Option Obj):Hp:=match q with | some o=>js hp f r (k+1) ((k,jY f o)::acc) | none=>js hp f r (k+1) acc
def asu(hp:Hp)(s:List Nat)(k:Nat)(acc:Hp):js hp (pos s) [] k acc=acc:=rfl
def aq2(hp:Hp)(s:List Nat)(id:Nat)(r:List Nat)(k:Nat)(acc:Hp):js hp (pos s) (id::r) k acc=aba hp (pos s) r k acc (au hp id):=by
 simp only[js,aba];cases au hp id<;>rfl
def azP(hp:Hp)(s r:List Nat)(k:Nat)(acc:Hp)(o:Obj):aba hp (pos s) r k acc (Ix o)=js hp (pos s) r (k+1) ((k,jY (pos s) o)::acc):=rfl
def azQ(f:Nat->Option Nat)(rw ex:Bool)(sz:Nat)(cs:List AV):jY f (.cells rw ycO ex sz cs)=.cells rw ycO ex sz cs:=rfl
def azR(f:Nat->Option Nat)(rw ex:Bool)(sz:Nat)(cs:List AV):jY f (.cells rw ycP ex sz cs)=.cells rw ycP ex sz (fo f cs):=rfl
def axa(f:Nat->Option Nat)(tm:Env)(ps:List Nat)(a b:VC)(st:Nat)(pe:C9):jY f (.lp tm ps a b st pe)=.lp (je f tm) ps a b st pe:=rfl
def aiD(tm:Env)(hp:Hp)(seen:List Nat):aa9 tm hp seen=⟨je (pos seen) tm,js hp (pos seen) seen 0 [],seen.length,0⟩:=rfl
attribute [go_sem] asm aqZ aus asn aut aso auu asp aq0 auv auw aw1 azM auy asq aq1 aiB M1 azN NX NY
 R6 ahg XV YR YS auz aiC ahh auA asr aw2 auB aw3 auC aw4 auD ass aw5 aw6 azO aw7 auE ast aw8 aw9
 asu aq2 azP azQ azR axa aiD yB yI
section
variable {v:AV}{cap:List AV}{l:List Int}
def ahi{α:Type}{p:α->Bool}{l:List α}{i:Nat}(h:i<l.length):(l.drop i).any p=(p l[i]||(l.drop (i+1)).any p):=by
 rw[yP h,ybe]
def aDU(h:Has P L 132 OI)(hv:bl v l)(hl:l.length<=1000000){g:Nat}{p:Int->Bool}(hc:aD cap=ycO)(hz:∀x hp,cm deep hp (aa x::cap)=Ix (aa x::cap,hp))(hg:∀x,ah P L g (aa x::cap) (.bool (p x))):∃n:Int,ah P L 132 [v,.fn (.f g) [] cap] (aa n)/\decide (0<=n)=l.any p:=by
 have DK:aP (.fn (.f g) [] cap)=ycO:=by simp[aP,aD,hc]
 simp only[ah,deep] at hg hz;have key:=MZ (P:=P) (L:=L) (live:=[0,1,7,8]) (a:=S3)
  (I:=fun k s=>∃tm ct i,s=⟨tm,[],ct,0⟩/\ab tm 0=v/\ab tm 1=.fn (.f g) [] cap/\ab tm 7=aa l.length/\ab tm 8=aa (i:Nat)/\i+k=l.length/\(l.drop i).any p=l.any p)
  (Q:=fun ex s=>∃tm,s=⟨tm,[],0,0⟩/\((∃n:Int,ex=.ret/\ab tm 4=aa n/\0<=n/\l.any p=ycO)\/(ex=.exit 0/\l.any p=ycP))) ?_ l.length
 .simp only [ah];rw[aB h];simp only[go_sem,ya,OI,hv.len];generalize hq:D P L (.loop _ S3) _=q;obtain⟨ex,s,rfl,tm,rfl,h2⟩:=bg hq key ⟨_,_,0,rfl,rfl,rfl,rfl,rfl,by lia,rfl⟩;rcases h2 with ⟨n,rfl,h2,h3,h4⟩ | ⟨rfl,h2⟩
  .exact ⟨n,by simp only[go_sem,h2],by rw[h4];simpa using h3⟩
  .exact ⟨-1,by simp only[go_sem],by rw[h2];decide⟩
 .rintro k s ⟨tm,ct,i,rfl,h0,h1,h7,h8,hk,hf⟩;rw[Rc (by simp only[go_sem,h0,h1,h7,h8,hv.pu,DK])];simp only[go_sem,ya,h0,h1,h7,h8,S3];by_cases hi:i<l.length
  .have bD:(i:Int)<l.length:=by lia
   rw[ahi hi] at hf
   cases dj:p l[i] with
   | false=>
    left
    simp only[go_sem,ya,bD,hv.aT hi,hz,hg,dj];refine⟨_,k-1,rfl,by lia,_,_,i+1,rfl,?_⟩;rw[wrap64 (by lia) (by lia)];rw[dj,vS] at hf;simp only[go_sem,ya];exact⟨trivial,trivial,trivial,rfl,by lia,hf⟩
   | true=>
    right
    simp only[go_sem,ya,bD,hv.aT hi,hz,hg,dj];refine⟨_,_,rfl,by simp,_,rfl,.inl ⟨i,rfl,?_,by lia,?_⟩⟩
    .simp only [go_sem]
    .rw [<-hf,dj,yar]
  .right
   have bD:¬(i:Int)<l.length:=by lia
   simp only[go_sem,bD];refine⟨_,_,rfl,by simp,_,rfl,.inr ⟨rfl,?_⟩⟩;rw[<-hf,yY (by lia)];rfl
def s95(h:Has P L 95 Wj)(abb:Has P L 132 OI)(hv:bl v l)(hl:l.length<=1000000){g:Nat}{p:Int->Bool}(hc:aD cap=ycO)(hz:∀x hp,cm deep hp (aa x::cap)=Ix (aa x::cap,hp))(hg:∀x,ah P L g (aa x::cap) (.bool (p x)))(gA:∀n hp,freeze (n+500) hp (.fn (.f g) [] cap)=Ix (.fn (.f g) [] cap,hp)):ah P L 95 [v,.fn (.f g) [] cap] (.bool (l.any p)):=by
 have⟨n,h1,h2⟩:=aDU abb hv hl hc hz hg;unfold ah at h1 ⊢;rw[aB h];have abc:∀hp,freeze 998 hp (.fn (.f g) [] cap)=Ix (.fn (.f g) [] cap,hp):=fun hp=>gA 498 hp
 simp only[go_sem,ya,Wj,hv.af,abc,h1,h2]
def s94(h:Has P L 94 KW){m:Int}(hm:0<=m)(iT:m<=1000000)(x:Int):ah P L 94 [aa x,.aQ [aa m]] (.bool (decide (x< -m\/m<x))):=by
 unfold ah;rw[aB h];by_cases h1:x< -m
 .simp only [go_sem,ya,KW,R5,wrap64 (n:=0-m) (by lia) (by lia),show x<0-m by lia,h1,true_or]
 .by_cases h2:m<x
  .simp only [go_sem,ya,KW,R5,wrap64 (n:=0-m) (by lia) (by lia),show ¬x<0-m by lia,h1,h2,or_true]
  .simp only [go_sem,ya,KW,R5,wrap64 (n:=0-m) (by lia) (by lia),show ¬x<0-m by lia,h1,h2,or_self]
def auF(m:Int)(l:List Int):l.any (fun x=>decide (x< -m\/m<x))=ib (-m) m l:=by
 induction l with
 | nil=>rfl
 | cons a r ih=>
  simp only[ybe,ib,ih]
  grind
structure Sq(P:aJ)(L:Lib):Prop where
 h32:Has P L 32 c32
 jn:Has P L 31 Cj
 oK:Has P L 33 KR
 h94:Has P L 94 KW
 h95:Has P L 95 Wj
 abb:Has P L 132 OI
 h4:Has P L 4 c4
 h9:Has P L 9 c9
def s32(h:Sq P L){s:List (List Int)}(hv:ix v s)(hl:s.length<=1000000)(hr:∀i (hi:i<s.length),s[i].length<=1000000){m:Int}(hm:0<=m)(iT:m<=1000000):
  ah P L 32 [v,aa m] (aa (mJ s.length (-m) m s)):=by
 have key:=dT P L [0,3,9,10,11] Tv
  (fun k st=>∃(i:Nat) (rw:Bool),st=⟨[(0,v),(3,.ptr 0 0),(9,v),(10,aa s.length),(11,aa i)],[(0,.cells rw ycO ycO 1 [aa m])],1,0⟩/\i+k=s.length/\mJ s.length (-m) m (s.drop i)=mJ s.length (-m) m s)
  (fun ex st=>∃tm hp ct,st=⟨tm,hp,ct,0⟩/\((ex=.ret/\ab tm 4=aa (mJ s.length (-m) m s))\/(ex=.exit 0/\mJ s.length (-m) m s=0))) ?_
 .unfold ah;rw[aB h.h32];simp only[go_sem,ya,yb,c32,hv.len];generalize hq:D P L (.loop _ Tv) _=q;obtain⟨ex,st,rfl,tm,hp,ct,rfl,h2⟩:=bg hq (key s.length) ⟨0,ycO,by simp only[go_sem,ya,yb,ao,aj hv.pu]<;>rfl,by lia,rfl⟩
  rcases h2 with ⟨rfl,h2⟩ | ⟨rfl,h2⟩
  .simp only [go_sem,h2]
  .rw [h2];simp only[go_sem,ao]
 .rintro k st ⟨i,rw,rfl,hk,hf⟩;simp only[go_sem,ya,Tv];by_cases hi:i<s.length
  .have bD:(i:Int)<s.length:=by lia
   rw[afj hi] at hf;have⟨r,rest,bQ,ep⟩:=hv.aT hi;have hc:ah P L 95 [r,.fn (.f 94) [] [.aQ [aa m]]] (.bool (ib (-m) m s[i])):=by
    rw[<-auF];exact s95 h.h95 h.abb bQ (hr i hi) rfl (fun x hp=>by simp only[go_sem]) (fun x=>s94 h.h94 hm iT x) (fun n hp=>by simp only[go_sem])
   have kI:∀a b:Int,ah P L 33 [.aF ycO 2 [.int .i64 a,.int .i64 b]] (aa (a6 [a,b])):=fun a b=>sT h.oK (fZ ycO [a,b]) (by simp)
   unfold ah at hc kI;by_cases h1:s[i].length=s.length
   .have Fu:(s[i].length:Int)=s.length:=by lia
    simp only[h1,ybY,tB,xr] at hf
    cases h2:ib (-m) m s[i] with
    | false=>
     left
     simp only[h2,yH,xr] at hf;cases rw<;>simp only[go_sem,ya,yb,yA,yi,yf,bD,ep,hc,Fu,h2,rP h.jn,kI,bQ.len,bQ.af,hv.len,yH,xr,a6,xL]
     all_goals
      refine⟨_,k-1,rfl,by lia,i+1,ycP,?_,by lia,hf⟩;rw[wrap64 (by lia) (by lia)];simp only[go_sem,ya,yb,ao,aj hv.pu];rfl
    | true=>
     right
     simp only[h2,xL] at hf;cases rw<;>simp only[go_sem,ya,yb,yA,yi,yf,bD,ep,hc,Fu,h2,rP h.jn,kI,bQ.len,bQ.af,hv.len,yH,xr,a6,xL,uf]
     all_goals
      refine⟨_,_,rfl,by simp,_,_,_,rfl,.inl ⟨rfl,?_⟩⟩;simp only[go_sem,hf]
   .right
    have Fu:¬(s[i].length:Int)=s.length:=by lia
    simp only[h1,ybY,yaC,xL] at hf;cases h2:ib (-m) m s[i]<;>cases rw<;>simp only[go_sem,ya,yb,yA,yi,yf,bD,ep,hc,Fu,h2,rP h.jn,kI,bQ.len,bQ.af,hv.len,yH,xr,a6,xL,uf]
    all_goals
     refine⟨_,_,rfl,by simp,_,_,_,rfl,.inl ⟨rfl,?_⟩⟩;simp only[go_sem,hf]
  .right
   have bD:¬(i:Int)<s.length:=by lia
   simp only[go_sem,bD];refine⟨_,_,rfl,by simp,_,_,_,rfl,.inr ⟨rfl,?_⟩⟩;rw[<-hf,yY (by lia)];rfl
end
def s4(h:Sq P L){s:List (List Int)}(hv:ix v s)(hl:s.length<=1000000)(hr:∀i (hi:i<s.length),s[i].length<=1000000):ah P L 4 [v] (aa (oP s)):=by
 have hc:=s32 h hv hl hr (m:=1000) (by decide) (by decide);have hf:∀a b c:Int,ah P L 33 [.aF ycO 3 [.int .i64 a,.int .i64 b,.int .i64 c]] (aa (a6 [a,b,c])):=fun a b c=>sT h.oK (fZ ycO [a,b,c]) (by simp)
 unfold ah at hc hf ⊢;rw[aB h.h4];simp only[go_sem,ya,yb,yA,yi,yf,c4,hv.len,hv.af,hc,rP h.jn,hf];unfold oP;by_cases h1:s.length=0
 .simp [h1,a6]
 .by_cases h2:16<s.length
  .simp [h1,h2,a6,show (16:Int)<s.length by lia]
  .simp only [h1,h2,a6,show ¬(16:Int)<s.length by lia,show ¬(s.length:Int)=0 by lia,yp,yH,xr,xL]
   split<;>simp_all
def s3(h:Has P L 3 c3)(Ai:Has P L 30 DG){s:List (List Int)}(hv:ix v s):ah P L 3 [v] (aa (oP s)):=by
 have inner:∀{i:Nat} (hi:i<s.length),s[i].length=s.length->s.length<=16->cL P L [0,3,4] Uq (fun k st=>∃j:Nat,st=⟨[(0,v),(3,aa i),(4,aa j)],[],0,0⟩/\j+k=s.length/\ib (-1000) 1000 (s[i].drop j)=ib (-1000) 1000 s[i]) (fun ex st'=>∃tm ct,st'=⟨tm,[],ct,0⟩/\((ex=.ret/\ab tm 2=aa 3/\ib (-1000) 1000 s[i]=ycO)\/(ex=.exit 2/\ab tm 0=v/\ab tm 3=aa i/\ib (-1000) 1000 s[i]=ycP))):=by
  intro i hi hr hl;apply cP;rintro k st ⟨j,rfl,hk,hf⟩;simp only[go_sem,ya,Uq,hv.len];have⟨r,rest,bQ,ep⟩:=hv.aT hi;by_cases hj:j<s.length
  .have KG:(j:Int)<s.length:=by lia
   have hjr:j<s[i].length:=by lia
   rw[arV hjr] at hf;by_cases h1:s[i][j]< -1000\/1000<s[i][j]
   .right
    rw[yK h1] at hf;simp only[go_sem,ya,KG,ep,bQ.aT hjr,s30 Ai,h1,xL,uf];refine⟨_,_,rfl,by simp,_,_,rfl,.inl ⟨rfl,?_,hf.symm⟩⟩;simp only[go_sem]
   .left
    rw[yx h1] at hf;simp only[go_sem,ya,KG,ep,bQ.aT hjr,s30 Ai,h1,xr];refine⟨_,k-1,rfl,by lia,j+1,?_,by lia,hf⟩;rw[wrap64 (by lia) (by lia)];simp only[go_sem,ya,ao,aj hv.pu]<;>rfl
  .right
   simp only[go_sem,show ¬(j:Int)<s.length by lia];refine⟨_,_,rfl,by simp,_,_,rfl,.inr ⟨rfl,?_,?_,?_⟩⟩
   .simp only [go_sem,ya]
   .simp only [go_sem,ya]
   .rw [<-hf,yY (by lia)];rfl
 have key:=dT P L [0,3] Ur
  (fun k st=>∃i:Nat,st=⟨[(0,v),(3,aa i)],[],0,0⟩/\i+k=s.length/\s.length<=16/\mJ s.length (-1000) 1000 (s.drop i)=mJ s.length (-1000) 1000 s)
  (fun ex st=>∃tm ct,st=⟨tm,[],ct,0⟩/\((ex=.ret/\ab tm 2=aa (mJ s.length (-1000) 1000 s))\/(ex=.exit 0/\mJ s.length (-1000) 1000 s=0))) ?_
 .unfold ah;rw[aB h];unfold oP;by_cases h1:s.length=0
  .simp only [go_sem,ya,c3,hv.len,show (s.length:Int)=0 by lia];rw[yK h1]
  .rw [yx h1];by_cases h2:16<s.length
   .simp only [go_sem,ya,c3,hv.len,show ¬(s.length:Int)=0 by lia,show (16:Int)<s.length by lia];rw[yK h2]
   .simp only [go_sem,ya,c3,hv.len,show ¬(s.length:Int)=0 by lia,show ¬(16:Int)<s.length by lia];rw[yx h2];generalize hq:D P L (.loop _ Ur) _=q;obtain⟨ex,st,rfl,tm,ct,rfl,h2⟩:=bg hq (key s.length) ⟨0,by simp only[go_sem,ya,ao,aj hv.pu]<;>rfl,by lia,by lia,rfl⟩
    rcases h2 with ⟨rfl,h2⟩ | ⟨rfl,h2⟩
    .simp only [go_sem,h2]
    .rw [h2];simp only[go_sem]
 .rintro k st ⟨i,rfl,hk,hl,hf⟩;simp only[go_sem,ya,Ur,hv.len];by_cases hi:i<s.length
  .have bD:(i:Int)<s.length:=by lia
   rw[afj hi] at hf;have⟨r,rest,bQ,ep⟩:=hv.aT hi;by_cases h1:s[i].length=s.length
   .simp only [h1,ybY,tB,xr] at hf;simp only[go_sem,ya,bD,ep,bQ.len,hv.len,show (s[i].length:Int)=s.length by lia];generalize hq:D P L (.loop _ Uq) _=q;obtain⟨ex,st,rfl,tm,ct,rfl,h2⟩:=bg hq (inner hi h1 hl s.length) ⟨0,by simp only[go_sem,ya,ao,aj hv.pu]<;>rfl,by lia,rfl⟩
    rcases h2 with ⟨rfl,h2,h3⟩ | ⟨rfl,h2,h3,h4⟩
    .right
     rw[yK h3] at hf;exact⟨_,_,rfl,by simp,_,_,rfl,.inl ⟨rfl,by rw[h2,<-hf]⟩⟩
    .left
     rw[yx (by simp[h4])] at hf;simp only[go_sem,ya,ao,h2,h3,aj hv.pu];refine⟨_,k-1,rfl,by lia,i+1,?_,by lia,hl,hf⟩;rw[wrap64 (by lia) (by lia)];simp only[go_sem,ya,ao,aj hv.pu]<;>rfl
   .right
    simp only[h1,ybY,yaC,xL] at hf;simp only[go_sem,ya,bD,ep,bQ.len,hv.len,show ¬(s[i].length:Int)=s.length by lia];refine⟨_,_,rfl,by simp,_,_,rfl,.inl ⟨rfl,?_⟩⟩;simp only[go_sem,<-hf]
  .right
   simp only[go_sem,show ¬(i:Int)<s.length by lia];refine⟨_,_,rfl,by simp,_,_,rfl,.inr ⟨rfl,?_⟩⟩;rw[<-hf,yY (by lia)];rfl
def aq3{lo:Int}{l:List Int}(h:ib lo hi l=ycP)(h0:lo<=0/\0<=hi)(i:Nat):lo<=l.getD i 0/\l.getD i 0<=hi:=by
 by_cases hl:i<l.length
 .have:=R2 h i hl
  grind
 .grind
def Xj{n:Nat}{lo:Int}{s:List (List Int)}(h:mJ n lo hi s=0)(h0:lo<=0/\0<=hi)(c r:Int):lo<=jc s c r/\jc s c r<=hi:=by
 unfold jc;by_cases hl:(r%s.length).toNat<s.length
 .have:=XS h _ hl
  simp only[yW,xz hl,Option.getD_some];exact aq3 this.2 h0 _
 .grind
def nR{k:xh}{n:Int}(h:0<=n):dM (.int k n)=Ix n.toNat:=by
 cases n with
 | ofNat n=>rfl
 | negSucc n=>exact absurd h (by simp)
def auG{s:List (List Int)}{n:Nat}(hn:s.length=n)(h0:0<n)(hr:∀i (hi:i<s.length),s[i].length=n)(c r:Int):
  ∃(h1:(r%n).toNat<s.length) (h2:(c%n).toNat<(s[(r%n).toNat]'h1).length),jc s c r=(s[(r%n).toNat]'h1)[(c%n).toNat]'h2:=by
 have a2:=wU r (show (0:Int)<n by lia);have b2:=wU c (show (0:Int)<n by lia);unfold jc
 grind
def aZ(k id o:Nat):JB k (.ptr id o)=Ix (.ptr id (o+k)):=rfl
def cD{α:Type}(a:α)(l:List α):xK 1 (a::l)=l:=rfl
def aB9{α:Type}(a b:α)(l:List α):xK 2 (a::b::l)=l:=rfl
def ak3{α:Type}(a b c:α)(l:List α):xK 3 (a::b::c::l)=l:=rfl
abbrev Nm(n:Int):AV:=.agg [aa n,.ae]
def BG(hp:Hp)(ct id:Nat)(a:Int)(x y:AV):fN hp ct id 0 2 [.int .i64 a,.ae] (Ix (.cells ycO ycO ycO 2 [x,y]))=Ix (.ax [],aV hp id (.cells ycO ycO ycO 2 [.int .i64 a,.ae]),ct):=rfl
def eV(b:Bool):O7 ycP (Ix b)=Ix (.bool b):=by cases b<;>rfl
def GR(f:cG)(tm:Env)(hp:Hp)(ct:Nat)(x y:X):bq P L f tm hp ct (.mn [x,y])=rd hp ct (min2 (aC tm x) (aC tm y)):=by
 simp only[bq,rd,bB,dU,EB]
 grind
def NZ(f:cG)(tm:Env)(hp:Hp)(ct:Nat)(x y:X):bq P L f tm hp ct (.mx [x,y])=rd hp ct (max2 (aC tm x) (aC tm y)):=by
 simp only[bq,rd,bB,dU,EB]
 grind
def Gg(k k':xh)(x y:Int):min2 (.int k x) (.int k' y)=Ix (.int k (if y<x then y else x)):=rfl
def M2(k k':xh)(x y:Int):max2 (.int k x) (.int k' y)=Ix (.int k (if y>x then y else x)):=rfl
def cA(n:Int):Int:=if n<0 then -1 else if n=0 then 0 else 1
def azS(n:Int):(if (if n<1 then n else 1)> -1 then (if n<1 then n else 1) else -1)=cA n:=by
 unfold cA
 grind
def n117(h:Has P L 117 Uy)(n:Int):ah P L 117 [aa n] (Nm n):=by
 unfold ah;rw[aB h];simp only[go_sem,ya,yb,yi,Uy,aG,yd,BG];rfl
def zP(hp:Hp)(p q:Bool):mf .b (.bool p) (.bool q)=Ix (p==q):=rfl
def lI{n:Nat}{sp:List AV->Option AV}(h:L.pure n=Ix sp){f:cG}(az:List AV):bM P L f n az=sp az:=by simp only[bM,h]
abbrev U64(n:Int):AV:=.int .u64 n
def aCa{n:Int}(h1:0<=n)(h2:n<18446744073709551616):IntKind.wrap .u64 n=n:=by
 simp only[IntKind.wrap,IntKind.signed,IntKind.bits]
 grind
def ajx(n:Int):zR (.toInt .u64) (aa n)=Ix (U64 (IntKind.wrap .u64 n)):=rfl
def S8(n:Int):zR (.toInt .i64) (U64 n)=Ix (aa (IntKind.wrap .i64 n)):=rfl
def N1(b:Bool):O7 ycO (Ix b)=Ix (.bool (!b)):=by cases b<;>rfl
def cF(a b:AV)(r:List AV):gJ 2 ycO (a::b::r)=Ix (.agg [a,b]):=rfl
def gP(a b c d:AV)(r:List AV):gJ 4 ycO (a::b::c::d::r)=Ix (.agg [a,b,c,d]):=rfl
def asv{a b:Int}(hb:0<b):(a.tmod b<0->a/b=a.tdiv b-1/\a%b=a.tmod b+b)/\(¬a.tmod b<0->a/b=a.tdiv b/\a%b=a.tmod b):=by
 have h1:=Int.mul_tdiv_add_tmod a b;have h2:a.tmod b<b:=ybn a hb;have h3: -b<a.tmod b:=ybo a hb;refine⟨fun h=>(tY hb).2 ⟨?_,?_,?_⟩,fun h=>(tY hb).2 ⟨?_,?_,?_⟩⟩
 .grind
 .lia
 .lia
 .lia
 .lia
 .lia
def auH(a b:Nat)(hb:b≠0):wX b (a%b)=wX a b:=by
 rw[tN b,<-ycC,tN]
def dE(a b:Int):Int:=a/(vE a b:Nat)
def dI(a b:Int):Int:=b/(vE a b:Nat)
def Nk{a b:Int}(hb:0<b):(0:Int)<(vE a b:Nat):=by
 have:=Int.gcd_pos_of_ne_zero_right a (show b≠0 by lia)
 lia
def ajy(a b:Int):a=(vE a b:Nat)*dE a b:=(yaV (yab a b)).symm
def ajz(a b:Int):b=(vE a b:Nat)*dI a b:=(yaV (tV a b)).symm
def M3{a b:Int}(hb:0<b):0<dI a b:=by
 have h1:=Nk (a:=a) hb;have h2:=ajz a b;rcases Int.lt_trichotomy (dI a b) 0 with h | h | h
 .have:=Int.mul_neg_of_pos_of_neg h1 h;lia
 .grind
 .exact h
def Yp(a b:Int):(dE a b).natAbs<=a.natAbs:=by
 unfold dE;rw[uY (yab a b)];exact vK _ _
def Yq(a b:Int):(dI a b).natAbs<=b.natAbs:=by
 unfold dI;rw[uY (tV a b)];exact vK _ _
def zV(a b:Int):List Nat:=if dI a b=1 then aU (dE a b) else aU (dE a b)++[47]++aU (dI a b)
section
variable {s:List Nat}{n:Nat}
def ak4{b:Nat}(h:¬a<b):yU a b=ycP:=by
 cases hb:yU a b with
 | false=>rfl
 | true=>exact absurd (yF hb) (by lia)
def YT:∀(f n:Nat) (acc:List Nat),n<f->qY f n acc=qY f n []++acc
 | 0,_,_,h=>by lia
 | f+1,n,acc,h=>by
  simp only[qY];by_cases h1:n<10
  .rw [show yU n 10=ycO from yC h1];rfl
  .rw [show yU n 10=ycP from ak4 (by lia)];rw[YT f (n/10) _ (by lia),YT f (n/10) [48+n%10] (by lia)]
   simp
def XW{f:Nat}(h:n<10):qY (f+1) n []=[48+n]:=by
 simp only[qY];rw[show yU n 10=ycO from yC h];rfl
def YU{f:Nat}(h:¬n<10)(hf:n<=f):qY (f+1) n []=qY f (n/10) []++[48+n%10]:=by
 rw[<-YT f (n/10) _ (by lia)];simp only[qY];rw[show yU n 10=ycP from ak4 (by lia)];rfl
def auI:∀(n f:Nat),n<f->qY f n []=ay n:=by
 intro n
 induction n using vX with
 | _ n ih=>
  intro f hf;obtain⟨g,rfl⟩:∃g,f=g+1:=⟨f-1,by lia⟩;by_cases h:n<10
  .rw [XW h];unfold ay;rw[XW h]
  .rw [YU h (by lia),ih (n/10) (by lia) g (by lia)];unfold ay;rw[YU h (ym n),ih (n/10) (by lia) n (by lia)];rfl
def rY(h:n<10):ay n=[48+n]:=XW h
def zy(h:¬n<10):ay n=ay (n/10)++[48+n%10]:=by
 rw[show ay n=qY (n+1) n [] from rfl,YU h (ym n),auI (n/10) n (by lia)]
def Bu:∀{k n:Nat},n<10^(k+1)->(ay n).length<=k+1
 | 0,n,h=>by rw[rY (by simpa using h)];simp
 | k+1,n,h=>by
  by_cases h1:n<10
  .rw [rY h1];simp
  .rw [zy h1,yE]
   have:n/10<10^(k+1):=by
    grind
   have:=Bu this
   grind
def RB(h:n<18446744073709551616):(ay n).length<=20:=Bu (k:=19) (by lia)
def nS(n:Nat):aU (n:Int)=ay n:=rfl
def mZ{n:Int}(h:n<0):aU n=45::ay n.natAbs:=by
 cases n with
 | ofNat n=>exact absurd h (by simp)
 | negSucc n=>rfl
def bY:List Nat->Nat
 | []=>0
 | b::r=>if b=47 then 0 else bY r+1
def aqq{i:Nat}(h:i<s.length):bY (s.drop i)=if s[i]=47 then 0 else bY (s.drop (i+1))+1:=by
 rw[yP h];rfl
def MT:∀s:List Nat,bY s<=s.length
 | []=>ym _
 | b::r=>by
  unfold bY
  have:=MT r
  grind
def dK:List Nat->Bool
 | []=>ycO
 | b::r=>yO 48 b&&yO b 57&&dK r
def Rg:∀(a b:List Nat),dK (a++b)=(dK a&&dK b)
 | [],b=>by simp[dK]
 | x::a,b=>by simp[dK,Rg a b,Bool.and_assoc]
def CA(n:Nat):dK (ay n)=ycO:=by
 induction n using vX with
 | _ n ih=>
  by_cases h:n<10
  .rw [rY h];simp[dK];lia
  .rw [zy h,Rg,ih (n/10) (by lia)];simp[dK];lia
def MF:∀{s:List Nat} (r:List Nat),dK s=ycO->bY (s++r)=s.length+bY r
 | [],r,_=>by simp
 | b::s,r,h=>by
  simp only[dK,yj] at h;have h1:=yF h.1.1;simp only[xC,bY,yB];rw[yx (by lia),MF r h.2]
  lia
def Rh:∀(l:List Nat) (a d:Nat),d<10->da (l++[48+d]) a=(da l a).map (fun v=>10*v+d)
 | [],a,d,h=>by
  simp only[xy,da];rw[show yO 48 (48+d)=ycO from yC (by lia),show yO (48+d) 57=ycO from yC (by lia)]
  simp
 | b::l,a,d,h=>by
  simp only[xC,da]
  cases (yO 48 b&&yO b 57) with
  | true=>exact Rh l _ d h
  | false=>rfl
def Bs(n:Nat):da (ay n) 0=Ix n:=by
 induction n using vX with
 | _ n ih=>
  by_cases h:n<10
  .rw [rY h]
   have:=Rh [] 0 n h
   simpa[da] using this
  .rw [zy h,Rh _ _ _ (by lia),ih (n/10) (by lia)]
   simp;lia
def asw{i v:Nat}(h:i<s.length)(hv:da (s.drop i) a=Ix v):48<=s[i]/\s[i]<=57/\da (s.drop (i+1)) (10*a+(s[i]-48))=Ix v:=by
 rw[yP h] at hv;simp only[da] at hv
 cases hb:(yO 48 s[i]&&yO s[i] 57) with
 | false=>rw[hb] at hv;cases hv
 | true=>
  simp_all
def j9:Nat->Nat->List Nat
 | 0,_=>[]
 | k+1,n=>j9 k (n/10)++[48+n%10]
def Yr:∀k n,(j9 k n).length=k
 | 0,_=>rfl
 | k+1,n=>by simp[j9,Yr k]
def R7:∀(k m r:Nat),0<m->r<10^k->ay (m*10^k+r)=ay m++j9 k r
 | 0,m,r,_,h=>by simp at h;subst h;simp[j9]
 | k+1,m,r,hm,h=>by
  have h1:m*10^(k+1)+r=(m*10^k)*10+r:=by grind
  have hp:0<m*10^k:=ux hm (ybL (by decide));have e1:(m*10^(k+1)+r)/10=m*10^k+r/10:=by lia
  have e2:(m*10^(k+1)+r)%10=r%10:=by lia
  rw[zy (by lia),e1,e2,R7 k m (r/10) hm (by rw[xJ] at h;lia)]
  simp[j9]
def ahj:∀(k r a:Nat),r<10^k->da (j9 k r) a=Ix (a*10^k+r)
 | 0,r,a,h=>by simp at h;subst h;simp[j9,da]
 | k+1,r,a,h=>by
  rw[j9,Rh _ _ _ (xV _ (by decide)),ahj k (r/10) a (by lia)];simp only[vn,yc,xJ]
  grind
def auJ{m:Nat}(h:1000000000<=m):ay m=ay (m/1000000000)++j9 9 (m%1000000000):=by
 have:=R7 9 (m/1000000000) (m%1000000000) (by lia) (by lia)
 grind
end
def jQ(s:List Nat)(l h:Option Nat):Option AV:=
 match l,h with
 | some l,Ix h=>bif yO l h&&yO h s.length then Ix (.str ((s.take h).drop l)) else Iy
 | _,_=>Iy
def fD(hp:Hp)(s:List Nat)(tm:Env)(lo hi:Option X):gI hp .str (.str s) tm lo hi=jQ s (cS tm 0 lo) (cS tm s.length hi):=by
 unfold jQ;simp only[gI]
 grind
def gh(tm:Env)(d:Nat):cS tm d Iy=Ix d:=rfl
def ez(tm:Env)(d:Nat)(x:X):cS tm d (Ix x)=dM (aC tm x):=rfl
def oS{s:List Nat}{l h:Nat}(h1:l<=h)(h2:h<=s.length):jQ s (Ix l) (Ix h)=Ix (.str ((s.take h).drop l)):=by
 simp[jQ,yC h1,yC h2]
def iY{a b:List Nat}(h:a.length+b.length<=9223372036854775807):binOp .add (.str a) (.str b)=Ix (.str (a++b)):=by
 show N6 .add a b=_
 simp only[N6,yC h,yN]
def axb(k:xh)(n:Int):zR (.toInt .i64) (.int k n)=Ix (aa (IntKind.wrap .i64 n)):=rfl
def pQ(a b:List Nat):binOp .eql (.str a) (.str b)=Ix (.bool (cU a b)):=rfl
def AB{s:List Nat}{i:Nat}(h:i<s.length):rm i (.str s)=Ix (.int .u8 (s[i]:Nat)):=by
 simp only[rm,xz h]
def afo{r:Nat}(h:r<10):jQ [48,49,50,51,52,53,54,55,56,57] (Ix r) (Ix (r+1))=Ix (.str [48+r]):=by
 have:r=0\/r=1\/r=2\/r=3\/r=4\/r=5\/r=6\/r=7\/r=8\/r=9:=by lia
 rcases this with rfl | rfl | rfl | rfl | rfl | rfl | rfl | rfl | rfl | rfl<;>rfl
def abd(h:Has P L 292 Df){n:Nat}(hn:n<9223372036854775808):ah P L 292 [aa n,aa 1] (.str (ay n)):=by
 have key:=dT P L [0,1,5] sn
  (fun k st=>∃(m:Nat) (s:List Nat),st=⟨[(0,aa m),(1,aa 1),(5,.str s)],[],0,0⟩/\m<=n/\m+(1-s.length)=k/\s.length<=20/\((s=[]/\m=n)\/(0<s.length/\(m=0->s=ay n)/\(0<m->ay n=ay m++s))))
  (fun ex st=>∃tm ct,st=⟨tm,[],ct,0⟩/\ex=.exit 0/\ab tm 5=.str (ay n)) ?_
 .unfold ah;rw[aB h];simp only[go_sem,Df];generalize hq:D P L (.loop _ sn) _=q;obtain⟨ex,st,rfl,tm,ct,rfl,rfl,h2⟩:=bg hq (key (n+1)) ⟨n,[],by simp only[go_sem,ya,ao]<;>rfl,by lia,rfl,by simp,.inl ⟨rfl,rfl⟩⟩
  simp only[go_sem,ao,h2]
 .rintro k st ⟨m,s,rfl,hm,hk,hl,hs⟩;by_cases sU:0<m\/s.length<1
  .left
   have hc:((decide ((0:Int)<m))=ycO)\/((decide ((0:Int)<m))=ycP/\((s.length:Nat):Int)<1):=by
    by_cases h0:0<m
    .exact .inl (xG (by lia))
    .exact .inr ⟨xn (by lia),by lia⟩
   have hr:((m:Int)).tmod 10=((m%10:Nat):Int):=by rw[xF (by lia)];rfl
   have hq:((m:Int)).tdiv 10=((m/10:Nat):Int):=by rw[xR (by lia)];rfl
   have hd:=afo (r:=m%10) (by lia);have fin:∃s' k',D P L sn ⟨[(0,aa m),(1,aa 1),(5,.str s)],[],0,0⟩=Ix (.normal,s')/\k'<k/\bW [0,1,5] s'=⟨[(0,aa (m/10:Nat)),(1,aa 1),(5,.str ([48+m%10]++s))],[],0,0⟩/\m/10+(1-([48+m%10]++s).length)=k':=by
    rcases hc with hc | ⟨hc,Cg⟩
    .have hc:(0:Int)<m:=of_decide_eq_true hc
     simp only[go_sem,ya,yb,sn,hc,iD _ _ _ (show (10:Int)≠0 by decide),gN _ _ _ (show (10:Int)≠0 by decide),hr,hq,wrapN (n:=m%10+1) (by lia),wrap64 (n:=((m/10:Nat):Int)) (by lia) (by lia),fD,ez,show ((m%10:Nat):Int)+1=((m%10+1:Nat):Int) from rfl,hd,iY (a:=[48+m%10]) (b:=s) (by simp;lia)]
     refine⟨_,_,rfl,?_,by simp only[go_sem,ya,ao],rfl⟩
     simp;lia
    .have hc:¬(0:Int)<m:=of_decide_eq_false hc
     simp only[go_sem,ya,yb,sn,hc,Cg,iD _ _ _ (show (10:Int)≠0 by decide),gN _ _ _ (show (10:Int)≠0 by decide),hr,hq,wrapN (n:=m%10+1) (by lia),wrap64 (n:=((m/10:Nat):Int)) (by lia) (by lia),fD,ez,show ((m%10:Nat):Int)+1=((m%10+1:Nat):Int) from rfl,hd,iY (a:=[48+m%10]) (b:=s) (by simp;lia)]
     refine⟨_,_,rfl,?_,by simp only[go_sem,ya,ao],rfl⟩
     simp;lia
   have⟨s',k',f1,f2,f3,f4⟩:=fin;refine⟨s',k',f1,f2,m/10,[48+m%10]++s,f3,by lia,f4,?_,.inr ⟨by simp,fun h0=>?_,fun h0=>?_⟩⟩
   .have aJB:=RB (n:=n) (by lia);rcases hs with ⟨rfl,rfl⟩ | ⟨h1,h2,h3⟩
    .simp
    .by_cases h0:0<m
     .have e:=congrArg tK (h3 h0);have e2:0<(ay m).length:=by
       by_cases h9:m<10
       .rw [rY h9];simp
       .rw [zy h9];simp
      simp only[yE] at e
      simp;lia
     .lia
   .have h9:m<10:=by lia
    rcases hs with ⟨rfl,rfl⟩ | ⟨h1,h2,h3⟩
    .rw [rY h9,y8 h9];rfl
    .have:0<m:=by lia
     rw[h3 this,rY h9,y8 h9]
   .have h9:¬m<10:=by lia
    rcases hs with ⟨rfl,rfl⟩ | ⟨h1,h2,h3⟩
    .rw [zy h9];simp
    .rw [h3 (by lia),zy h9];simp
  .right
   simp only[go_sem,ya,sn,show ¬(0:Int)<m by lia,show ¬((s.length:Nat):Int)<1 by lia];refine⟨_,_,rfl,by simp,_,_,rfl,rfl,?_⟩;simp only[go_sem,ya];rcases hs with ⟨rfl,rfl⟩ | ⟨h1,h2,h3⟩
   .simp at sU
   .rw [h2 (by lia)]
def aDV(h:Has P L 291 OW){b:Nat}(ha:a<9223372036854775808)(hb:b<9223372036854775808):ah P L 291 [aa a,aa b] (aa (wX a b)):=by
 have key:=dT P L [0,1] NP
  (fun k st=>∃x y:Nat,st=⟨[(0,aa x),(1,aa y)],[],0,0⟩/\y=k/\wX x y=wX a b)
  (fun ex st=>∃tm ct,st=⟨tm,[],ct,0⟩/\ex=.exit 0/\ab tm 0=aa (wX a b)) ?_
 .unfold ah;rw[aB h];simp only[go_sem,OW];generalize hq:D P L (.loop _ NP) _=q;obtain⟨ex,st,rfl,tm,ct,rfl,rfl,h2⟩:=bg hq (key b) ⟨a,b,by simp only[go_sem,ya,ao]<;>rfl,rfl,rfl⟩
  simp only[go_sem,ao,h2]
 .rintro k st ⟨x,y,rfl,rfl,hg⟩;by_cases hy:y=0
  .right
   subst hy;simp only[go_sem,ya,NP,show ¬(0:Int)<((0:Nat):Int) by lia];refine⟨_,_,rfl,by simp,_,_,rfl,rfl,?_⟩;simp only[go_sem,ya];rw[<-hg,Nat.gcd_zero_right]
  .left
   have hr:((x:Int)).tmod y=((x%y:Nat):Int):=by rw[xF (by lia)];rfl
   simp only[go_sem,ya,NP,show (0:Int)<y by lia,iD _ _ _ (show (y:Int)≠0 by lia),hr];refine⟨_,x%y,rfl,xV _ (by lia),y,x%y,by simp only[go_sem,ya,ao],rfl,?_⟩;rw[<-hg,tN y,<-ycC,tN]
def Ki(h:Has P L 272 OT){s:List Nat}(hl:s.length<9223372036854775808):ah P L 272 [.str s] (aa (bY s)):=by
 have key:=dT P L [0,3] Jg
  (fun k st=>∃i:Nat,st=⟨[(0,.str s),(3,aa i)],[],0,0⟩/\i+k=s.length/\i+bY (s.drop i)=bY s)
  (fun ex st=>∃tm ct,st=⟨tm,[],ct,0⟩/\((ex=.ret/\ab tm 2=aa (bY s))\/(ex=.exit 0/\ab tm 0=.str s/\bY s=s.length))) ?_
 .unfold ah;rw[aB h];simp only[go_sem,OT];generalize hq:D P L (.loop _ Jg) _=q;obtain⟨ex,st,rfl,tm,ct,rfl,h2⟩:=bg hq (key s.length) ⟨0,by simp only[go_sem,ya,ao]<;>rfl,by lia,by simp⟩
  rcases h2 with ⟨rfl,h2⟩ | ⟨rfl,h2,h3⟩
  .simp only [go_sem,h2]
  .simp only [go_sem,ao,h2,h3]
 .rintro k st ⟨i,rfl,hk,hs⟩;by_cases hi:i<s.length
  .rw [aqq hi] at hs;by_cases h7:s[i]=47
   .right
    rw[yK h7] at hs;simp only[go_sem,ya,Jg,show (i:Int)<s.length by lia,AB hi,show ((s[i]:Nat):Int)=47 by lia];refine⟨_,_,rfl,by simp,_,_,rfl,.inl ⟨rfl,?_⟩⟩;simp only[go_sem];rw[<-hs];rfl
   .left
    rw[yx h7] at hs;simp only[go_sem,ya,Jg,show (i:Int)<s.length by lia,AB hi,show ¬((s[i]:Nat):Int)=47 by lia];refine⟨_,k-1,rfl,by lia,i+1,?_,by lia,by lia⟩;rw[wrap64 (by lia) (by lia)];simp only[go_sem,ya,ao]<;>rfl
  .right
   simp only[go_sem,ya,Jg,show ¬(i:Int)<s.length by lia];refine⟨_,_,rfl,by simp,_,_,rfl,.inr ⟨rfl,rfl,?_⟩⟩;rw[yY (by lia)] at hs;simp only[bY] at hs
   lia
def O9(h:Has P L 290 Kc){s:List Nat}{v:Nat}(hl:s.length<=18)(hv:da s 0=Ix v):ah P L 290 [.str s] (aa v):=by
 have key:=dT P L [0,3,4] NO
  (fun k st=>∃i a:Nat,st=⟨[(0,.str s),(3,aa a),(4,aa i)],[],0,0⟩/\i+k=s.length/\a<10^i/\da (s.drop i) a=Ix v)
  (fun ex st=>∃tm ct,st=⟨tm,[],ct,0⟩/\ex=.exit 0/\ab tm 3=aa v) ?_
 .unfold ah;rw[aB h];simp only[go_sem,Kc];generalize hq:D P L (.loop _ NO) _=q;obtain⟨ex,st,rfl,tm,ct,rfl,rfl,h2⟩:=bg hq (key s.length) ⟨0,0,by simp only[go_sem,ya,ao]<;>rfl,by lia,by simp,hv⟩
  simp only[go_sem,ao,h2]
 .rintro k st ⟨i,a,rfl,hk,ha,hs⟩;by_cases hi:i<s.length
  .left
   have⟨h1,h2,h3⟩:=asw hi hs;have hp:10^i<=10^17:=y9 (by decide) (by lia);have hb:IntKind.wrap .i64 ((s[i]:Nat):Int)=((s[i]:Nat):Int):=wrap64 (by lia) (by lia)
   simp only[go_sem,ya,NO,show (i:Int)<s.length by lia,AB hi,axb,hb,wrap64 (n:=10*(a:Int)) (by lia) (by lia),wrap64 (n:=10*(a:Int)+(s[i]:Nat)) (by lia) (by lia),wrap64 (n:=10*(a:Int)+(s[i]:Nat)-48) (by lia) (by lia)];refine⟨_,k-1,rfl,by lia,i+1,10*a+(s[i]-48),?_,by lia,?_,h3⟩
   .rw [wrap64 (by lia) (by lia),show 10*(a:Int)+(s[i]:Nat)-48=((10*a+(s[i]-48):Nat):Int) by lia];simp only[go_sem,ya,ao]<;>rfl
   .rw [xJ];lia
  .right
   simp only[go_sem,ya,NO,show ¬(i:Int)<s.length by lia];refine⟨_,_,rfl,by simp,_,_,rfl,rfl,?_⟩;rw[yY (by lia)] at hs;simp only[da,yc] at hs;subst hs;simp only[go_sem,ya]
def SF(a:Int):(if 0-a>a then 0-a else a)=(a.natAbs:Int):=by lia
def R8(a b:Int):a.tdiv (vE a b:Nat)=dE a b:=yaH (yab a b)
def R9(a b:Int):b.tdiv (vE a b:Nat)=dI a b:=yaH (tV a b)
def rZ(n:Int):(if n<0 then [45] else [])++ay n.natAbs=aU n:=by
 split
 .rename_i h;rw[mZ h];rfl
 .rename_i h;obtain⟨m,rfl⟩:∃m:Nat,n=m:=⟨n.toNat,by lia⟩;rfl
def auK{n:Int}(h:n.natAbs<18446744073709551616):(aU n).length<=21:=by
 rw[<-rZ]
 have:=RB h
 grind
def axc{a b:Int}(hb:0<b):zV a b=(if 1<dI a b then (aU (dE a b)++[47])++ay (dI a b).natAbs else aU (dE a b)):=by
 have h:=M3 (a:=a) hb;unfold zV;by_cases h1:dI a b=1
 .grind
 .rw [yx h1,yK (by lia)];obtain⟨m,hm⟩:∃m:Nat,dI a b=m:=⟨(dI a b).toNat,by lia⟩;rw[hm];rfl
def aDW(h:Has P L 277 Hm)(abe:Has P L 291 OW)(zW:Has P L 292 Df){a b:Int}(ha: -4000000000000000000<=a/\a<=4000000000000000000)(hb:0<b/\b<=4000000000000000000):
  ah P L 277 [aa a,aa b] (.str (zV a b)):=by
 have hn:=Yp a b;have hd:=Yq a b;have hp:=M3 (a:=a) hb.1;have e1:=aDV abe (a:=a.natAbs) (b:=b.natAbs) (by lia) (by lia);have e2:=abd zW (n:=(dE a b).natAbs) (by lia);have e3:=abd zW (n:=(dI a b).natAbs) (by lia);have hg:=Nk (a:=a) hb.1;rw[show ((b.natAbs:Nat):Int)=b by lia,show wX a.natAbs b.natAbs=vE a b from rfl] at e1;rw[show (((dI a b).natAbs:Nat):Int)=dI a b by lia] at e3;have qG:=auK (n:=dE a b) (by lia);have qH:=RB (n:=(dE a b).natAbs) (by lia);have hl3:=RB (n:=(dI a b).natAbs) (by lia);have hT:=axc (a:=a) hb.1;have hS:=rZ (dE a b);unfold ah at e1 e2 e3 ⊢;rw[aB h];by_cases h0:dE a b<0
 .rw [yK h0] at hS;by_cases h1:1<dI a b
  .rw [yK h1] at hT
   simp only[go_sem,ya,Hm,show ¬a< -4000000000000000000 by lia,show ¬4000000000000000000<a by lia,show ¬b< -4000000000000000000 by lia,show ¬4000000000000000000<b by lia,show ¬b<0 by lia,wrap64 (n:=0-a) (by lia) (by lia),NZ,M2,SF,e1,gN _ _ _ (show ((vE a b:Nat):Int)≠0 by lia),R8,R9,wrap64 (n:=dE a b) (by lia) (by lia),wrap64 (n:=dI a b) (by lia) (by lia),h0,wrap64 (n:=0-dE a b) (by lia) (by lia),e2,iY (a:=[45]) (b:=ay (dE a b).natAbs) (by simp;lia),hS,h1,iY (a:=aU (dE a b)) (b:=[47]) (by simp;lia),e3,iY (a:=aU (dE a b)++[47]) (b:=ay (dI a b).natAbs) (by simp;lia),hT]
  .rw [yx h1] at hT
   simp only[go_sem,ya,Hm,show ¬a< -4000000000000000000 by lia,show ¬4000000000000000000<a by lia,show ¬b< -4000000000000000000 by lia,show ¬4000000000000000000<b by lia,show ¬b<0 by lia,wrap64 (n:=0-a) (by lia) (by lia),NZ,M2,SF,e1,gN _ _ _ (show ((vE a b:Nat):Int)≠0 by lia),R8,R9,wrap64 (n:=dE a b) (by lia) (by lia),wrap64 (n:=dI a b) (by lia) (by lia),h0,wrap64 (n:=0-dE a b) (by lia) (by lia),e2,iY (a:=[45]) (b:=ay (dE a b).natAbs) (by simp;lia),hS,h1,hT]
 .rw [yx h0] at hS;by_cases h1:1<dI a b
  .rw [yK h1] at hT
   simp only[go_sem,ya,Hm,show ¬a< -4000000000000000000 by lia,show ¬4000000000000000000<a by lia,show ¬b< -4000000000000000000 by lia,show ¬4000000000000000000<b by lia,show ¬b<0 by lia,wrap64 (n:=0-a) (by lia) (by lia),NZ,M2,SF,e1,gN _ _ _ (show ((vE a b:Nat):Int)≠0 by lia),R8,R9,wrap64 (n:=dE a b) (by lia) (by lia),wrap64 (n:=dI a b) (by lia) (by lia),h0,wrap64 (n:=0-dE a b) (by lia) (by lia),e2,iY (a:=[]) (b:=ay (dE a b).natAbs) (by simp;lia),hS,h1,iY (a:=aU (dE a b)) (b:=[47]) (by simp;lia),e3,iY (a:=aU (dE a b)++[47]) (b:=ay (dI a b).natAbs) (by simp;lia),hT]
  .rw [yx h1] at hT
   simp only[go_sem,ya,Hm,show ¬a< -4000000000000000000 by lia,show ¬4000000000000000000<a by lia,show ¬b< -4000000000000000000 by lia,show ¬4000000000000000000<b by lia,show ¬b<0 by lia,wrap64 (n:=0-a) (by lia) (by lia),NZ,M2,SF,e1,gN _ _ _ (show ((vE a b:Nat):Int)≠0 by lia),R8,R9,wrap64 (n:=dE a b) (by lia) (by lia),wrap64 (n:=dI a b) (by lia) (by lia),h0,wrap64 (n:=0-dE a b) (by lia) (by lia),e2,iY (a:=[]) (b:=ay (dE a b).natAbs) (by simp;lia),hS,h1,hT]
def TT(n:Int)(d:Nat):List Nat:=aU n++(if d=1 then [] else 47::ay d)
def axd{a b:Int}(hb:0<b):zV a b=TT (dE a b) (dI a b).toNat:=by
 have h:=M3 (a:=a) hb;unfold zV TT;by_cases h1:dI a b=1
 .grind
 .rw [yx h1,yx (by lia)];obtain⟨m,hm⟩:∃m:Nat,dI a b=m:=⟨(dI a b).toNat,by lia⟩;rw[hm,xu];rfl
def Bv(n:Nat):0<(ay n).length:=by
 by_cases h:n<10
 .rw [rY h];simp
 .rw [zy h];simp
def Nl:∀(n:Nat),n<10^(ay n).length:=by
 intro n
 induction n using vX with
 | _ n ih=>
  by_cases h:n<10
  .rw [rY h];simpa using h
  .have:=ih (n/10) (by lia)
   rw[zy h,yE,uK,xJ]
   lia
def ahk{n:Nat}(h:(ay n).length<=9):n<1000000000:=
 yT (Nl n) (by simpa using y9 (show 0<10 by decide) h)
def IP(n:Nat):∃b r,ay n=b::r/\48<=b/\b<=57:=by
 cases hq:ay n with
 | nil=>have:=Bv n;rw[hq] at this;simp at this
 | cons b r=>
  have:=CA n
  rw[hq] at this;simp only[dK,yj] at this
  simp_all
def Ht(s:List Nat):rm 0 (.str (45::s))=Ix (.int .u8 45):=rfl
def Zv(q:Bool)(n:Int)(d:Nat):AV:=if q=ycO then .ax [aa n,aa d,.bool ycO] else .ax [aa 0,aa 0,.bool ycP]
def kU(d:Nat):List Nat:=if d=1 then [] else 47::ay d
def Xv(d:Nat):bY (kU d)=0:=by unfold kU;split<;>rfl
def aDX(h:Has P L 276 zU)(E8:Has P L 272 OT)(Dh:Has P L 290 Kc){n:Int}(hl:(TT n d).length<=20000000000):
  ∃q:Bool,ah P L 276 [.str (TT n d)] (Zv q n d)/\(q=ycO->n.natAbs<1000000000/\d<1000000000):=by
 generalize hs:TT n d=s at hl;by_cases qP:20<s.length
 .refine ⟨ycP,?_,fun h=>by cases h⟩;unfold ah;rw[aB h];simp only[go_sem,ya,zU,show (20:Int)<s.length by lia];rfl
 .have hu:∃u,u=ay n.natAbs++kU d:=⟨_,rfl⟩;have⟨u,hu⟩:=hu;have hK:∃K,K=(ay n.natAbs).length:=⟨_,rfl⟩;have⟨K,hK⟩:=hK;have sQ:bY u=K:=by rw[hu,MF _ (CA _),Xv,hK];rfl
  have hlen:u.length=K+(kU d).length:=by rw[hu,hK,yE]
  have hp:=Bv n.natAbs;have⟨b,r,hb,qK,Aj⟩:=IP n.natAbs;have HY:(n<0/\s=45::u)\/(¬n<0/\s=u):=by
   by_cases h0:n<0
   .left;refine⟨h0,?_⟩;rw[<-hs,hu,TT,mZ h0];rfl
   .right;refine⟨h0,?_⟩;rw[<-hs,hu,TT,<-rZ,yx h0];rfl
  have hul:u.length<=s.length:=by rcases HY with ⟨_,e⟩ | ⟨_,e⟩<;>rw[e]<;>simp
  have FD:0<u.length:=by lia
  have A7:u[0]=b:=by
   have:u=b::(r++kU d):=by rw[hu,hb];rfl
   simp[this]
  have e1:=Ki E8 (s:=u) (by lia);rw[sQ] at e1;have fh:jQ u (Ix 0) (Ix K)=Ix (.str (ay n.natAbs)):=by
   rw[oS (by lia) (by lia),yh,hu,hK,List.take_left]
  unfold ah at e1;by_cases h9:9<K
  .refine ⟨ycP,?_,fun h=>by cases h⟩;unfold ah;rw[aB h];rcases HY with ⟨h0,e⟩ | ⟨h0,e⟩
   .have qP:¬20<u.length+1:=by rw[e] at qP;exact qP
    have oG:jQ (45::u) (Ix 1) (Ix (u.length+1))=Ix (.str u):=by rw[oS (s:=45::u) (l:=1) (h:=u.length+1) (by lia) (by simp)];simp
    rw[e];simp only[go_sem,ya,zU,show ¬(20:Int)<((u.length+1:Nat):Int) by lia,show (0:Int)<((u.length+1:Nat):Int) by lia,Ht,fD,gh,ez,oG,e1,show (9:Int)<(K:Int) by lia];rfl
   .rw [e];simp only[go_sem,ya,zU,show ¬(20:Int)<(u.length:Nat) by lia,show (0:Int)<(u.length:Nat) by lia,AB FD,A7,show ¬((b:Nat):Int)=45 by lia,e1,show (9:Int)<(K:Int) by lia];rfl
  .by_cases jk:10<(kU d).length
   .refine ⟨ycP,?_,fun h=>by cases h⟩;unfold ah;rw[aB h];rcases HY with ⟨h0,e⟩ | ⟨h0,e⟩
    .have qP:¬20<u.length+1:=by rw[e] at qP;exact qP
     have oG:jQ (45::u) (Ix 1) (Ix (u.length+1))=Ix (.str u):=by rw[oS (s:=45::u) (l:=1) (h:=u.length+1) (by lia) (by simp)];simp
     rw[e]
     simp only[go_sem,ya,zU,show ¬(20:Int)<((u.length+1:Nat):Int) by lia,show (0:Int)<((u.length+1:Nat):Int) by lia,Ht,fD,gh,ez,oG,e1,show ¬(9:Int)<(K:Int) by lia,wrap64 (n:=(u.length:Int)-(K:Int)) (by lia) (by lia),show (10:Int)<(u.length:Int)-(K:Int) by lia];rfl
    .rw [e]
     simp only[go_sem,ya,zU,show ¬(20:Int)<(u.length:Nat) by lia,show (0:Int)<(u.length:Nat) by lia,AB FD,A7,show ¬((b:Nat):Int)=45 by lia,e1,show ¬(9:Int)<(K:Int) by lia,wrap64 (n:=(u.length:Int)-(K:Int)) (by lia) (by lia),show (10:Int)<(u.length:Int)-(K:Int) by lia];rfl
   .have e2:=O9 Dh (s:=ay n.natAbs) (by lia) (Bs n.natAbs);unfold ah at e2;have hm:=ahk (n:=n.natAbs) (by lia);by_cases hd:d=1
    .subst hd;have gK:kU 1=[]:=rfl;refine⟨ycO,?_,fun _=>⟨hm,by decide⟩⟩;rw[gK] at hlen;simp only[yI,xg] at hlen;unfold ah;rw[aB h];rcases HY with ⟨h0,e⟩ | ⟨h0,e⟩
     .have qP:¬20<u.length+1:=by rw[e] at qP;exact qP
      have oG:jQ (45::u) (Ix 1) (Ix (u.length+1))=Ix (.str u):=by rw[oS (s:=45::u) (l:=1) (h:=u.length+1) (by lia) (by simp)];simp
      rw[e]
      simp only[go_sem,ya,zU,show ¬(20:Int)<((u.length+1:Nat):Int) by lia,show (0:Int)<((u.length+1:Nat):Int) by lia,Ht,fD,gh,ez,oG,e1,show ¬(9:Int)<(K:Int) by lia,wrap64 (n:=(u.length:Int)-(K:Int)) (by lia) (by lia),show ¬(10:Int)<(u.length:Int)-(K:Int) by lia,fh,e2,show ¬(K:Int)<(u.length:Int) by lia,wrap64 (n:=0-(n.natAbs:Int)) (by lia) (by lia)];rw[show 0-(n.natAbs:Int)=n by lia];rfl
     .rw [e]
      simp only[go_sem,ya,zU,show ¬(20:Int)<(u.length:Nat) by lia,show (0:Int)<(u.length:Nat) by lia,AB FD,A7,show ¬((b:Nat):Int)=45 by lia,fD,gh,ez,e1,show ¬(9:Int)<(K:Int) by lia,wrap64 (n:=(u.length:Int)-(K:Int)) (by lia) (by lia),show ¬(10:Int)<(u.length:Int)-(K:Int) by lia,fh,e2,show ¬(K:Int)<(u.length:Int) by lia];rw[show (n.natAbs:Int)=n by lia];rfl
    .have gK:kU d=47::ay d:=yx hd;have Qc:(kU d).length=(ay d).length+1:=by rw[gK];rfl
     have hpd:=Bv d;have hd9:=ahk (n:=d) (by lia);have e3:=O9 Dh (s:=ay d) (by lia) (Bs d);unfold ah at e3;have Cg:jQ u (Ix (K+1)) (Ix u.length)=Ix (.str (ay d)):=by
      rw[oS (by lia) (ym _),xH,hu,gK,hK,show (ay n.natAbs).length+1=(ay n.natAbs++[47]).length by simp,show ay n.natAbs++47::ay d=(ay n.natAbs++[47])++ay d by simp,List.drop_left]
     refine⟨ycO,?_,fun _=>⟨hm,hd9⟩⟩;unfold ah;rw[aB h];rcases HY with ⟨h0,e⟩ | ⟨h0,e⟩
     .have qP:¬20<u.length+1:=by rw[e] at qP;exact qP
      have oG:jQ (45::u) (Ix 1) (Ix (u.length+1))=Ix (.str u):=by rw[oS (s:=45::u) (l:=1) (h:=u.length+1) (by lia) (by simp)];simp
      rw[e]
      simp only[go_sem,ya,zU,show ¬(20:Int)<((u.length+1:Nat):Int) by lia,show (0:Int)<((u.length+1:Nat):Int) by lia,Ht,fD,gh,ez,oG,e1,show ¬(9:Int)<(K:Int) by lia,wrap64 (n:=(u.length:Int)-(K:Int)) (by lia) (by lia),show ¬(10:Int)<(u.length:Int)-(K:Int) by lia,fh,e2,show (K:Int)<(u.length:Int) by lia,wrapN (n:=K+1) (by lia),show (K:Int)+1=((K+1:Nat):Int) from rfl,Cg,e3,wrap64 (n:=0-(n.natAbs:Int)) (by lia) (by lia)];rw[show 0-(n.natAbs:Int)=n by lia];rfl
     .rw [e]
      simp only[go_sem,ya,zU,show ¬(20:Int)<(u.length:Nat) by lia,show (0:Int)<(u.length:Nat) by lia,AB FD,A7,show ¬((b:Nat):Int)=45 by lia,fD,gh,ez,e1,show ¬(9:Int)<(K:Int) by lia,wrap64 (n:=(u.length:Int)-(K:Int)) (by lia) (by lia),show ¬(10:Int)<(u.length:Int)-(K:Int) by lia,fh,e2,show (K:Int)<(u.length:Int) by lia,wrapN (n:=K+1) (by lia),show (K:Int)+1=((K+1:Nat):Int) from rfl,Cg,e3];rw[show (n.natAbs:Int)=n by lia];rfl
def abf(h:Has P L 302 BX){l:List Int}(hv:bl v l)(i:Nat):ah P L 302 [v,aa i] (aa (l.getD i 0)):=by
 unfold ah;rw[aB h];by_cases hi:i<l.length
 .simp only [go_sem,ya,BX,hv.len,show (i:Int)<l.length by lia,hv.aT hi];simp[yW,xz hi]
 .simp only [go_sem,ya,BX,hv.len,show ¬(i:Int)<l.length by lia];simp[yW,List.getElem?_eq_none (Nat.le_of_not_lt hi)]
def aiE{e:Bool}{n:Nat}{cs:List AV}{h:Nat}{x:X}(hx:cS tm n (Ix x)=Ix h)(hh:h<=n):
  gI hp (.sl 1) (.aF e n cs) tm Iy (Ix x)=Ix (.aF (e&&yG h n) h (cs.take h)):=by
 simp only[gI,hx,gh];simp[yC hh,slice];rw[show yO 0 h=ycO from yC (uO _)];rfl
def E9(h:Has P L 300 pk){l:List Int}(hv:bl v l)(hl:l.length<=20000000000):∃r,ah P L 300 [v] r/\bl r (eZ l)/\shut r=r:=by
 rcases hv with ⟨rfl,h0⟩ | ⟨e,rfl⟩
 .have:l=[]:=by simpa using h0
  subst this;refine⟨.ae,?_,mY,rfl⟩;unfold ah;rw[aB h];simp only[go_sem,ya,pk,S7,GI,ao,show ¬(0:Int)<0 by decide]
 .have key:=dT P L [0] GI
   (fun k st=>∃(i:Nat) (e:Bool),st=⟨[(0,.aF e i ((l.take i).map aa))],[],0,0⟩/\i<=l.length/\i=k/\eZ (l.take i)=eZ l)
   (fun ex st=>∃tm ct,st=⟨tm,[],ct,0⟩/\ex=.exit 0/\∃i e,ab tm 0=.aF e i ((l.take i).map aa)/\i<=l.length/\l.take i=eZ l) ?_
  .have hlen:(l.map aa).length=l.length:=by simp
   rw[hlen];have lf:∃i e',ah P L 300 [.aF e l.length (l.map aa)] (.aF e' i ((l.take i).map aa))/\i<=l.length/\l.take i=eZ l:=by
    unfold ah;rw[aB h];simp only[go_sem,pk];generalize hq:D P L (.loop _ GI) _=q;obtain⟨ex,st,rfl,tm,ct,rfl,rfl,i,e',h2,h3,h4⟩:=bg hq (key l.length) ⟨l.length,e,by simp only[go_sem,ya,ao,xH],ym _,rfl,by rw[xH]⟩;simp only[go_sem,ao,h2];exact⟨i,e',rfl,h3,h4⟩
   have⟨i,e',g1,g2,g3⟩:=lf;refine⟨_,g1,?_,rfl⟩;rw[<-g3]
   have:=fZ e' (l.take i)
   rwa[yJ,xq g2] at this
  .rintro k st ⟨i,e,rfl,hi,rfl,ht⟩
   cases i with
   | zero=>
    right
    simp only[go_sem,ya,GI,show ¬(0:Int)<((0:Nat):Int) by lia];exact⟨_,_,rfl,by simp,_,_,rfl,rfl,0,e,rfl,uO _,by simpa[eZ] using ht⟩
   | succ i=>
    have Qd:i<l.length:=by lia
    have dW:l.take (i+1)=l.take i++[l[i]]:=yk Qd;have ik:xK i ((l.take (i+1)).map aa)=[AV.int .i64 l[i]]:=by
     rw[dW,yX,tp (by simp;lia)];rfl
    have sW:iZ 1 i (.aF e (i+1) ((l.take (i+1)).map aa))=Ix (.aQ [AV.int .i64 l[i]]):=by
     rw[SD e _ (by lia),yf,ik]
    by_cases h0:l[i]=0
    .left
     have ki:∀tm x,cS tm (i+1) (Ix x)=Ix i->gI [] (.sl 1) (.aF e (i+1) ((l.take (i+1)).map aa)) tm Iy (Ix x)=Ix (.aF (e&&yG i (i+1)) i ((l.take i).map aa)):=fun tm x hx=>by
      rw[aiE hx (by lia),<-yax,List.take_take,xq (by lia)]
     simp only[go_sem,ya,GI,show (0:Int)<((i+1:Nat):Int) by lia,show ((i+1:Nat):Int)-1=(i:Int) by lia,wrapN (n:=i) (by lia),sW,h0,ki,ez];refine⟨_,i,rfl,by lia,i,_,by simp only[go_sem,ao]<;>rfl,by lia,rfl,?_⟩
     rw[<-ht,dW,h0,ML]
    .right
     simp only[go_sem,ya,GI,show (0:Int)<((i+1:Nat):Int) by lia,show ((i+1:Nat):Int)-1=(i:Int) by lia,wrapN (n:=i) (by lia),sW,h0];refine⟨_,_,rfl,by simp,_,_,rfl,rfl,i+1,e,rfl,by lia,?_⟩;rw[<-ht,dW,Rz h0]
section
variable {hp:Hp}{l:List Nat}{n x y:Nat}
def BY:(2^64)^(n+1)=(2^64)^n*2^64:=xJ ..
open Go (IntKind)
abbrev uc(n:Nat):AV:=.int .u64 (n:Int)
def bL(v:AV)(l:List Nat):Prop:=dt v (l.map uc)
section
variable {v:AV}{l:List Nat}
def bL.len(h:bL v l):fu hp 1 v=Ix (.int .i64 (l.length:Nat)):=by
 have:=dt.len (hp:=hp) h
 grind
def bL.pu(h:bL v l):aP v=ycO:=dt.pu h
def bL.af(h:bL v l)(n:Nat):freeze (n+1) hp v=Ix (v,hp):=dt.af h n
def bL.shut(h:bL v l):VE.shut v=v:=dt.shut h
def bL.cd(h:bL v l):VE.cd v=v:=dt.cd h
def bL.eG(h:bL v l):result hp v=Ix v:=dt.eG h
def bL.one(h:bL v l):bF v=ycO:=dt.one h
def bL.aT(h:bL v l){i:Nat}(hi:i<l.length):iZ 1 i v=Ix (.aQ (uc (l.getD i 0)::(l.map uc).drop (i+1))):=by
 have:=dt.aT h (i:=i) (by simpa using hi)
 grind
def qZ(e:Bool)(l:List Nat):bL (.aF e l.length (l.map uc)) l:=by
 have:=Nj e (l.map uc)
 rwa[yg] at this
def CD:bL .ae []:=mY
end
def nN{id o:Nat}{v:Nat}(h:o<l.length):fN hp ct id o 1 [.int .u64 (v:Int)] (Ix (.cells ycO ycO ex 1 (l.map uc)))=Ix (.ax [],aV hp id (.cells ycO ycO ex 1 ((l.set o v).map uc)),ct):=by
 rw[mb (by rfl) (by simp;lia) (by rfl)]
 have:over o [uc v] (l.map uc)=(l.set o v).map uc:=by
  simp only[over,yB,yI,yd];rw[List.map_set,uC,yK (by simpa using h)]
  simp
 rw[this];rfl
def C4{o:Nat}(h:o<l.length):xK o (l.map uc)=uc (l.getD o 0)::xK (o+1) (l.map uc):=by
 rw[yP (by simpa using h)]
 grind
def axe(n:Nat):(ye n [AV.int .u64 0]).flatten=(ye n 0).map uc:=by simp_all
def Hu(ct:Nat)(h:n<=100000000000):rE ct 1 8 [.int .u64 0] (Ix n) (Ix n)=Ix (.av ct 0 n,.cells ycO ycO ycO 1 ((ye n 0).map uc)):=by
 rw[BF (sz:=1) (by lia) (by lia) (by rfl) (by rfl),axe];rfl
def Fa(hp:Hp)(h:l.length=n)(ex:Bool):nG 0 n (Ix (ex,1,l.map uc,hp))=Ix (.aF ex n (l.map uc),hp):=oR ex (by simp[h]) (by decide)
def ak5(h:n<2^64):IntKind.wrap .u64 (n:Int)=n:=aCa (by lia) (by lia)
section
variable {P:aJ}{L:Lib}{f:cG}
def nA{b:Nat}(h:a<b):yU a b=ycO:=by simp_all
def GS(h:L.pure 171=Ix sj){c:Nat}(hx:x<2^64)(hy:y<2^64)(hc:c<=1):
  bM P L f 171 [uc x,uc y,uc c]=Ix (.ax [uc ((x+y+c)%2^64),uc ((x+y+c)/2^64)]):=by
 rw[lI h];show (bif yO c 1&&(yU x (2^64)&&yU y (2^64)) then _ else Iy)=_
 rw[yC hc,nA hx,nA hy];rfl
def Zw(h:L.pure 173=Ix En){c:Nat}(hx:x<2^64)(hy:y<2^64)(hc:c<=1):
  bM P L f 173 [uc x,uc y,uc c]=Ix (.ax [uc ((x+2^64*2-y-c)%2^64),uc (if y+c<=x then 0 else 1)]):=by
 rw[lI h];show (bif yO c 1&&(yU x (2^64)&&yU y (2^64)) then _ else Iy)=_
 rw[yC hc,nA hx,nA hy];by_cases hh:y+c<=x
 .rw [yC hh,yK hh];rfl
 .have:yO (y+c) x=ycP:=by
   cases hq:yO (y+c) x with
   | false=>rfl
   | true=>exact absurd (yF hq) hh
  grind
def S9(h:L.pure 143=Ix BC)(hx:x<2^64)(hy:y<2^64):
  bM P L f 143 [uc x,uc y]=Ix (.ax [uc (x*y/2^64),uc (x*y%2^64)]):=by
 rw[lI h];show (bif yU x (2^64)&&yU y (2^64) then _ else Iy)=_
 rw[nA hx,nA hy];rfl
def auL{x:X}(hx:cS tm 0 (Ix x)=Ix 0):gI hp (.sl 1) .ae tm Iy (Ix x)=Ix .ae:=by
 simp only[gI,hx,gh]
def Fb(h:Has P L 166 EY)(hv:bL v l)(hl:l.length<=100000000000):∃r,ah P L 166 [v] r/\bL r (fa l):=by
 rcases hv with ⟨rfl,h0⟩ | ⟨e,rfl⟩
 .have:l=[]:=by simpa using h0
  subst this;refine⟨.ae,?_,mY⟩;unfold ah;rw[aB h];simp only[go_sem,ya,EY,S7,GF,ao,show ¬(0:Int)<0 by decide,auL,ez]
 .have key:=dT P L [0,3] GF
   (fun k st=>∃(i:Nat),st=⟨[(0,.aF e l.length (l.map uc)),(3,aa i)],[],0,0⟩/\i<=l.length/\i=k/\fa (l.take i)=fa l)
   (fun ex st=>∃tm ct,st=⟨tm,[],ct,0⟩/\ex=.exit 0/\∃i:Nat,ab tm 0=.aF e l.length (l.map uc)/\ab tm 3=aa i/\i<=l.length/\l.take i=fa l) ?_
  .have hlen:(l.map uc).length=l.length:=by simp
   rw[hlen];have lf:∃i e',ah P L 166 [.aF e l.length (l.map uc)] (.aF e' i ((l.take i).map uc))/\i<=l.length/\l.take i=fa l:=by
    unfold ah;rw[aB h];simp only[go_sem,ya,EY];generalize hq:D P L (.loop _ GF) _=q;obtain⟨ex,st,rfl,tm,ct,rfl,rfl,i,h2,h3,h4,h5⟩:=bg hq (key l.length) ⟨l.length,by simp only[go_sem,ya,ao],ym _,rfl,by rw[xH]⟩;have ki:∀tm x,cS tm l.length (Ix x)=Ix i->gI [] (.sl 1) (.aF e l.length (l.map uc)) tm Iy (Ix x)=Ix (.aF (e&&yG i l.length) i ((l.map uc).take i)):=fun tm x hx=>aiE hx h4
    simp only[go_sem,ya,ao,h2,h3,ki,ez];exact⟨i,_,by rw[yax],h4,h5⟩
   have⟨i,e',g1,g2,g3⟩:=lf;refine⟨_,g1,?_⟩;rw[<-g3]
   have:=qZ e' (l.take i)
   rwa[yJ,xq g2] at this
  .rintro k st ⟨i,rfl,hi,rfl,ht⟩
   cases i with
   | zero=>
    right
    simp only[go_sem,ya,GF,show ¬(0:Int)<((0:Nat):Int) by lia];exact⟨_,_,rfl,by simp,_,_,rfl,rfl,0,rfl,rfl,uO _,by simpa[fa] using ht⟩
   | succ i=>
    have Qd:i<l.length:=by lia
    have dW:l.take (i+1)=l.take i++[l[i]]:=yk Qd;have sW:=(qZ e l).aT Qd;rw[<-gd Qd] at sW;by_cases h0:l[i]=0
    .left
     simp only[go_sem,ya,GF,show (0:Int)<((i+1:Nat):Int) by lia,show ((i+1:Nat):Int)-1=(i:Int) by lia,wrapN (n:=i) (by lia),sW,show ((l[i]:Nat):Int)=0 by lia];refine⟨_,i,rfl,by lia,i,by simp only[go_sem,ya,ao],by lia,rfl,?_⟩;rw[<-ht,dW,h0,RA]
    .right
     simp only[go_sem,ya,GF,show (0:Int)<((i+1:Nat):Int) by lia,show ((i+1:Nat):Int)-1=(i:Int) by lia,wrapN (n:=i) (by lia),sW,show ¬((l[i]:Nat):Int)=0 by lia];refine⟨_,_,rfl,by simp,_,_,rfl,rfl,i+1,rfl,rfl,by lia,?_⟩;rw[<-ht,dW,IG h0]
end
end
section
variable {v w:AV}{out x y:List Nat}
def RC(p b s:Nat):p*(s%b)+p*b*(s/b)=p*s:=by
 rw[xD,<-xO,uy]
def asx{b:Nat}{i c:Nat}(hi:i<out.length)(hz:out.getD i 0=0)(hv:bv b out+b^i*c=bv b (x.take i)+bv b (y.take i)):
  bv b (out.set i ((x.getD i 0+y.getD i 0+c)%b))+b^(i+1)*((x.getD i 0+y.getD i 0+c)/b)=bv b (x.take (i+1))+bv b (y.take (i+1)):=by
 have h1:=so (b:=b) (x:=(x.getD i 0+y.getD i 0+c)%b) hi;have h2:=RC (b^i) b (x.getD i 0+y.getD i 0+c);rw[hz,xP,xg] at h1;rw[lP,lP,xJ,h1]
 grind
def asy{b:Nat}{i c z c':Nat}(hi:i<out.length)(hz:out.getD i 0=0)(hs:z+y.getD i 0+c=x.getD i 0+b*c')(hv:bv b out+bv b (y.take i)=bv b (x.take i)+b^i*c):
  bv b (out.set i z)+bv b (y.take (i+1))=bv b (x.take (i+1))+b^(i+1)*c':=by
 have h1:=so (b:=b) (x:=z) hi;rw[hz,xP,xg] at h1;rw[lP,lP,xJ,h1]
 grind
def amb(h:Has P L 158 J8)(hv:bL v x)(hw:bL w y)(hx:lo (2^64) x)(hy:lo (2^64) y)(nx:jm x)(ny:jm y)(lx:x.length<=100000000000)(ly:y.length<=100000000000):
  ah P L 158 [v,w] (aa (eL (bv (2^64) x) (bv (2^64) y))):=by
 unfold ah;rw[aB h];by_cases hlen:x.length=y.length
 .have key:=dT P L [0,1,5] GD
   (fun k st=>∃j:Nat,st=⟨[(0,v),(1,w),(5,aa ((j:Int)-1))],[],0,0⟩/\j<=x.length/\j=k/\x.drop j=y.drop j)
   (fun ex st=>∃tm ct,st=⟨tm,[],ct,0⟩/\((ex=.ret/\ab tm 4=aa (eL (bv (2^64) x) (bv (2^64) y)))\/(ex=.exit 0/\x=y))) ?_
  .simp only [go_sem,ya,J8,hv.len,hw.len,show (x.length:Int)=y.length by lia];generalize hq:D P L (.loop _ GD) _=q;obtain⟨ex,st,rfl,tm,ct,rfl,h2⟩:=bg hq (key x.length) ⟨x.length,by
    rw[wrap64 (by lia) (by lia),hlen]
    simp only[go_sem,ya,ao,aj hv.pu,aj hw.pu]<;>rfl,ym _,rfl,by rw[yY (ym _),yY (by lia)]⟩
   rcases h2 with ⟨rfl,h2⟩ | ⟨rfl,h2⟩
   .simp only [go_sem,h2]
   .simp only [go_sem,ao];subst h2;simp[eL]
  .rintro k st ⟨j,rfl,hj,rfl,he⟩
   cases j with
   | zero=>
    right
    simp only[go_sem,ya,GD,show ¬(0:Int)<=((0:Nat):Int)-1 by lia];exact⟨_,_,rfl,by simp,_,_,rfl,.inr ⟨rfl,by simpa using he⟩⟩
   | succ i=>
    have h1:i<x.length:=by lia
    have h2:i<y.length:=by lia
    have KL:=ait hx h1 h2 he;have aY:=ait hy h2 h1 he.symm;by_cases c0:x.getD i 0=y.getD i 0
    .left
     simp only[go_sem,ya,GD,show ((i+1:Nat):Int)-1=(i:Int) by lia,show (0:Int)<=(i:Int) by lia,hv.aT h1,hw.aT h2,c0];refine⟨_,i,rfl,by lia,i,?_,by lia,rfl,?_⟩
     .rw [wrap64 (by lia) (by lia)];simp only[go_sem,ya,ao,aj hv.pu,aj hw.pu]<;>rfl
     .rw [yP h1,yP h2,he,gd h1,gd h2,c0]
    .by_cases c1:x.getD i 0<y.getD i 0
     .right
      simp only[go_sem,ya,GD,show ((i+1:Nat):Int)-1=(i:Int) by lia,show (0:Int)<=(i:Int) by lia,hv.aT h1,hw.aT h2,show ¬((x.getD i 0:Nat):Int)=(y.getD i 0:Nat) by lia,show ((x.getD i 0:Nat):Int)<(y.getD i 0:Nat) by lia];refine⟨_,_,rfl,by simp,_,_,rfl,.inl ⟨rfl,?_⟩⟩;simp only[go_sem];unfold eL;rw[yK (KL c1)]
     .right
      simp only[go_sem,ya,GD,show ((i+1:Nat):Int)-1=(i:Int) by lia,show (0:Int)<=(i:Int) by lia,hv.aT h1,hw.aT h2,show ¬((x.getD i 0:Nat):Int)=(y.getD i 0:Nat) by lia,show ¬((x.getD i 0:Nat):Int)<(y.getD i 0:Nat) by lia];refine⟨_,_,rfl,by simp,_,_,rfl,.inl ⟨rfl,?_⟩⟩;simp only[go_sem];unfold eL;rw[yx (by lia),yK (by lia)]
 .by_cases c1:x.length<y.length
  .have:=SB (b:=2^64) (by decide) hx ny c1
   simp only[go_sem,ya,J8,hv.len,hw.len,show ¬(x.length:Int)=y.length by lia,show (x.length:Int)<y.length by lia];unfold eL;rw[yK this]
  .have:=SB (b:=2^64) (by decide) hy nx (show y.length<x.length by lia)
   simp only[go_sem,ya,J8,hv.len,hw.len,show ¬(x.length:Int)=y.length by lia,show ¬(x.length:Int)<y.length by lia];unfold eL;rw[yx (by lia),yK this]
def ajA(jg:L.pure 171=Ix sj)(hv:bL v x)(hw:bL w y)(hx:lo (2^64) x)(hy:lo (2^64) y)(lx:x.length<=99999999999)(ly:y.length<=x.length){n:Nat}(hn:n=x.length+1):
  cL P L [0,1,5,6,21,22] GC (fun k s=>∃(i c:Nat) (out:List Nat),s=⟨[(0,v),(1,w),(5,.av 0 0 n),(6,uc c),(21,aa x.length),(22,aa i)],[(0,.cells ycO ycO ycO 1 (out.map uc))],1,0⟩/\i+k=x.length/\out.length=n/\c<=1/\lo (2^64) out/\
    bv (2^64) out+(2^64)^i*c=bv (2^64) (x.take i)+bv (2^64) (y.take i)/\(∀m,i<=m->out.getD m 0=0)) (fun ex s'=>∃tm c out,s'=⟨tm,[(0,.cells ycO ycO ycO 1 (out.map uc))],1,0⟩/\ex=.exit 0/\ab tm 0=v/\ab tm 5=.av 0 0 n/\ab tm 6=uc c/\out.length=n/\c<=1/\lo (2^64) out/\
    bv (2^64) out+(2^64)^x.length*c=bv (2^64) x+bv (2^64) y/\out.getD x.length 0=0):=by
 apply cP;rintro k s ⟨i,c,out,rfl,hk,hlen,hc,bj,aR,iW⟩;by_cases hi:i<x.length
 .left
  have hz:=iW i (ym _);have oh:=asx (x:=x) (y:=y) (show i<out.length by lia) hz aR;have gx:=jr (show 0<2^64 by decide) hx i;have gy:=jr (show 0<2^64 by decide) hy i;have e1:=GS (P:=P) (f:=D P L) jg gx gy hc;have ex:=hv.aT hi;generalize x.getD i 0=p at*
  by_cases hj:i<y.length
  .have ey:=hw.aT hj;generalize y.getD i 0=q at*
   simp only[go_sem,ya,yf,GC,hw.len,show (i:Int)<x.length by lia,show (i:Int)<y.length by lia,ex,ey,e1,b9 0 0 (show i<n by lia),yd,nN (l:=out) (o:=i) (by lia)]
   refine⟨_,k-1,rfl,by lia,i+1,(p+q+c)/2^64,_,?_,by lia,by simp[hlen],by lia,pV bj (x:=(p+q+c)%2^64) (i:=i) (by lia),oh,fun m hm=>?_⟩
   .rw [wrap64 (by lia) (by lia)];simp only[go_sem,ya,yb,ao,aj hv.pu,aj hw.pu]<;>rfl
   .rw [zE (by lia)];exact iW m (by lia)
  .have mR:y.getD i 0=0:=Zt (by lia);rw[mR] at oh e1;rw[show (uc 0)=AV.int .u64 0 from rfl] at e1
   simp only[go_sem,ya,yf,GC,hw.len,show (i:Int)<x.length by lia,show ¬(i:Int)<y.length by lia,ex,e1,b9 0 0 (show i<n by lia),yd,nN (l:=out) (o:=i) (by lia)]
   refine⟨_,k-1,rfl,by lia,i+1,(p+0+c)/2^64,_,?_,by lia,by simp[hlen],by lia,pV bj (x:=(p+0+c)%2^64) (i:=i) (by lia),oh,fun m hm=>?_⟩
   .rw [wrap64 (by lia) (by lia)];simp only[go_sem,ya,yb,ao,aj hv.pu,aj hw.pu]<;>rfl
   .rw [zE (by lia)];exact iW m (by lia)
 .right
  have:i=x.length:=by lia
  subst this;rw[xH,yq ly] at aR;simp only[go_sem,ya,GC,show ¬(x.length:Int)<x.length by lia];exact⟨_,_,rfl,by simp,_,c,out,rfl,rfl,rfl,rfl,rfl,hlen,hc,bj,aR,iW _ (ym _)⟩
def aDY(h:Has P L 157 OM)(qB:Has P L 166 EY)(jg:L.pure 171=Ix sj)(hv:bL v x)(hw:bL w y)(hx:lo (2^64) x)(hy:lo (2^64) y)(lx:x.length<=99999999999)(ly:y.length<=99999999999):
  ∃r out,ah P L 157 [v,w] r/\bL r out/\lo (2^64) out/\jm out/\bv (2^64) out=bv (2^64) x+bv (2^64) y:=by
 have fin:∀{x y o:List Nat} {n c:Nat},n=x.length+1->x.length<=99999999999->o.length=n->c<=1->lo (2^64) o->bv (2^64) o+(2^64)^x.length*c=bv (2^64) x+bv (2^64) y->o.getD x.length 0=0->
   ∃r,bM P L (D P L) 166 [.aF ycO n ((o.set x.length c).map uc)]=Ix r/\bL r (fa (o.set x.length c))/\lo (2^64) (fa (o.set x.length c))/\jm (fa (o.set x.length c))/\bv (2^64) (fa (o.set x.length c))=bv (2^64) x+bv (2^64) y:=by
  intro x y o n c hn lx hlen hc bj aR hz;have aV:=so (b:=2^64) (l:=o) (i:=x.length) (x:=c) (by lia);rw[hz,xP,xg,aR] at aV;have aDZ:lo (2^64) (o.set x.length c):=pV bj (by lia);have hf:=qZ ycO (o.set x.length c);rw[List.length_set,hlen] at hf;have⟨r,e1,hr⟩:=Fb qB hf (by simp;lia)
  exact⟨r,e1,hr,Ec aDZ,Eb _,by rw[Ea];exact aV⟩
 by_cases hl:x.length<y.length
 .obtain ⟨n,hn⟩:∃n,n=y.length+1:=⟨_,rfl⟩;unfold ah;rw[aB h]
  simp only[go_sem,ya,yb,OM,hv.len,hw.len,show (x.length:Int)<y.length by lia,wrapN (n:=n) (by lia),show (y.length:Int)+1=((y.length+1:Nat):Int) from rfl,<-hn,Hu (n:=n) _ (by lia)];generalize hq:D P L (.loop _ GC) _=q;obtain⟨ex,s,rfl,tm,c,o,rfl,rfl,t0,t5,t6,hlen,hc,bj,aR,hz⟩:=bg hq (ajA (P:=P) (L:=L) jg hw hv hy hx ly (by lia) hn y.length)
   ⟨0,0,ye n 0,by simp only[go_sem,ya,yb,ao,aj hv.pu,aj hw.pu]<;>rfl,by lia,by simp,by lia,Jr (by decide) n,by rw[Js];simp[bv],fun m _=>Gp n m⟩
  have⟨r,e1,hr,f1,f2,f3⟩:=fin hn ly hlen hc bj aR hz;refine⟨r,_,?_,hr,f1,f2,by rw[f3];lia⟩
  simp only[go_sem,ya,yf,ao,aj hw.pu,hw.len,t0,t5,t6,b9 0 0 (show y.length<n by lia),yd,nN (l:=o) (o:=y.length) (by lia)]
  simp only[go_sem,Fa _ (n:=n) (l:=o.set y.length c) (by simp[hlen]) ycO,e1,hr.shut,hr.eG]
 .obtain ⟨n,hn⟩:∃n,n=x.length+1:=⟨_,rfl⟩;unfold ah;rw[aB h]
  simp only[go_sem,ya,yb,OM,hv.len,hw.len,show ¬(x.length:Int)<y.length by lia,wrapN (n:=n) (by lia),show (x.length:Int)+1=((x.length+1:Nat):Int) from rfl,<-hn,Hu (n:=n) _ (by lia)];generalize hq:D P L (.loop _ GC) _=q;obtain⟨ex,s,rfl,tm,c,o,rfl,rfl,t0,t5,t6,hlen,hc,bj,aR,hz⟩:=bg hq (ajA (P:=P) (L:=L) jg hv hw hx hy lx (by lia) hn x.length)
   ⟨0,0,ye n 0,by simp only[go_sem,ya,yb,ao,aj hv.pu,aj hw.pu]<;>rfl,by lia,by simp,by lia,Jr (by decide) n,by rw[Js];simp[bv],fun m _=>Gp n m⟩
  have⟨r,e1,hr,f1,f2,f3⟩:=fin hn lx hlen hc bj aR hz;refine⟨r,_,?_,hr,f1,f2,f3⟩
  simp only[go_sem,ya,yf,ao,aj hv.pu,hv.len,t0,t5,t6,b9 0 0 (show x.length<n by lia),yd,nN (l:=o) (o:=x.length) (by lia)]
  simp only[go_sem,Fa _ (n:=n) (l:=o.set x.length c) (by simp[hlen]) ycO,e1,hr.shut,hr.eG]
end
section
variable {v w:AV}{x y:List Nat}{c n:Nat}
def asz{b:Nat}{out:List Nat}{j t o x y ba:Nat}(ho:o=out.getD j 0)(hj:j<out.length)(ht:t=o+x*y+c)(hv:bo+p*c=ba+p*(x*Y))(hb:bo=bv b out)(hp:p=b^j):
  bv b (out.set j (t%b))+p*b*(t/b)=ba+p*(x*(Y+0))+p*(x*y):=by
 have h1:=so (b:=b) (x:=t%b) hj;have h2:=RC p b t
 grind
def Ys{x y:Nat}(hx:x<2^64)(hy:y<2^64)(hc:c<=1):
  (x+2^64*2-y-c)%2^64+y+c=x+2^64*(if y+c<=x then 0 else 1):=by grind
def azT(BZ:L.pure 173=Ix En)(hv:bL v x)(hw:bL w y)(hx:lo (2^64) x)(hy:lo (2^64) y)(lx:x.length<=99999999999)(ly:y.length<=x.length)(hle:bv (2^64) y<=bv (2^64) x)(hn:n=x.length):
  cL P L [0,1,5,6,13,14] Jc (fun k s=>∃(i c:Nat) (out:List Nat),s=⟨[(0,v),(1,w),(5,.av 0 0 n),(6,uc c),(13,aa x.length),(14,aa i)],[(0,.cells ycO ycO ycO 1 (out.map uc))],1,0⟩/\i+k=x.length/\out.length=n/\c<=1/\lo (2^64) out/\
    bv (2^64) out+bv (2^64) (y.take i)=bv (2^64) (x.take i)+(2^64)^i*c/\(∀m,i<=m->out.getD m 0=0)) (fun ex s'=>∃tm out,s'=⟨tm,[(0,.cells ycO ycO ycO 1 (out.map uc))],1,0⟩/\ex=.exit 0/\ab tm 5=.av 0 0 n/\out.length=n/\lo (2^64) out/\
    bv (2^64) out+bv (2^64) y=bv (2^64) x):=by
 apply cP;rintro k s ⟨i,c,out,rfl,hk,hlen,hc,bj,aR,iW⟩;by_cases hi:i<x.length
 .left
  have hz:=iW i (ym _);have gx:=jr (show 0<2^64 by decide) hx i;have gy:=jr (show 0<2^64 by decide) hy i;have oL:=Ys gx gy hc;have oh:=asy (x:=x) (y:=y) (show i<out.length by lia) hz oL aR;have e1:=Zw (P:=P) (f:=D P L) BZ gx gy hc;have ex:=hv.aT hi;generalize x.getD i 0=p at*
  have iy:(if y.getD i 0+c<=p then 0 else 1)<=1:=by split<;>lia
  by_cases hj:i<y.length
  .have ey:=hw.aT hj;generalize y.getD i 0=q at*
   generalize (if q+c<=p then 0 else 1)=c1 at*
   simp only[go_sem,ya,yV,yf,Jc,hw.len,show (i:Int)<x.length by lia,show (i:Int)<y.length by lia,ex,ey,e1,b9 0 0 (show i<n by lia),yd,nN (l:=out) (o:=i) (by lia)]
   refine⟨_,k-1,rfl,by lia,i+1,c1,_,?_,by lia,by simp[hlen],iy,pV bj (x:=(p+2^64*2-q-c)%2^64) (i:=i) (by lia),oh,fun m hm=>?_⟩
   .rw [wrap64 (by lia) (by lia)];simp only[go_sem,ya,yb,yV,ao,aj hv.pu,aj hw.pu]<;>rfl
   .rw [zE (by lia)];exact iW m (by lia)
  .have mR:y.getD i 0=0:=Zt (by lia);rw[mR] at oh e1 iy;rw[show (uc 0)=AV.int .u64 0 from rfl] at e1;generalize (if 0+c<=p then 0 else 1)=c1 at*
   simp only[go_sem,ya,yV,yf,Jc,hw.len,show (i:Int)<x.length by lia,show ¬(i:Int)<y.length by lia,ex,e1,b9 0 0 (show i<n by lia),yd,nN (l:=out) (o:=i) (by lia)]
   refine⟨_,k-1,rfl,by lia,i+1,c1,_,?_,by lia,by simp[hlen],iy,pV bj (x:=(p+2^64*2-0-c)%2^64) (i:=i) (by lia),oh,fun m hm=>?_⟩
   .rw [wrap64 (by lia) (by lia)];simp only[go_sem,ya,yb,yV,ao,aj hv.pu,aj hw.pu]<;>rfl
   .rw [zE (by lia)];exact iW m (by lia)
 .right
  have:i=x.length:=by lia
  subst this;rw[xH,yq ly] at aR;have aY:=qd bj;rw[hlen,hn] at aY;simp only[go_sem,ya,Jc,show ¬(x.length:Int)<x.length by lia];refine⟨_,_,rfl,by simp,_,out,rfl,rfl,rfl,hlen,bj,?_⟩;rcases (show c=0\/c=1 by lia) with rfl | rfl
  .lia
  .lia
def amc(h:Has P L 159 UE)(qB:Has P L 166 EY)(BZ:L.pure 173=Ix En)(hv:bL v x)(hw:bL w y)(hx:lo (2^64) x)(hy:lo (2^64) y)(ny:jm y)(lx:x.length<=99999999999)(hle:bv (2^64) y<=bv (2^64) x):
  ∃r out,ah P L 159 [v,w] r/\bL r out/\lo (2^64) out/\jm out/\bv (2^64) out+bv (2^64) y=bv (2^64) x:=by
 have ly:y.length<=x.length:=by
  by_cases hh:x.length<y.length
  .have:=SB (b:=2^64) (by decide) hx ny hh
   lia
  .lia
 obtain⟨n,hn⟩:∃n,n=x.length:=⟨_,rfl⟩;unfold ah;rw[aB h]
 simp only[go_sem,ya,yb,UE,hv.len,<-hn,Hu (n:=n) _ (by lia)];generalize hq:D P L (.loop _ Jc) _=q;obtain⟨ex,s,rfl,tm,o,rfl,rfl,t5,hlen,bj,aR⟩:=bg hq (azT (P:=P) (L:=L) BZ hv hw hx hy lx ly hle hn x.length)
  ⟨0,0,ye n 0,by rw[hn];simp only[go_sem,ya,yb,ao,aj hv.pu,aj hw.pu]<;>rfl,by lia,by simp,by lia,Jr (by decide) n,by rw[Js];simp[bv],fun m _=>Gp n m⟩
 have hf:=qZ ycO o;rw[hlen] at hf;have⟨r,e1,hr⟩:=Fb qB hf (by lia);refine⟨r,_,?_,hr,Ec bj,Eb _,by rw[Ea];exact aR⟩
 simp only[go_sem,yb,ao,t5,Fa _ (n:=n) (l:=o) hlen ycO,e1,hr.shut,hr.eG]
def auM{x y o:Nat}(hx:x<2^64)(hy:y<2^64)(ho:o<2^64)(hc:c<2^64):
  o+x*y+c<2^64*2^64/\
  ((x*y%2^64+o+0)%2^64+c+0)%2^64=(o+x*y+c)%2^64/\
  x*y/2^64+(x*y%2^64+o+0)/2^64+((x*y%2^64+o+0)%2^64+c+0)/2^64=(o+x*y+c)/2^64:=by
 have h1:=xo (show x<=18446744073709551615 by lia) (show y<=18446744073709551615 by lia)
 grind
def azU(qC:L.pure 143=Ix BC)(jg:L.pure 171=Ix sj)(hv:bL v x)(hw:bL w y)(hx:lo (2^64) x)(hy:lo (2^64) y)(lx:x.length<=49999999999)(ly:y.length<=49999999999){i:Nat}(hn:n=x.length+y.length)(hi:i<x.length)(ha:a<2^64):
  cL P L [1,5,6,7,8,20,21,22,27,28,29] NF (fun k s=>∃(j c:Nat) (out:List Nat),s=⟨[(1,w),(5,.av 0 0 n),(6,aa i),(7,uc a),(8,uc c),(20,v),(21,aa x.length),(22,aa i),(27,w),(28,aa y.length),(29,aa j)],[(0,.cells ycO ycO ycO 1 (out.map uc))],1,0⟩/\j+k=y.length/\out.length=n/\c<2^64/\lo (2^64) out/\
    bv (2^64) out+(2^64)^(i+j)*c=bo+(2^64)^i*(a*bv (2^64) (y.take j))/\(∀m,i+y.length<=m->out.getD m 0=0)) (fun ex s'=>∃tm c out,s'=⟨tm,[(0,.cells ycO ycO ycO 1 (out.map uc))],1,0⟩/\ex=.exit 2/\ab tm 1=w/\ab tm 5=.av 0 0 n/\ab tm 6=aa i/\ab tm 8=uc c/\ab tm 20=v/\ab tm 21=aa x.length/\ab tm 22=aa i/\out.length=n/\c<2^64/\lo (2^64) out/\
    bv (2^64) out+(2^64)^(i+y.length)*c=bo+(2^64)^i*(a*bv (2^64) y)/\(∀m,i+y.length<=m->out.getD m 0=0)):=by
 apply cP;rintro k s ⟨j,c,out,rfl,hk,hlen,hc,bj,aR,iW⟩;by_cases hj:j<y.length
 .left
  have A9:(0:Nat)<2^64:=by decide
  have gy:=jr A9 hy j;have rQ:=jr A9 bj (i+j);have ey:=hw.aT hj;have e3:=C4 (l:=out) (o:=i+j) (by lia);obtain⟨q,hq⟩:∃q,q=y.getD j 0:=⟨_,rfl⟩;obtain⟨o,ho⟩:∃o,o=out.getD (i+j) 0:=⟨_,rfl⟩;rw[<-hq] at gy ey;rw[<-ho] at rQ e3;have⟨m1,m2,m3⟩:=auM ha gy rQ hc;have hpy:a*q<2^64*2^64:=by lia
  have f1:=S9 (P:=P) (f:=D P L) qC ha gy;have f2:=GS (P:=P) (f:=D P L) jg (x:=a*q%2^64) (y:=o) (c:=0) (xV _ A9) rQ (by lia);have f3:=GS (P:=P) (f:=D P L) jg (x:=(a*q%2^64+o+0)%2^64) (y:=c) (c:=0) (xV _ A9) hc (by lia);obtain⟨t,ht⟩:∃t,t=o+a*q+c:=⟨_,rfl⟩;have oh:=asz (b:=2^64) (out:=out) (p:=(2^64)^(i+j)) (j:=i+j) (c:=c) (t:=t) (x:=a) (y:=q) (Y:=0) (ba:=bo+(2^64)^i*(a*bv (2^64) (y.take j))) ho (by lia) ht (by simpa using aR) rfl rfl;rw[m2,<-ht] at f3;rw[<-ht] at m1 m3;obtain⟨d1,iw⟩:∃d,d=(a*q%2^64+o+0)/2^64:=⟨_,rfl⟩;obtain⟨d2,fw⟩:∃d,d=((a*q%2^64+o+0)%2^64+c+0)/2^64:=⟨_,rfl⟩;rw[<-iw] at f2 m3;rw[<-fw] at f3 m3;rw[show (uc 0)=AV.int .u64 0 from rfl] at f2 f3;obtain⟨h1,lC⟩:∃d,d=a*q/2^64:=⟨_,rfl⟩;rw[<-lC] at f1 m3;have pz:h1+d1<2^64:=by lia
  have DD:h1+d1+d2<2^64:=by lia
  simp only[go_sem,ya,yf,NF,show (j:Int)<y.length by lia,ey,f1,wrapN (n:=i+j) (by lia),show (i:Int)+(j:Int)=((i+j:Nat):Int) from rfl,b9 0 0 (show i+j<n by lia),yd,e3,f2,f3,show (h1:Int)+(d1:Int)=((h1+d1:Nat):Int) from rfl,ak5 pz,show ((h1+d1:Nat):Int)+(d2:Int)=((h1+d1+d2:Nat):Int) from rfl,ak5 DD,nN (l:=out) (o:=i+j) (by lia)]
  refine⟨_,k-1,rfl,by lia,j+1,h1+d1+d2,_,?_,by lia,by simp[hlen],DD,pV bj (x:=t%2^64) (i:=i+j) (xV _ A9),?_,fun m hm=>?_⟩
  .rw [wrap64 (by lia) (by lia)];simp only[go_sem,ya,yb,ao,aj hv.pu,aj hw.pu]<;>rfl
  .rw [m3,show i+(j+1)=i+j+1 by lia,BY,lP,<-hq,xO a,xO ((2^64)^i)];simp only[xP,xg] at oh;rw[oh,wP,<-Nat.add_assoc,xD ((2^64)^i),<-xD a,xY a ((2^64)^j),xD]
  .rw [zE (by lia)];exact iW m hm
 .right
  have:j=y.length:=by lia
  subst this;rw[xH] at aR;simp only[go_sem,ya,NF,show ¬(y.length:Int)<y.length by lia];exact⟨_,_,rfl,by simp,_,c,out,rfl,rfl,rfl,rfl,rfl,rfl,rfl,rfl,rfl,hlen,hc,bj,aR,iW⟩
def azV(qC:L.pure 143=Ix BC)(jg:L.pure 171=Ix sj)(hv:bL v x)(hw:bL w y)(hx:lo (2^64) x)(hy:lo (2^64) y)(lx:x.length<=49999999999)(ly:y.length<=49999999999)(hn:n=x.length+y.length):
  cL P L [1,5,20,21,22] NG (fun k s=>∃(i:Nat) (out:List Nat),s=⟨[(1,w),(5,.av 0 0 n),(20,v),(21,aa x.length),(22,aa i)],[(0,.cells ycO ycO ycO 1 (out.map uc))],1,0⟩/\i+k=x.length/\out.length=n/\lo (2^64) out/\
    bv (2^64) out=bv (2^64) (x.take i)*bv (2^64) y/\(∀m,i+y.length<=m->out.getD m 0=0)) (fun ex s'=>∃tm out,s'=⟨tm,[(0,.cells ycO ycO ycO 1 (out.map uc))],1,0⟩/\ex=.exit 0/\ab tm 5=.av 0 0 n/\out.length=n/\lo (2^64) out/\
    bv (2^64) out=bv (2^64) x*bv (2^64) y):=by
 apply cP;rintro k s ⟨i,out,rfl,hk,hlen,bj,aR,iW⟩;by_cases hi:i<x.length
 .left
  have gx:=jr (show 0<2^64 by decide) hx i;have ex:=hv.aT hi;obtain⟨a,ha⟩:∃a,a=x.getD i 0:=⟨_,rfl⟩;simp only[go_sem,ya,NG,hw.len,show (i:Int)<x.length by lia,ex];generalize hq:D P L (.loop _ NF) _=q;obtain⟨ex,s,rfl,tm,c,B0,rfl,rfl,t1,t5,t6,t8,t20,t21,t22,aad,hc,aD0,aae,Pa⟩:=bg hq (azU (P:=P) (L:=L) qC jg hv hw hx hy lx ly hn hi gx (bo:=bv (2^64) out) y.length)
   ⟨0,0,out,by simp only[go_sem,ya,yb,ao,aj hv.pu,aj hw.pu]<;>rfl,by lia,hlen,by decide,bj,by simp[bv],iW⟩
  have hz:B0.getD (i+y.length) 0=0:=Pa _ (ym _);have aV:=so (b:=2^64) (l:=B0) (i:=i+y.length) (x:=c) (by lia);rw[hz,xP,xg,aae] at aV
  simp only[go_sem,ya,yf,ao,t1,t5,t6,t8,t20,t21,t22,hw.len,aj hv.pu,aj hw.pu,wrapN (n:=i+y.length) (by lia),show (i:Int)+(y.length:Int)=((i+y.length:Nat):Int) from rfl,b9 0 0 (show i+y.length<n by lia),yd,nN (l:=B0) (o:=i+y.length) (by lia)];refine⟨_,k-1,rfl,by lia,i+1,B0.set (i+y.length) c,?_,by lia,by simp[aad],pV aD0 hc,?_,fun m hm=>?_⟩
  .rw [wrap64 (by lia) (by lia)];simp only[go_sem,ya,yb,ao,aj hv.pu,aj hw.pu]<;>rfl
  .rw [aV,aR,lP,xU,<-ha,xD]
  .rw [zE (by lia)];exact Pa m (by lia)
 .right
  have:i=x.length:=by lia
  subst this;rw[xH] at aR;simp only[go_sem,ya,NG,show ¬(x.length:Int)<x.length by lia];exact⟨_,_,rfl,by simp,_,out,rfl,rfl,rfl,hlen,bj,aR⟩
def aD1(h:Has P L 144 UB)(qB:Has P L 166 EY)(qC:L.pure 143=Ix BC)(jg:L.pure 171=Ix sj)(hv:bL v x)(hw:bL w y)(hx:lo (2^64) x)(hy:lo (2^64) y)(lx:x.length<=49999999999)(ly:y.length<=49999999999):
  ∃r out,ah P L 144 [v,w] r/\bL r out/\lo (2^64) out/\jm out/\bv (2^64) out=bv (2^64) x*bv (2^64) y:=by
 obtain⟨n,hn⟩:∃n,n=x.length+y.length:=⟨_,rfl⟩;unfold ah;rw[aB h]
 simp only[go_sem,ya,yb,UB,hv.len,hw.len,wrapN (n:=n) (by lia),show (x.length:Int)+(y.length:Int)=((x.length+y.length:Nat):Int) from rfl,<-hn,Hu (n:=n) _ (by lia)];generalize hq:D P L (.loop _ NG) _=q;obtain⟨ex,s,rfl,tm,o,rfl,rfl,t5,hlen,bj,aR⟩:=bg hq (azV (P:=P) (L:=L) qC jg hv hw hx hy lx ly hn x.length)
  ⟨0,ye n 0,by simp only[go_sem,ya,yb,ao,aj hv.pu,aj hw.pu]<;>rfl,by lia,by simp,Jr (by decide) n,by rw[Js];simp[bv],fun m _=>Gp n m⟩
 have hf:=qZ ycO o;rw[hlen] at hf;have⟨r,e1,hr⟩:=Fb qB hf (by lia);refine⟨r,_,?_,hr,Ec bj,Eb _,by rw[Ea];exact aR⟩
 simp only[go_sem,yb,ao,t5,Fa _ (n:=n) (l:=o) hlen ycO,e1,hr.shut,hr.eG]
end
section
variable {b s u u2 v1 v2 y:Nat}
def TI(n:Int):IntKind.wrap .u64 n=n%2^64:=by
 simp[IntKind.wrap,IntKind.signed,IntKind.bits]
def wrapM(n:Nat):IntKind.wrap .u64 (n:Int)=((n%2^64:Nat):Int):=by rw[TI];lia
def zX(a b:Nat):binOp .mul (uc a) (uc b)=Ix (uc (a*b%2^64)):=by
 rw[aix,<-xS,wrapM]
def EK(a b:Nat):binOp .add (uc a) (uc b)=Ix (uc ((a+b)%2^64)):=by
 rw[aiw,<-Int.natCast_add,wrapM]
def Hv{c:Nat}(h:(a+2^64-b)%2^64=c)(hb:b<=2^64):binOp .sub (uc a) (uc b)=Ix (uc c):=by
 rw[SC,TI]
 grind
def azW(k k':xh)(a b:Int):binOp .shl (.int k a) (.int k' b)=Gl .shl k a b:=rfl
def azX(k k':xh)(a b:Int):binOp .shr (.int k a) (.int k' b)=Gl .shr k a b:=rfl
def Pb(k:xh)(a:Nat)(hs:s<=64):binOp .shl (.int .u64 (a:Int)) (.int k (s:Int))=Ix (uc (a*2^s%2^64)):=by
 rw[azW];simp only[Gl,yx (show ¬(s:Int)<0 by lia),xx,IntKind.bits,xq hs];rw[show ((2:Int)^s)=((2^s:Nat):Int) by simp,<-xS,wrapM]
def Pc(k:xh)(a:Nat)(hs:s<=64):binOp .shr (.int .u64 (a:Int)) (.int k (s:Int))=Ix (uc (a/2^s)):=by
 rw[azX];simp only[Gl,yx (show ¬(s:Int)<0 by lia),xx,IntKind.bits,xq hs]
 grind
def amd(a:Nat):binOp .and (.int .u64 (a:Int)) (.int .u64 4294967295)=Ix (uc (a%4294967296)):=by
 show Ix (AV.int .u64 (IntKind.wrap .u64 ((wC 64 (a:Int)&&&wC 64 4294967295).toNat:Int)))=_
 rw[show wC 64 (a:Int)=tu 64 a from tv 64 a,show wC 64 4294967295=tu 64 4294967295 from rfl];rw[BitVec.toNat_and,ui,ui,show (4294967295%2^64:Nat)=2^32-1 from rfl,Nat.and_two_pow_sub_one_eq_mod,wrapM]
 grind
def orU(ha:a<2^64)(hb:b<2^64):binOp .or (.int .u64 (a:Int)) (.int .u64 (b:Int))=Ix (uc (a|||b)):=by
 show Ix (AV.int .u64 (IntKind.wrap .u64 ((wC 64 (a:Int)|||wC 64 (b:Int)).toNat:Int)))=_
 congr 2
 rw[show wC 64 (a:Int)=tu 64 a from tv 64 a,show wC 64 (b:Int)=tu 64 b from tv 64 b];rw[BitVec.toNat_or,ui,ui,y8 (show a<2^64 from ha),y8 (show b<2^64 from hb),wrapM]
 have:a|||b<2^64:=Nat.or_lt_two_pow ha hb
 lia
def Zx{c:Nat}(h:c<2^s):(p*2^s)|||c=p*2^s+c:=by
 rw[<-Nat.shiftLeft_eq,<-Nat.shiftLeft_add_eq_or_of_lt h]
def afp:∀(f n:Nat),n<2^f->fc f n<=f/\n<2^fc f n/\(0<n->0<fc f n/\2^(fc f n-1)<=n)
 | 0,n,h=>by simp[fc];simpa using h
 | f+1,n,h=>by
  simp only[fc];by_cases h0:n=0
  .simp_all
  .rw [jL h0,y5];have⟨h1,h2,h3⟩:=afp f (n/2) (by lia);refine⟨by lia,?_,fun _=>⟨by lia,?_⟩⟩
   .grind
   .rw [Nat.add_sub_cancel_left];by_cases hn:0<n/2
    .have ⟨h4,h5⟩:=h3 hn;obtain⟨m,hm⟩:∃m,fc f (n/2)=m+1:=⟨fc f (n/2)-1,by lia⟩
     grind
    .have hz:n/2=0:=by lia
     have:fc f 0=0:=by cases f with
      | zero=>rfl
      | succ f=>rfl
     grind
def Yt(h0:0<y)(h:y<2^64):64-fc 64 y<64/\9223372036854775808<=y*2^(64-fc 64 y)/\y*2^(64-fc 64 y)<2^64:=by
 have⟨h1,h2,h3⟩:=afp 64 y h;have⟨h4,h5⟩:=h3 h0;generalize fc 64 y=k at*
 refine⟨by lia,?_,?_⟩
 .have:=yR (2^(64-k)) h5
  rw[<-wP,show k-1+(64-k)=63 by lia] at this;exact this
 .have:=vl h2 (vm (64-k))
  rw[<-wP,show k+(64-k)=64 by lia] at this;exact this
section
variable {P:aJ}{L:Lib}{f:cG}
def ajB(h:L.pure 167=Ix JF)(hx:x<2^64):bM P L f 167 [uc x]=Ix (aa (64-fc 64 x:Nat)):=by
 rw[lI h];show (bif yU x (2^64) then _ else Iy)=_
 rw[nA hx];rfl
def asA{t r:Nat}(dC:v2<b)(nM:t<b)(ht:t*v1+r=u)(h:b<=r\/t*v2<=b*r+u2):t*(v1*b+v2)<=u*b+u2:=by
 have h2:t*v2<=b*r+u2:=by
  rcases h with h | h
  .have:=xo (uh nM) (uh dC)
   have:=yZ b h
   lia
  .exact h
 rw[xO,<-xD,<-ht,xU,xY r b];lia
def aCb(n:Nat):zR (.toInt .u64) (.int .i64 (n:Int))=Ix (uc (n%2^64)):=by
 show Ix (AV.int .u64 (IntKind.wrap .u64 (n:Int)))=_
 rw[wrapM]
def aeR{q r:Nat}(hy:y=v1*4294967296+v2)(dC:v2<4294967296)(K6:0<v1)(fS:v1<4294967296)(hu:u<y)(DJ:u2<4294967296)(hq:q*v1+r=u)(hr:r<4294967296)(hQ:(u*4294967296+u2)/y<=q):
  (4294967296<=q\/4294967296*r+u2<q*v2->0<q/\(q-1)*v1+(r+v1)=u/\(u*4294967296+u2)/y<=q-1/\(4294967296<=r+v1->(u*4294967296+u2)/y=q-1))/\
  (¬4294967296<=q->q*v2<=4294967296*r+u2->(u*4294967296+u2)/y=q):=by
 have mR:0<y:=by lia
 have Ww:∀t s,t*v1+s=u->4294967296<=t->s<4294967296:=fun t s h1 h2=>by
  have:=yR v1 h2
  grind
 have ajC:∀t s,t*v1+s=u->t<4294967296->(4294967296<=s\/t*v2<=4294967296*s+u2)->(u*4294967296+u2)/y<=t->(u*4294967296+u2)/y=t:=fun t s h1 h2 h3 h4=>by
  have:=asA dC h2 h1 h3
  rw[<-hy] at this
  have:=(tC mR).2 this
  lia
 constructor
 .intro h;have DL:0<q:=by
   grind
  have h1:(q-1)*v1+(r+v1)=u:=by
   obtain⟨p,rfl⟩:∃p,q=p+1:=⟨q-1,by lia⟩
   grind
  have h2:(u*4294967296+u2)/y<=q-1:=by
   have aY:u*4294967296+u2<q*y:=by
    rcases h with h | h
    .have h3:u*4294967296+u2<4294967296*y:=by lia
     exact yT h3 (yR y h)
    .rw [hy,xO,<-xD,<-hq,xU,xY r];lia
   have:=(wE mR).2 aY
   lia
  exact⟨DL,h1,h2,fun h3=>ajC _ _ h1 (by
   by_cases hb:4294967296<=q-1
   .have:=Ww _ _ h1 hb;lia
   .lia) (.inl h3) h2⟩
 .intro h1 h2;exact ajC q r hq (by lia) (.inr h2) hQ
def azY{z:Nat}(hy:y=v1*4294967296+v2)(dC:v2<4294967296)(K6:0<v1)(fS:v1<4294967296)(hu:u<y)(DJ:u2<4294967296):
  cL P L [2,8,9,10,11,13,14,15,16] Eo (fun k st=>∃q r:Nat,st=⟨[(2,uc y),(8,uc s),(9,uc v1),(10,uc v2),(11,uc u),(13,uc u2),(14,uc z),(15,uc q),(16,uc r)],[],0,0⟩/\q*v1+r=u/\r<4294967296/\(u*4294967296+u2)/y<=q/\q=k) (fun ex st'=>∃tm ct,st'=⟨tm,[],ct,0⟩/\ex=.exit 0/\ab tm 2=uc y/\ab tm 8=uc s/\ab tm 9=uc v1/\ab tm 10=uc v2/\ab tm 11=uc u/\ab tm 13=uc u2/\ab tm 14=uc z/\ab tm 15=uc ((u*4294967296+u2)/y)):=by
 apply cP;rintro k st ⟨q,r,rfl,hq,hr,hQ,rfl⟩;have⟨g1,g2⟩:=aeR hy dC K6 fS hu DJ hq hr hQ;have hqb:q*1<=q*v1:=yZ q K6;have aD2:=yR 4294967296 (show v1<=4294967295 by lia);have sX:q<2^64:=by lia
 have hbr:=yZ 4294967296 (show r<=4294967295 by lia);have e1:=zX 4294967296 r;rw[show uc 4294967296=AV.int .u64 4294967296 from rfl,y8 (show 4294967296*r<2^64 by lia)] at e1;have e2:=EK (4294967296*r) u2;rw[y8 (show 4294967296*r+u2<2^64 by lia)] at e2;have e4:=EK r v1;rw[y8 (show r+v1<2^64 by lia)] at e4;by_cases hc:4294967296<=q\/4294967296*r+u2<q*v2
 .have ⟨h0,h1,h2,h3⟩:=g1 hc;have e3:binOp .sub (uc q) (.int .u64 1)=Ix (uc (q-1)):=Hv (b:=1) (by lia) (by lia);by_cases hb:4294967296<=r+v1
  .right
   have DM:=h3 hb;rcases (show 4294967296<=q\/(¬4294967296<=q/\4294967296*r+u2<q*v2) by lia) with t1 | ⟨t1,t2⟩
   .simp only [go_sem,ya,Eo,show (4294967296:Int)<=(q:Int) by lia,e3,e4,show (4294967296:Int)<=((r+v1:Nat):Int) by lia];exact⟨_,_,rfl,by simp,_,_,rfl,rfl,rfl,rfl,rfl,rfl,rfl,rfl,rfl,by rw[DM];simp only[go_sem,ya]⟩
   .have hqv:=xo (show q<=4294967295 by lia) (show v2<=4294967295 by lia);have e5:=zX q v2;rw[y8 (show q*v2<2^64 by lia)] at e5;simp only[go_sem,ya,Eo,show ¬(4294967296:Int)<=(q:Int) by lia,e5,e1,e2,show ((4294967296*r+u2:Nat):Int)<((q*v2:Nat):Int) by lia,e3,e4,show (4294967296:Int)<=((r+v1:Nat):Int) by lia];exact⟨_,_,rfl,by simp,_,_,rfl,rfl,rfl,rfl,rfl,rfl,rfl,rfl,rfl,by rw[DM];simp only[go_sem,ya]⟩
  .left
   rcases (show 4294967296<=q\/(¬4294967296<=q/\4294967296*r+u2<q*v2) by lia) with t1 | ⟨t1,t2⟩
   .simp only [go_sem,ya,Eo,show (4294967296:Int)<=(q:Int) by lia,e3,e4,show ¬(4294967296:Int)<=((r+v1:Nat):Int) by lia];exact⟨_,q-1,rfl,by lia,q-1,r+v1,by simp only[go_sem,ya,ao],h1,by lia,h2,rfl⟩
   .have hqv:=xo (show q<=4294967295 by lia) (show v2<=4294967295 by lia);have e5:=zX q v2;rw[y8 (show q*v2<2^64 by lia)] at e5;simp only[go_sem,ya,Eo,show ¬(4294967296:Int)<=(q:Int) by lia,e5,e1,e2,show ((4294967296*r+u2:Nat):Int)<((q*v2:Nat):Int) by lia,e3,e4,show ¬(4294967296:Int)<=((r+v1:Nat):Int) by lia];exact⟨_,q-1,rfl,by lia,q-1,r+v1,by simp only[go_sem,ya,ao],h1,by lia,h2,rfl⟩
 .right
  have DM:=g2 (by lia) (by lia);have e5:=zX q v2;rw[y8 (show q*v2<2^64 by lia)] at e5;simp only[go_sem,ya,Eo,show ¬(4294967296:Int)<=(q:Int) by lia,e5,e1,e2,show ¬((4294967296*r+u2:Nat):Int)<((q*v2:Nat):Int) by lia];exact⟨_,_,rfl,by simp,_,_,rfl,rfl,rfl,rfl,rfl,rfl,rfl,rfl,rfl,by rw[DM];simp only[go_sem,ya]⟩
end
end
section
variable {P:aJ}{L:Lib}{f:cG}
def azZ{y s v1 v2 u z:Nat}(hy:y=v1*4294967296+v2)(dC:v2<4294967296)(K6:0<v1)(fS:v1<4294967296)(hu:u<y)(DJ:u2<4294967296):
  cL P L [2,8,9,10,14,15,16,17,18] Ep (fun k st=>∃q r:Nat,st=⟨[(2,uc y),(8,uc s),(9,uc v1),(10,uc v2),(14,uc u2),(15,uc z),(16,uc r),(17,uc u),(18,uc q)],[],0,0⟩/\q*v1+r=u/\r<4294967296/\(u*4294967296+u2)/y<=q/\q=k) (fun ex st'=>∃tm ct,st'=⟨tm,[],ct,0⟩/\ex=.exit 2/\ab tm 2=uc y/\ab tm 8=uc s/\ab tm 9=uc v1/\ab tm 10=uc v2/\ab tm 14=uc u2/\ab tm 15=uc z/\ab tm 17=uc u/\ab tm 18=uc ((u*4294967296+u2)/y)):=by
 apply cP;rintro k st ⟨q,r,rfl,hq,hr,hQ,rfl⟩;have⟨g1,g2⟩:=aeR hy dC K6 fS hu DJ hq hr hQ;have hqb:q*1<=q*v1:=yZ q K6;have aD2:=yR 4294967296 (show v1<=4294967295 by lia);have sX:q<2^64:=by lia
 have hbr:=yZ 4294967296 (show r<=4294967295 by lia);have e1:=zX 4294967296 r;rw[show uc 4294967296=AV.int .u64 4294967296 from rfl,y8 (show 4294967296*r<2^64 by lia)] at e1;have e2:=EK (4294967296*r) u2;rw[y8 (show 4294967296*r+u2<2^64 by lia)] at e2;have e4:=EK r v1;rw[y8 (show r+v1<2^64 by lia)] at e4;by_cases hc:4294967296<=q\/4294967296*r+u2<q*v2
 .have ⟨h0,h1,h2,h3⟩:=g1 hc;have e3:binOp .sub (uc q) (.int .u64 1)=Ix (uc (q-1)):=Hv (b:=1) (by lia) (by lia);by_cases hb:4294967296<=r+v1
  .right
   have DM:=h3 hb;rcases (show 4294967296<=q\/(¬4294967296<=q/\4294967296*r+u2<q*v2) by lia) with t1 | ⟨t1,t2⟩
   .simp only [go_sem,ya,Ep,show (4294967296:Int)<=(q:Int) by lia,e3,e4,show (4294967296:Int)<=((r+v1:Nat):Int) by lia];exact⟨_,_,rfl,by simp,_,_,rfl,rfl,rfl,rfl,rfl,rfl,rfl,rfl,rfl,by rw[DM];simp only[go_sem,ya]⟩
   .have hqv:=xo (show q<=4294967295 by lia) (show v2<=4294967295 by lia);have e5:=zX q v2;rw[y8 (show q*v2<2^64 by lia)] at e5;simp only[go_sem,ya,Ep,show ¬(4294967296:Int)<=(q:Int) by lia,e5,e1,e2,show ((4294967296*r+u2:Nat):Int)<((q*v2:Nat):Int) by lia,e3,e4,show (4294967296:Int)<=((r+v1:Nat):Int) by lia];exact⟨_,_,rfl,by simp,_,_,rfl,rfl,rfl,rfl,rfl,rfl,rfl,rfl,rfl,by rw[DM];simp only[go_sem,ya]⟩
  .left
   rcases (show 4294967296<=q\/(¬4294967296<=q/\4294967296*r+u2<q*v2) by lia) with t1 | ⟨t1,t2⟩
   .simp only [go_sem,ya,Ep,show (4294967296:Int)<=(q:Int) by lia,e3,e4,show ¬(4294967296:Int)<=((r+v1:Nat):Int) by lia];exact⟨_,q-1,rfl,by lia,q-1,r+v1,by simp only[go_sem,ya,ao],h1,by lia,h2,rfl⟩
   .have hqv:=xo (show q<=4294967295 by lia) (show v2<=4294967295 by lia);have e5:=zX q v2;rw[y8 (show q*v2<2^64 by lia)] at e5;simp only[go_sem,ya,Ep,show ¬(4294967296:Int)<=(q:Int) by lia,e5,e1,e2,show ((4294967296*r+u2:Nat):Int)<((q*v2:Nat):Int) by lia,e3,e4,show ¬(4294967296:Int)<=((r+v1:Nat):Int) by lia];exact⟨_,q-1,rfl,by lia,q-1,r+v1,by simp only[go_sem,ya,ao],h1,by lia,h2,rfl⟩
 .right
  have DM:=g2 (by lia) (by lia);have e5:=zX q v2;rw[y8 (show q*v2<2^64 by lia)] at e5;simp only[go_sem,ya,Ep,show ¬(4294967296:Int)<=(q:Int) by lia,e5,e1,e2,show ¬((4294967296*r+u2:Nat):Int)<((q*v2:Nat):Int) by lia];exact⟨_,_,rfl,by simp,_,_,rfl,rfl,rfl,rfl,rfl,rfl,rfl,rfl,rfl,by rw[DM];simp only[go_sem,ya]⟩
def ak6(a:Nat):binOp .shr (.int .u64 (a:Int)) (.int .u64 32)=Ix (uc (a/4294967296)):=Pc .u64 a (s:=32) (by decide)
def ame(a:Nat){b:Nat}(ha:a<2^64)(hb:0<b):binOp .quo (uc a) (uc b)=Ix (uc (a/b)):=by
 rw[gN _ _ _ (by lia),xR (by lia),<-Int.natCast_ediv,wrapM,y8];exact wM (vK a b) ha
def aD3(a:Nat){b:Nat}(hb:0<b):binOp .rem (uc a) (uc b)=Ix (uc (a%b)):=by
 rw[iD _ _ _ (by lia),xF (by lia),<-Int.natCast_emod]
def asB{hi lo y s u z:Nat}(hs:s<64)(bj:lo<2^64)(hY:Y=y*2^s)(hu:u=hi*2^s+lo/2^(64-s))(hz:z=lo*2^s%2^64):
  (hi*2^64+lo)*2^s=u*2^64+z:=by
 have e:2^64=2^(64-s)*2^s:=by rw[<-wP,show 64-s+s=64 by lia]
 have h1:lo*2^s/2^64=lo/2^(64-s):=by
  rw[e,tD _ _ (vm s)]
 grind
def agk{q b:Nat}(h1:a<Y)(h2:b<4294967296)(h3:q=(a*4294967296+b)/Y):q<4294967296:=by
 rw[h3];exact (wE (by lia)).2 (by lia)
def auN{u w z z0 z1:Nat}(iw:q1*Y+w=u*4294967296+z1)(iM:q0*Y+x=w*4294967296+z0)(hz:z=z1*4294967296+z0):u*2^64+z=(q1*4294967296+q0)*Y+x:=by grind
def aq4(h1:q1<4294967296)(h0:q0<4294967296):q1*4294967296<2^64/\q1*4294967296+q0<2^64:=by lia
def amf(h:Has P L 165 ON)(Pd:L.pure 167=Ix JF){hi lo y:Nat}(iW:hi<y)(bj:lo<2^64)(hy:y<2^64):
  ah P L 165 [uc hi,uc lo,uc y] (.ax [uc ((hi*2^64+lo)/y),uc ((hi*2^64+lo)%y)]):=by
 have mR:0<y:=by lia
 by_cases h0:hi=0
 .subst h0;have e1:=ame lo bj mR;have e2:=aD3 lo mR;rw[yaM,yd];unfold ah;rw[aB h];simp only[go_sem,ya,ON,show ¬(y:Int)=0 by lia,show ¬(y:Int)<=0 by lia,show ((0:Nat):Int)=0 from rfl,e1,e2];rfl
 .obtain ⟨s,hs⟩:∃s,s=64-fc 64 y:=⟨_,rfl⟩;have hl:=ajB (P:=P) (f:=D P L) Pd hy;have⟨l1,l2,l3⟩:=Yt mR hy;rw[<-hs] at hl l1 l2 l3;obtain⟨Y,hY⟩:∃Y,Y=y*2^s:=⟨_,rfl⟩;obtain⟨u,hu⟩:∃u,u=hi*2^s+lo/2^(64-s):=⟨_,rfl⟩;obtain⟨z,hz⟩:∃z,z=lo*2^s%2^64:=⟨_,rfl⟩;have hdiv:=asB l1 bj hY hu hz;rw[<-hY] at l2 l3;have hp:=vm s;obtain⟨v1,fS⟩:∃v,v=Y/4294967296:=⟨_,rfl⟩;obtain⟨v2,dC⟩:∃v,v=Y%4294967296:=⟨_,rfl⟩;have hYv:Y=v1*4294967296+v2:=by lia
  obtain⟨z1,kF⟩:∃v,v=z/4294967296:=⟨_,rfl⟩;obtain⟨z0,pG⟩:∃v,v=z%4294967296:=⟨_,rfl⟩;have K7:z<2^64:=by lia
  have hhY:hi*2^s<Y:=by rw[hY];exact vl iW hp
  have oE:lo/2^(64-s)<2^s:=by
   refine (wE (vm _)).2 ?_;rw[<-wP,show s+(64-s)=64 by lia];exact bj
  have sO:hi*2^s|||lo/2^(64-s)=u:=by rw[Zx oE,hu]
  have hN:hi*2^64+lo<y*2^64:=by
   have:=yR (2^64) (show hi+1<=y from iW)
   lia
  have huY:u<Y:=by
   have h1:=vl hN hp;rw[hdiv,Nat.mul_right_comm,<-hY] at h1
   lia
  obtain⟨q1,gM⟩:∃q,q=(u*4294967296+z1)/Y:=⟨_,rfl⟩;obtain⟨w,hw⟩:∃q,q=(u*4294967296+z1)%Y:=⟨_,rfl⟩;obtain⟨q0,DL⟩:∃q,q=(w*4294967296+z0)/Y:=⟨_,rfl⟩;obtain⟨x,hx⟩:∃q,q=(w*4294967296+z0)%Y:=⟨_,rfl⟩;have Wx:w<Y:=by rw[hw];exact xV _ (by lia)
  have hxY:x<Y:=by rw[hx];exact xV _ (by lia)
  have iw:=wF (u*4294967296+z1) Y;rw[<-gM,<-hw,xY] at iw;have iM:=wF (w*4294967296+z0) Y;rw[<-DL,<-hx,xY] at iM;have aD4:=agk huY (show z1<4294967296 by lia) gM;have aD5:=agk Wx (show z0<4294967296 by lia) DL;have⟨td1,td2⟩:=aq4 aD4 aD5;have U6:(hi*2^64+lo)*2^s=(q1*4294967296+q0)*Y+x:=by
   rw[hdiv];exact auN iw iM (by lia)
  have r1:(hi*2^64+lo)/y=q1*4294967296+q0:=by
   rw[<-tD _ _ hp,U6,<-hY,xY _ Y,yam (by lia),wZ hxY,xg]
  have r2:x/2^s=(hi*2^64+lo)%y:=by
   have h1:x=(hi*2^64+lo)*2^s%(y*2^s):=by
    rw[U6,<-hY,xY _ Y,yan,y8 hxY]
   rw[h1,uD,Nat.mul_div_cancel _ hp]
  have o1:=Pb .u64 y (s:=s) (by lia);rw[<-hY,y8 l3] at o1;have o2:=ak6 Y;rw[<-fS] at o2;have o3:=amd Y;rw[<-dC] at o3;have o4:=Pb .u64 hi (s:=s) (by lia);rw[y8 (show hi*2^s<2^64 by lia)] at o4;have o5:binOp .sub (.int .u64 64) (uc s)=Ix (uc (64-s)):=Hv (a:=64) (by lia) (by lia);have o6:=Pc .u64 lo (s:=64-s) (by lia);have o7:=orU (a:=hi*2^s) (b:=lo/2^(64-s)) (by lia) (wM (vK _ _) bj);rw[sO] at o7;have o8:=Pb .u64 lo (s:=s) (by lia);rw[<-hz] at o8;have o9:=ak6 z;rw[<-kF] at o9;have o10:=amd z;rw[<-pG] at o10;have Kj:0<v1:=by lia
  have ak7:∀{a:Nat},a<Y->binOp .quo (uc a) (uc v1)=Ix (uc (a/v1))/\binOp .mul (uc (a/v1)) (uc v1)=Ix (uc (a/v1*v1))/\binOp .sub (uc a) (uc (a/v1*v1))=Ix (uc (a%v1)):=fun {a} ha=>by
   have h1:=wF a v1;rw[xY] at h1;have h2:=zX (a/v1) v1;generalize a/v1*v1=m at*
   rw[y8 (show m<2^64 by lia)] at h2;exact⟨ame a (by lia) Kj,h2,Hv (by lia) (by lia)⟩
  have⟨g1,g2,g3⟩:=ak7 huY;have⟨g4,g5,g6⟩:=ak7 Wx;have first:∀{a b:Nat},b<4294967296->(a*4294967296+b)/Y<=a/v1:=fun {a b} hb=>by
   have:=Xi (b:=4294967296) (V:=Y) (v1:=v1) (v2:=v2) (vr:=0) (U:=a*4294967296+b) (u0:=0) (u1:=a) (u2:=b) (ur:=0) (p:=1) (by lia) (by lia) (by decide) hb Kj
   simpa using this
  have back:∀{a b q x:Nat},a*4294967296+b=q*Y+x->x<Y->binOp .mul (uc a) (.int .u64 4294967296)=Ix (uc (a*4294967296%2^64))/\binOp .add (uc (a*4294967296%2^64)) (uc b)=Ix (uc ((a*4294967296%2^64+b)%2^64))/\
    binOp .mul (uc q) (uc Y)=Ix (uc (q*Y%2^64))/\binOp .sub (uc ((a*4294967296%2^64+b)%2^64)) (uc (q*Y%2^64))=Ix (uc x):=fun {a b q x} h1 h2=>by
   refine⟨zX a 4294967296,EK _ _,zX q Y,Hv ?_ (by lia)⟩;generalize q*Y=m at*
   lia
  have⟨k1,k2,k3,k4⟩:=back iw.symm Wx;have⟨k5,k6,k7,k8⟩:=back iM.symm hxY;have m1:=zX q1 4294967296;rw[y8 td1,show uc 4294967296=AV.int .u64 4294967296 from rfl] at m1;have m2:=EK (q1*4294967296) q0;rw[y8 td2] at m2;have m3:=Pc .u64 x (s:=s) (by lia);rw[r1,<-r2];unfold ah;rw[aB h];simp only[go_sem,ya,ON,show ¬(y:Int)=0 by lia,show ¬(y:Int)<=(hi:Int) by lia,show ¬(hi:Int)=0 by lia,hl,aCb,y8 (show s<2^64 by lia),o1,o2,o3,o4,o5,o6,o7,o8,o9,o10,g1,g2,g3];generalize qQ:D P L (.loop _ Eo) _=qq
  obtain⟨ex,st,rfl,tm,ct,rfl,rfl,t2,t8,t9,t10,t11,t13,t14,t15⟩:=bg qQ (azY (P:=P) (L:=L) (s:=s) (z:=z0) hYv (by lia) Kj (by lia) huY (show z1<4294967296 by lia) (u/v1)) ⟨u/v1,u%v1,by simp only[go_sem,ya,ao],by rw[xY];exact wF u v1,by have:=xV u Kj;lia,first (by lia),rfl⟩
  rw[<-gM] at t15;simp only[go_sem,ya,ao,t2,t8,t9,t10,t11,t13,t14,t15,k1,k2,k3,k4,g4,g5,g6];generalize Hw:D P L (.loop _ Ep) _=qq2;obtain⟨ex,st,rfl,A1,HZ,rfl,rfl,t2,t8,t9,t10,t14,t15,t17,t18⟩:=bg Hw (azZ (P:=P) (L:=L) (s:=s) (z:=q1) hYv (by lia) Kj (by lia) Wx (show z0<4294967296 by lia) (w/v1)) ⟨w/v1,w%v1,by simp only[go_sem,ya,ao],by rw[xY];exact wF w v1,by have:=xV w Kj;lia,first (by lia),rfl⟩
  rw[<-DL] at t18;simp only[go_sem,ya,ao,t2,t8,t14,t15,t17,t18,m1,m2,k5,k6,k7,k8,m3];rfl
end
mutual
def below(n:Nat):AV->Prop
 | .ptr id _=>id<n
 | .av id _ _=>id<n
 | .map id=>id<n
 | .it id=>id<n
 | .fn (.f _) first cap=>AG n first/\AG n cap
 | .fn (.y l) first cap=>l<n/\first=[]/\cap=[]
 | .agg cs=>AG n cs
 | .ax cs=>AG n cs
 | _=>True
def AG(n:Nat):List AV->Prop
 | []=>True
 | v::r=>below n v/\AG n r
end
def AH(n:Nat):Env->Prop
 | []=>True
 | (_,v)::r=>below n v/\AH n r
def GU(n:Nat):Obj->Prop
 | .cells _ pu _ _ cs=>pu=ycO\/AG n cs
 | .mp _ ks vs=>AG n ks/\AG n vs
 | .si _ _=>True
 | .lp tm _ _ _ _ _=>AH n tm
def N2(b n:Nat):Hp->Prop
 | []=>True
 | (id,o)::r=>id<b/\GU n o/\N2 b n r
mutual
def agl{f:Nat->Option Nat}{n:Nat}(hf:∀x,x<n->f x=Ix x):∀{v:AV},below n v->cg f v=v
 | .int _ _,_ | .bool _,_ | .dP _ _,_ | .str _,_ | .oY,_ | .aQ _,_ | .ae,_ | .aF _ _ _,_ | .kZ,_ | .nD,_ | .nE _ _,_ | .undef,_ | .bR _ _ _ _,_=>rfl
 | .ptr id o,h=>by simp only[cg,hf id h]
 | .av id o k,h=>by simp only[cg,hf id h]
 | .map id,h=>by simp only[cg,hf id h]
 | .it id,h=>by simp only[cg,hf id h]
 | .fn (.y l) first cap,h=>by
  obtain⟨h1,rfl,rfl⟩:=h;simp only[cg,hf l h1,fo]
 | .fn (.f _) first cap,h=>by
  simp only[cg,D4 hf h.1,D4 hf h.2]
 | .agg cs,h=>by simp only[below] at h;simp only[cg,D4 hf h]
 | .ax cs,h=>by simp only[below] at h;simp only[cg,D4 hf h]
def D4{f:Nat->Option Nat}{n:Nat}(hf:∀x,x<n->f x=Ix x):∀{vs:List AV},AG n vs->fo f vs=vs
 | [],_=>rfl
 | v::r,h=>by simp only[fo,agl hf h.1,D4 hf h.2]
end
def Xw{f:Nat->Option Nat}{n:Nat}(hf:∀x,x<n->f x=Ix x):∀{tm:Env},AH n tm->je f tm=tm
 | [],_=>rfl
 | (_,v)::r,h=>by simp only[je,agl hf h.1,Xw hf h.2]
def aq5{f:Nat->Option Nat}{n:Nat}(hf:∀x,x<n->f x=Ix x):∀{o:Obj},GU n o->jY f o=o
 | .cells _ pu _ _ cs,h=>by
  cases pu with
  | true=>rfl
  | false=>simp only[GU,yH,ycp] at h;simp only[jY,y5,D4 hf h]
 | .mp _ ks vs,h=>by simp only[jY,D4 hf h.1,D4 hf h.2]
 | .si _ _,_=>rfl
 | .lp tm _ _ _ _ _,h=>by simp only[GU] at h;simp only[jY,Xw hf h]
mutual
def afq{n:Nat}:∀{v:AV},below n v->∀x,x∈refs v->x<n
 | .int _ _,_,x,h | .bool _,_,x,h | .dP _ _,_,x,h | .str _,_,x,h | .oY,_,x,h | .aQ _,_,x,h | .ae,_,x,h | .aF _ _ _,_,x,h | .kZ,_,x,h | .nD,_,x,h | .nE _ _,_,x,h | .undef,_,x,h | .bR _ _ _ _,_,x,h=>by simp[refs] at h
 | .ptr id o,h,x,hx=>by simp only[refs,wD] at hx;subst hx;exact h
 | .av id o k,h,x,hx=>by simp only[refs,wD] at hx;subst hx;exact h
 | .map id,h,x,hx=>by simp only[refs,wD] at hx;subst hx;exact h
 | .it id,h,x,hx=>by simp only[refs,wD] at hx;subst hx;exact h
 | .fn (.y l) first cap,h,x,hx=>by simp only[refs,wD] at hx;subst hx;exact h.1
 | .fn (.f _) first cap,h,x,hx=>by
  simp only[refs,wm] at hx;exact hx.elim (D2 h.1 x) (D2 h.2 x)
 | .agg cs,h,x,hx=>by simp only[below] at h;simp only[refs] at hx;exact D2 h x hx
 | .ax cs,h,x,hx=>by simp only[below] at h;simp only[refs] at hx;exact D2 h x hx
def D2{n:Nat}:∀{vs:List AV},AG n vs->∀x,x∈iF vs->x<n
 | [],_,x,h=>by simp[iF] at h
 | v::r,h,x,hx=>by
  simp only[iF,wm] at hx;exact hx.elim (afq h.1 x) (D2 h.2 x)
end
def Xk{n:Nat}:∀{tm:Env},AH n tm->∀x,x∈gY tm->x<n
 | [],_,x,h=>by simp[gY] at h
 | (_,v)::r,h,x,hx=>by
  simp only[gY,wm] at hx;exact hx.elim (afq h.1 x) (Xk h.2 x)
def aqr{n:Nat}:∀{o:Obj},GU n o->∀x,x∈lZ o->x<n
 | .cells _ pu _ _ cs,h,x,hx=>by
  cases pu with
  | true=>simp[lZ] at hx
  | false=>simp only[GU,yH,ycp] at h;exact D2 h x hx
 | .mp _ ks vs,h,x,hx=>by
  simp only[lZ,wm] at hx;exact hx.elim (D2 h.1 x) (D2 h.2 x)
 | .si _ _,_,x,hx=>by simp[lZ] at hx
 | .lp tm _ _ _ _ _,h,x,hx=>by simp only[GU] at h;exact Xk h x hx
def nB(B:Nat):List (List AV)->Hp
 | []=>[]
 | cs::r=>(B+r.length,.cells ycO ycO ycO 1 cs)::nB B r
def G9(B:Nat):List (List AV)->Hp->Hp
 | [],acc=>acc
 | cs::r,acc=>G9 (B+1) r ((B,.cells ycO ycO ycO 1 cs)::acc)
def afr:∀(l:List (List AV)) (B:Nat) (x:List AV) (acc:Hp),G9 B (l++[x]) acc=(B+l.length,.cells ycO ycO ycO 1 x)::G9 B l acc
 | [],B,x,acc=>rfl
 | c::l,B,x,acc=>by
  simp only[xC,G9,afr l,yB]
  grind
def agm(B:Nat)(acc:Hp):∀rs:List (List AV),G9 B rs.reverse acc=nB B rs++acc
 | []=>rfl
 | c::r=>by
  simp only[ybp,afr,agm B acc r,yaW,nB,xC]
def agn{B:Nat}{old:Hp}:∀{rs:List (List AV)} {i:Nat} (h:i<rs.length),au (nB B rs++old) (B+i)=Ix (.cells ycO ycO ycO 1 (rs.reverse[i]'(by simpa using h)))
 | c::r,i,h=>by
  simp only[nB,xC,ybp];by_cases hi:i=r.length
  .subst hi;rw[au,vd,yN]
   simp
  .have aY:i<r.length:=by grind
   rw[au,jL (by lia),y5,agn aY]
   grind
def GV{b:Nat}(h:a<b):yU a b=ycO:=by simp_all
def N3{b:Nat}(h:b<=a):yU a b=ycP:=by
 cases hq:yU a b with
 | false=>rfl
 | true=>have:=yF hq;lia
def Xd{B:Nat}{old:Hp}:∀rs:List (List AV),lK B (nB B rs++old)=lK B old
 | []=>rfl
 | c::r=>by
  simp only[nB,xC];rw[lK,N3 (by lia),y5,Xd r]
def afs{B:Nat}{old:Hp}{f:Nat->Option Nat}:∀rs:List (List AV),p9 B f (nB B rs++old)=p9 B f old
 | []=>rfl
 | c::r=>by
  simp only[nB,xC];rw[p9,N3 (by lia),y5,afs r]
def aeS{B n:Nat}{f:Nat->Option Nat}(hf:∀x,x<n->f x=Ix x):∀{old:Hp},N2 B n old->p9 B f old=old
 | [],_=>rfl
 | (id,o)::r,h=>by
  rw[p9,GV h.1,yN,aq5 hf h.2.1,aeS hf h.2.2]
def aq6{s:Nat}(h:B+s<=x):me x (wK B s)=ycP:=by
 induction s generalizing B with
 | zero=>rfl
 | succ s ih=>rw[vW,me,jL (by lia),y5,ih (by lia)]
def Xx{hp:Hp}{B R:Nat}(iQ:∀i,i<R->∃rw ex sz cs,au hp (B+i)=Ix (.cells rw ycO ex sz cs)):
  ∀(W:List Nat) (bA s:Nat),W.length<bA->s<=R->W.filter (fun x=> !yU x B)=wK (B+s) (R-s)->reach hp B bA W (wK B s)=wK B R
 | [],0,s,hf,_,_=>by simp at hf
 | [],bA+1,s,hf,hs,h=>by
  have:R-s=0:=by
   grind
  rw[reach,show R=s by lia]
 | id::W,0,s,hf,_,_=>by simp at hf
 | id::W,bA+1,s,hf,hs,h=>by
  have rL:W.length<bA:=by simp_all
  rw[reach];by_cases hid:id<B
  .rw [GV hid,yar,yN];rw[ybC,GV hid] at h;exact Xx iQ W bA s rL hs (by simpa using h)
  .rw [ybC,N3 (by lia)] at h;have hRs:R-s=(R-s-1)+1:=by
    have:=congrArg tK h
    grind
   rw[hRs,vW] at h;injection h with h1 h2
   subst h1;rw[N3 (by lia),vS,aq6 (ym _),y5];have⟨rw,ex,sz,cs,ho⟩:=iQ s (by lia);simp only[ho,lZ,yN,xy];have e:wK B s++[B+s]=wK B (s+1):=by rw[List.range'_concat];simp
   rw[e];exact Xx iQ W bA (s+1) rL (by lia) (by rw[h2,show R-s-1=R-(s+1) by lia,show B+s+1=B+(s+1) by lia])
def aq7{s i k:Nat}(h:i<s):fG (B+i) (wK B s) k=Ix (k+i):=by
 induction s generalizing B i k with
 | zero=>lia
 | succ s ih=>
  rw[vW,fG];by_cases hi:i=0
  .simp_all
  .rw [jL (by lia),y5]
   have:=ih (B:=B+1) (i:=i-1) (k:=k+1) (by lia)
   grind
def aqs{R:Nat}(h:x<B+R):nZ B (wK B R) x=Ix x:=by
 unfold nZ;by_cases hx:x<B
 .rw [GV hx,yN]
 .rw [N3 (by lia),y5]
  have:=aq7 (B:=B) (s:=R) (i:=x-B) (k:=B) (by lia)
  grind
def aft{hp:Hp}{f:Nat->Option Nat}:∀(ro:List (List AV)) (B:Nat) (acc:Hp),(∀i (h:i<ro.length),au hp (B+i)=Ix (.cells ycO ycO ycO 1 ro[i]))->js hp f (wK B ro.length) B acc=G9 B ro acc
 | [],B,acc,_=>rfl
 | c::r,B,acc,h=>by
  have h0:=h 0 (by simp);simp only[xg,List.getElem_cons_zero] at h0;rw[yB,vW,js];simp only[h0,jY,yN,G9]
  exact aft r (B+1) _ (fun i hi=>by
   have:=h (i+1) (by simpa using hi)
   rw[show B+1+i=B+(i+1) by lia,this]
   simp)
def ap0{rs:List (List AV)}(ht:AH B (cT tm live))(ho:N2 B (B+rs.length) old)(hl:(gY (cT tm live)).length+(lK B old).length<100000)(hr:(lK B old).filter (fun x=> !yU x B)=wK B rs.length):bW live ⟨tm,nB B rs++old,ct,B⟩=⟨cT tm live,nB B rs++old,B+rs.length,B⟩:=by
 have iQ:∀i (h:i<rs.length),au (nB B rs++old) (B+i)=Ix (.cells ycO ycO ycO 1 (rs.reverse[i]'(by simpa using h))):=fun i h=>agn h
 have aj9:reach (nB B rs++old) B 100000 (gY (cT tm live)++lK B (nB B rs++old)) []=wK B rs.length:=by
  have:=Xx (hp:=nB B rs++old) (B:=B) (R:=rs.length) (fun i hi=>⟨_,_,_,_,iQ i hi⟩) (gY (cT tm live)++lK B (nB B rs++old)) 100000 0 (by rw[Xd,yE];exact hl) (uO _) (by
   rw[List.filter_append,Xd,hr,yaI.2 (fun x hx=>by
    have:=Xk ht x hx
    simp[GV this])]
   simp)
  grind
 have hid:∀x,x<B+rs.length->nZ B (wK B rs.length) x=Ix x:=fun x hx=>aqs hx
 have hn:=aft (hp:=nB B rs++old) (f:=nZ B (wK B rs.length)) rs.reverse B old (fun i hi=>iQ i (by simpa using hi));rw[yaW] at hn;simp only[bW,aj9,afs,aeS hid ho,hn,agm,List.length_range']
 rw[Xw (n:=B) (fun x hx=>hid x (by lia)) ht]
def afu{B b n:Nat}(hb:b<=B):∀{H:Hp},N2 b n H->∀x,x∈lK B H->x<n
 | [],_,x,hx=>by simp[lK] at hx
 | (id,o)::r,h,x,hx=>by
  rw[lK,GV (by have:=h.1;lia),yN,wm] at hx
  exact hx.elim (aqr h.2.1 x) (afu hb h.2.2 x)
def aeT(ht:AH B (cT tm live))(ho:N2 B B old)(hl:(gY (cT tm live)).length+(lK B old).length<100000):
  bW live ⟨tm,old,ct,B⟩=⟨cT tm live,old,B,B⟩:=by
 have:=ap0 (rs:=[]) (ct:=ct) ht (by simpa using ho) hl (by
  rw[yaI.2 (fun x hx=>by have:=afu (ym B) ho x hx;simp[GV this])]
  rfl)
 simpa[nB] using this
def aiF{n:Nat}{F:aw}(h:Has P L n F){ex:Ex}{s:St}(hD:D P L F.body ⟨fY 0 az,hp,ct,ct⟩=Ix (ex,s))(he:ex=.normal\/ex=.ret)(hr:kJ s F.eG=Ix v):
  kN P L (D P L) hp ct n az=Ix (v,s.hp,s.ct):=by
 simp only[kN,h.heap,h.code,hD]
 grind
mutual
def At{n:Nat}:∀{v:AV},aP v=ycO->below n v
 | .int _ _,_ | .bool _,_ | .dP _ _,_ | .str _,_ | .oY,_ | .aQ _,_ | .ae,_ | .aF _ _ _,_ | .kZ,_ | .nD,_ | .nE _ _,_ | .undef,_=>trivial
 | .bR _ _ _ _,_=>trivial
 | .ptr _ _,h | .av _ _ _,h | .map _,h | .it _,h=>by simp[aP] at h
 | .fn (.y _) _ _,h=>by simp[aP] at h
 | .fn (.f _) _ _,h=>by
  simp only[aP,yj] at h;exact⟨MG h.1,MG h.2⟩
 | .agg cs,h=>by simp only[aP] at h;simp only[below];exact MG h
 | .ax cs,h=>by simp only[aP] at h;simp only[below];exact MG h
def MG{n:Nat}:∀{vs:List AV},aD vs=ycO->AG n vs
 | [],_=>trivial
 | _::_,h=>by
  simp only[aD,yj] at h;exact⟨At h.1,MG h.2⟩
end
section
variable {pre x post:List Nat}{i:Nat}
def zF:(pre++x++post).length=pre.length+x.length+post.length:=by grind
def Gq(h:i<x.length):(pre++x++post).getD (pre.length+i) 0=x.getD i 0:=by grind
def SG(a:Nat)(h:i<x.length):(pre++x++post).set (pre.length+i) a=pre++x.set i a++post:=by simp_all
end
def pX(n:Nat)(k:xh)(a:Int):below n (.int k a)=True:=rfl
def rh(n id o k:Nat):below n (.av id o k)=(id<n):=rfl
def pR(n:Nat):AH n []=True:=rfl
def pO(n i:Nat)(v:AV)(r:Env):AH n ((i,v)::r)=(below n v/\AH n r):=rfl
def Ax{a b:List AV}(ht:AH 2 (cT tm live))(hl:(gY (cT tm live)).length<100000):
  bW live ⟨tm,[(1,.cells ycO ycO ycO 1 a),(0,.cells ycO ycO ycO 1 b)],ct,2⟩=⟨cT tm live,[(1,.cells ycO ycO ycO 1 a),(0,.cells ycO ycO ycO 1 b)],2,2⟩:=
 aeT ht ⟨by lia,.inl rfl,by lia,.inl rfl,trivial⟩ (by
  have:lK 2 [(1,Obj.cells ycO ycO ycO 1 a),(0,Obj.cells ycO ycO ycO 1 b)]=[]:=rfl
  rw[this,yI,xg];exact hl)
def aq8{s c:Nat}(hs:s<64)(hx:x<2^64)(hc:c<2^s):
  c|||(x*2^s%2^64)<2^64/\c<2^64/\x/2^(64-s)<2^s/\(c|||(x*2^s%2^64))+2^64*(x/2^(64-s))=x*2^s+c:=by
 have e:2^64=2^(64-s)*2^s:=by rw[<-wP,show 64-s+s=64 by lia]
 have h1:x*2^s%2^64=(x%2^(64-s))*2^s:=by rw[e,uD]
 have h2:x/2^(64-s)<2^s:=by
  refine (wE (vm _)).2 ?_
  grind
 have h3:c|||(x*2^s%2^64)=(x%2^(64-s))*2^s+c:=by rw[h1,ycD,Zx hc]
 have h4:(x%2^(64-s))*2^s+c<2^64:=by
  have:=yR (2^s) (show x%2^(64-s)+1<=2^(64-s) from xV _ (vm _))
  grind
 have h5:=uy x (2^(64-s))
 grind
def az0{w:List Nat}(hv:bL v w)(hw:lo (2^64) w)(lw:w.length<=99999999999){s n:Nat}(hs:s<64)(hn:n=w.length+1):
  cL P L [1,5,12,13,14] Je (fun k st=>∃(i:Nat) (out:List Nat),st=⟨[(1,aa s),(5,.av 0 0 n),(12,v),(13,aa w.length),(14,aa i)],[(0,.cells ycO ycO ycO 1 (out.map uc))],1,0⟩/\i+k=w.length/\out.length=n/\lo (2^64) out/\bv (2^64) out=bv (2^64) (w.take i)*2^s/\out.getD i 0<2^s/\(∀m,i<m->out.getD m 0=0)) (fun ex st'=>∃tm out,st'=⟨tm,[(0,.cells ycO ycO ycO 1 (out.map uc))],1,0⟩/\ex=.exit 0/\ab tm 5=.av 0 0 n/\out.length=n/\lo (2^64) out/\bv (2^64) out=bv (2^64) w*2^s):=by
 apply cP;rintro k st ⟨i,out,rfl,hk,hlen,bj,aR,hc,iW⟩;by_cases hi:i<w.length
 .left
  have gx:=jr (show 0<2^64 by decide) hw i;have ex:=hv.aT hi;have ec:=C4 (l:=out) (o:=i) (by lia);have aV:=so (b:=2^64) (l:=out) (i:=i) (x:=out.getD i 0|||(w.getD i 0*2^s%2^64)) (by lia);have hz:out.getD (i+1) 0=0:=iW _ (by lia);have dW:=lP (b:=2^64) (l:=w) i;generalize out.getD i 0=c at*
  generalize w.getD i 0=x at*
  have⟨s1,s2,s3,s4⟩:=aq8 hs gx hc;have o1:=Pb .i64 x (s:=s) (by lia);have o2:=orU s2 (xV (x*2^s) (by decide));have o3:binOp .sub (.int .i64 64) (aa s)=Ix (aa (64-s:Nat)):=by
   rw[SC,wrap64 (by lia) (by lia)];congr 2;lia
  have o4:=Pc .i64 x (s:=64-s) (by lia);generalize iy:c|||(x*2^s%2^64)=c' at*
  by_cases h0:0<s
  .have TJ:=so (b:=2^64) (l:=out.set i c') (i:=i+1) (x:=x/2^(64-s)) (by simp;lia)
   rw[zE (by lia),hz,xP,xg] at TJ;have aD6:x/2^(64-s)<2^64:=wM (vK _ _) gx;generalize x/2^(64-s)=y at*
   simp only[go_sem,ya,yf,Je,show (i:Int)<w.length by lia,ex,b9 0 0 (show i<n by lia),yd,ec,o1,o2,nN (l:=out) (o:=i) (by lia),show (0:Int)<(s:Int) by lia,show (i:Int)+1=((i+1:Nat):Int) from rfl,wrapN (n:=i+1) (by lia),o3,o4,b9 0 0 (show i+1<n by lia),nN (l:=out.set i c') (o:=i+1) (by simp;lia)]
   refine⟨_,k-1,rfl,by lia,i+1,(out.set i c').set (i+1) y,by simp only[go_sem,ya,yb,ao,aj hv.pu]<;>rfl,by lia,by simp[hlen],pV (pV bj s1) aD6,?_,by rw[aqL (by simp;lia)];exact s3,fun m hm=>by rw[zE (by lia),zE (by lia)];exact iW m (by lia)⟩
   rw[dW,xU,TJ,<-aR,BY,xD,xD ((2^64)^i)];have e:=congrArg (fun t=>(2^64)^i*t) s4;simp only[xO] at e;generalize (2^64)^i*(2^64*y)=p1 at*
   generalize (2^64)^i*(x*2^s)=p2 at*
   generalize (2^64)^i*c'=p3 at*
   lia
  .have qF:s=0:=by lia
   subst qF;have oG:c=0:=by simpa using hc
   have DN:x/2^(64-0)=0:=wZ gx;rw[DN,xP,xg,ycu,yf] at s4
   simp only[go_sem,ya,yf,Je,show (i:Int)<w.length by lia,ex,b9 0 0 (show i<n by lia),yd,ec,o1,o2,nN (l:=out) (o:=i) (by lia),show ¬(0:Int)<((0:Nat):Int) by lia,show (i:Int)+1=((i+1:Nat):Int) from rfl,wrapN (n:=i+1) (by lia)];refine⟨_,k-1,rfl,by lia,i+1,out.set i c',by simp only[go_sem,ya,yb,ao,aj hv.pu]<;>rfl,by lia,by simp[hlen],pV bj s1,?_,by rw[zE (by lia),hz];exact vm _,fun m hm=>by rw[zE (by lia)];exact iW m (by lia)⟩
   rw[ycu,yf] at aR ⊢;rw[dW,<-aR];rw[oG,xP,xg] at aV;rw[aV,s4,oG,xg]
 .right
  have:i=w.length:=by lia
  subst this;rw[xH] at aR;simp only[go_sem,ya,Je,show ¬(w.length:Int)<w.length by lia];exact⟨_,_,rfl,by simp,_,out,rfl,rfl,rfl,hlen,bj,aR⟩
def amg(h:Has P L 168 UG){w:List Nat}(hv:bL v w)(hw:lo (2^64) w)(lw:w.length<=99999999999){s:Nat}(hs:s<64):
  ∃out,ah P L 168 [v,aa s] (.bR ycO 1 (w.length+1) (out.map uc))/\out.length=w.length+1/\lo (2^64) out/\bv (2^64) out=bv (2^64) w*2^s:=by
 obtain⟨n,hn⟩:∃n,n=w.length+1:=⟨_,rfl⟩;unfold ah;rw[aB h]
 simp only[go_sem,ya,yb,UG,hv.len,wrapN (n:=n) (by lia),show (w.length:Int)+1=((w.length+1:Nat):Int) from rfl,<-hn,Hu (n:=n) _ (by lia)];generalize hq:D P L (.loop _ Je) _=q;obtain⟨ex,st,rfl,tm,o,rfl,rfl,t5,hlen,bj,aR⟩:=bg hq (az0 (P:=P) (L:=L) hv hw lw hs hn w.length)
  ⟨0,ye n 0,by simp only[go_sem,ya,yb,ao,aj hv.pu]<;>rfl,by lia,by simp,Jr (by decide) n,by rw[Js];simp[bv],by rw[Gp];exact vm _,fun m _=>Gp n m⟩
 refine⟨o,?_,hlen,bj,aR⟩;simp only[go_sem,yb,ao,t5];exact mW (fq _ _ _) (by simp[hlen]) (by decide)
abbrev H2(a b:List Nat):Hp:=[(1,.cells ycO ycO ycO 1 (a.map uc)),(0,.cells ycO ycO ycO 1 (b.map uc))]
structure jA(x vs:List Nat)(n v1 v2 u0 u1 u2:Nat):Prop where
 n2:2<=n
 nb:n<=99999999999
 lx:x.length=n+1
 lv:vs.length=n
 gx:lo (2^64) x
 gv:lo (2^64) vs
 fS:vs.getD (n-1) 0=v1
 dC:vs.getD (n-2) 0=v2
 h0:x.getD n 0=u0
 h1:x.getD (n-1) 0=u1
 h2:x.getD (n-2) 0=u2
 pos:0<v1
 lt:bv (2^64) x<2^64*bv (2^64) vs
def aCc(b p a v1 v2:Nat):a+p*v2+p*b*v1=(v1*b+v2)*p+a:=by grind
def aCd(b p a v0 v1 v2:Nat):a+p*v2+p*b*v1+p*b*b*v0=((v0*b+v1)*b+v2)*p+a:=by grind
section
variable {x vs:List Nat}{n v1 v2 u0 u1 u2:Nat}
def jA.Qe(h:jA x vs n v1 v2 u0 u1 u2):v1<2^64:=h.fS▸jr (by decide) h.gv _
def jA.H0(h:jA x vs n v1 v2 u0 u1 u2):v2<2^64:=h.dC▸jr (by decide) h.gv _
def jA.Qf(h:jA x vs n v1 v2 u0 u1 u2):u1<2^64:=h.h1▸jr (by decide) h.gx _
def jA.Qg(h:jA x vs n v1 v2 u0 u1 u2):u2<2^64:=h.h2▸jr (by decide) h.gx _
def jA.parts(h:jA x vs n v1 v2 u0 u1 u2):∃p vr ur,bv (2^64) vs=(v1*2^64+v2)*p+vr/\vr<p/\bv (2^64) x=((u0*2^64+u1)*2^64+u2)*p+ur/\ur<p:=by
 obtain⟨m,hm⟩:∃m,n=m+2:=⟨n-2,by have:=h.n2;lia⟩
 subst hm;have e1:=lP (b:=2^64) (l:=vs) (m+1);have e2:=lP (b:=2^64) (l:=vs) m;have f0:=lP (b:=2^64) (l:=x) (m+2);have f1:=lP (b:=2^64) (l:=x) (m+1);have f2:=lP (b:=2^64) (l:=x) m;have fS:vs.getD (m+1) 0=v1:=h.fS;have dC:vs.getD m 0=v2:=h.dC;have h0:x.getD (m+2) 0=u0:=h.h0;have h1:x.getD (m+1) 0=u1:=h.h1;have h2:x.getD m 0=u2:=h.h2
 rw[yq (by have:=h.lv;lia),fS,e2,dC] at e1
 rw[yq (by have:=h.lx;lia),h0,f1,h1,f2,h2] at f0
 have g1:=qd (Eh h.gv m)
 rw[yJ,xq (by have:=h.lv;lia)] at g1
 have g2:=qd (Eh h.gx m)
 rw[yJ,xq (by have:=h.lx;lia)] at g2
 refine⟨(2^64)^m,_,_,?_,g1,?_,g2⟩
 .grind
 .grind
def jA.down(h:jA x vs n v1 v2 u0 u1 u2){t r:Nat}(ht:t*v1+r=u0*2^64+u1)(hr:r*2^64+u2<t*v2):bv (2^64) x/bv (2^64) vs<=t-1:=by
 have⟨p,vr,ur,h1,h2,h3,h4⟩:=h.parts;exact afk h1 h3 h4 ht hr
def jA.stop(h:jA x vs n v1 v2 u0 u1 u2){t r:Nat}(nM:t<2^64)(ht:t*v1+r=u0*2^64+u1)(hr:2^64<=r\/t*v2<=r*2^64+u2):t<=bv (2^64) x/bv (2^64) vs+1:=by
 have⟨p,vr,ur,h1,h2,h3,h4⟩:=h.parts;exact agd (by decide) h1 h2 h3 h.pos h.H0 nM ht hr
def jA.first(h:jA x vs n v1 v2 u0 u1 u2):bv (2^64) x/bv (2^64) vs<=(u0*2^64+u1)/v1:=by
 have⟨p,vr,ur,h1,h2,h3,h4⟩:=h.parts;exact Xi h1 h3 h4 h.Qg h.pos
def jA.top(h:jA x vs n v1 v2 u0 u1 u2):u0<=v1:=by
 have⟨p,vr,ur,h1,h2,h3,h4⟩:=h.parts;exact age h1 h3 h2 h.H0 h.lt
def jA.digit(h:jA x vs n v1 v2 u0 u1 u2):bv (2^64) x/bv (2^64) vs<2^64:=by
 refine (wE ?_).2 h.lt;rcases xE (bv (2^64) vs) with h0 | h0
 .have:=h.lt;rw[h0] at this;simp at this
 .exact h0
end
def ajD(qC:L.pure 143=Ix BC)(jg:L.pure 171=Ix sj){w:AV}{x qs:List Nat}(hw:bL w vs){n v1 v2:Nat}(hl:jA x vs n v1 v2 u0 u1 u2):
  cL P L [0,1,5,6,7,8] CT (fun k s=>∃q r:Nat,s=⟨[(0,.av 0 pre.length (n+1)),(1,w),(5,aa n),(6,uc q),(7,uc (r%2^64)),(8,uc (r/2^64))],H2 qs (pre++x++post),2,2⟩/\q*v1+r=u0*2^64+u1/\r<2*2^64/\q<2^64/\bv (2^64) x/bv (2^64) vs<=q/\q=k) (fun ex s'=>∃tm q,s'=⟨tm,H2 qs (pre++x++post),2,2⟩/\ex=.exit 0/\ab tm 0=.av 0 pre.length (n+1)/\ab tm 1=w/\ab tm 5=aa n/\ab tm 6=uc q/\q<2^64/\bv (2^64) x/bv (2^64) vs<=q/\q<=bv (2^64) x/bv (2^64) vs+1):=by
 apply cP;rintro k s ⟨q,r,rfl,hq,hr,sX,hQ,rfl⟩;have eH:=hl.n2;have Ah:=hl.nb;by_cases gK:r<2^64
 .have K8:r%2^64=r:=y8 gK;have FE:r/2^64=0:=wZ gK;rw[K8,FE];have Kk:=hl.Qe;have abg:=hl.H0;have amh:=hl.Qg;have Ak:=hw.aT (i:=n-2) (by have:=hl.lv;lia)
  have fT:=hw.aT (i:=n-1) (by have:=hl.lv;lia)
  rw[hl.dC] at Ak;rw[hl.fS] at fT;have Cp:=C4 (l:=pre++x++post) (o:=pre.length+(n-2)) (by rw[zF];have:=hl.lx;lia)
  rw[Gq (by have:=hl.lx;lia),hl.h2] at Cp
  have f1:=S9 (P:=P) (f:=D P L) qC sX abg;have f2:=GS (P:=P) (f:=D P L) jg (x:=r) (y:=v1) (c:=0) gK Kk (by lia);rw[show (uc 0)=AV.int .u64 0 from rfl] at f2;have gV:=wF (q*v2) (2^64);have bj:=xV (q*v2) (show 0<2^64 by decide);obtain⟨H,hH⟩:∃H,H=q*v2/2^64:=⟨_,rfl⟩;obtain⟨G,hG⟩:∃G,G=q*v2%2^64:=⟨_,rfl⟩;rw[<-hH,<-hG] at f1 gV;rw[<-hG] at bj;have DO:(n:Int)-2=((n-2:Nat):Int):=by lia
  have Al:(n:Int)-1=((n-1:Nat):Int):=by lia
  by_cases c1:H<r
  .right
   simp only[go_sem,ya,CT,H2,show ((0:Nat):Int)=0 from rfl,DO,wrapN (n:=n-2) (by lia),Ak,f1,show (H:Int)<(r:Int) by lia];exact⟨_,_,rfl,by simp,_,q,rfl,rfl,rfl,rfl,rfl,rfl,sX,hQ,hl.stop sX hq (.inr (by lia))⟩
  .by_cases c2:H=r/\G<=u2
   .right
    have⟨c2,c3⟩:=c2
    simp only[go_sem,ya,CT,H2,show ((0:Nat):Int)=0 from rfl,DO,wrapN (n:=n-2) (by lia),Ak,f1,show (H:Int)=(r:Int) by lia];simp only[show ¬(r:Int)<(r:Int) by lia,yp]
    simp only[go_sem,ya,yf,DO,wrapN (n:=n-2) (by lia),b9 0 pre.length (show n-2<n+1 by lia),Cp,show (G:Int)<=(u2:Int) by lia];exact⟨_,_,rfl,by simp,_,q,rfl,rfl,rfl,rfl,rfl,rfl,sX,hQ,hl.stop sX hq (.inr (by lia))⟩
   .left
    have KL:r*2^64+u2<q*v2:=by lia
    have DL:0<q:=by
     rcases xE q with h0 | h0
     .subst h0;lia
     .exact h0
    have e3:binOp .sub (uc q) (.int .u64 1)=Ix (uc (q-1)):=Hv (b:=1) (by lia) (by lia);have h1:(q-1)*v1+(r+v1)=u0*2^64+u1:=by
     obtain⟨p,rfl⟩:∃p,q=p+1:=⟨q-1,by lia⟩;rw[xU,ybX] at hq;rw[uR];lia
    have FF:=hl.down hq KL;rw[xg] at f2;by_cases c3:H=r
    .have c4:¬G<=u2:=fun h=>c2 ⟨c3,h⟩
     subst c3
     simp only[go_sem,ya,yV,yf,CT,H2,show ((0:Nat):Int)=0 from rfl,DO,Al,wrapN (n:=n-2) (by lia),wrapN (n:=n-1) (by lia),Ak,fT,f1,f2,show ¬(H:Int)<(H:Int) by lia,b9 0 pre.length (show n-2<n+1 by lia),Cp,show ¬(G:Int)<=(u2:Int) by lia,e3];refine⟨_,q-1,rfl,by lia,q-1,H+v1,?_,h1,by lia,by lia,FF,rfl⟩;rw[Ax (by simp only[go_sem,ya,yA,pX,rh,pR,pO,At hw.pu,vv]) (by simp only[go_sem,ya,yb,yA,fX hw.pu])];simp only[go_sem,ya]
    .simp only [go_sem,ya,yV,CT,H2,show ((0:Nat):Int)=0 from rfl,DO,Al,wrapN (n:=n-2) (by lia),wrapN (n:=n-1) (by lia),Ak,fT,f1,f2,show ¬(H:Int)<(r:Int) by lia,show ¬(H:Int)=(r:Int) by lia,e3];refine⟨_,q-1,rfl,by lia,q-1,r+v1,?_,h1,by lia,by lia,FF,rfl⟩;rw[Ax (by simp only[go_sem,ya,yA,pX,rh,pR,pO,At hw.pu,vv]) (by simp only[go_sem,ya,yb,yA,fX hw.pu])];simp only[go_sem,ya]
 .right
  have FE:r/2^64=1:=by lia
  rw[FE];simp only[go_sem,ya,CT,H2,show ((1:Nat):Int)=1 from rfl,uf];exact⟨_,_,rfl,by simp,_,q,rfl,rfl,rfl,rfl,rfl,rfl,sX,hQ,hl.stop sX hq (.inl (by lia))⟩
def asC{b y z rR c DP ca q v X:Nat}(h1:q*v+c=b*ca+rR)(h2:z+rR+bo=x+b*DP)(h3:Y+q*X=y+p*(c+bo))(W:Nat)(hW:W+p*x=Y+p*z):
  W+q*(X+p*v)=y+p*b*(ca+DP):=by grind
def asD{q v c:Nat}(hq:q<2^64)(hv:v<2^64)(hc:c<2^64):
  q*v+c=2^64*(q*v/2^64+(q*v%2^64+c+0)/2^64)+(q*v%2^64+c+0)%2^64/\
  q*v/2^64+(q*v%2^64+c+0)/2^64<2^64:=by
 have h:=xo (show q<=18446744073709551615 by lia) (show v<=18446744073709551615 by lia)
 grind
def az1(qC:L.pure 143=Ix BC)(jg:L.pure 171=Ix sj)(BZ:L.pure 173=Ix En){w:AV}{x qs:List Nat}(hw:bL w vs){n:Nat}(Ah:n<=99999999999)(lv:vs.length=n)(gv:lo (2^64) vs){q:Nat}(hq:q<2^64):
  cL P L [0,1,5,6,11,12,104,105] NH (fun k s=>∃(i c bo:Nat) (y:List Nat),s=⟨[(0,.av 0 pre.length (n+1)),(1,w),(5,aa n),(6,uc q),(11,uc bo),(12,uc c),(104,aa n),(105,aa i)],H2 qs (pre++y++post),2,2⟩/\i+k=n/\y.length=n+1/\lo (2^64) y/\c<2^64/\bo<=1/\
    bv (2^64) y+q*bv (2^64) (vs.take i)=bv (2^64) x+(2^64)^i*(c+bo)) (fun ex s'=>∃tm c bo y,s'=⟨tm,H2 qs (pre++y++post),2,2⟩/\ex=.exit 2/\ab tm 0=.av 0 pre.length (n+1)/\ab tm 1=w/\ab tm 5=aa n/\ab tm 6=uc q/\ab tm 11=uc bo/\ab tm 12=uc c/\y.length=n+1/\lo (2^64) y/\c<2^64/\bo<=1/\
    bv (2^64) y+q*bv (2^64) vs=bv (2^64) x+(2^64)^n*(c+bo)):=by
 apply cP;rintro k s ⟨i,c,bo,y,rfl,hk,ly,gy,hc,lD,aR⟩;by_cases hi:i<n
 .left
  have eO:(0:Nat)<2^64:=by decide
  have Bb:=jr eO gv i;have Am:=jr eO gy i;have ev:=hw.aT (i:=i) (by lia);have ey:=C4 (l:=pre++y++post) (o:=pre.length+i) (by rw[zF];lia)
  rw[Gq (by lia)] at ey;have dW:=lP (b:=2^64) (l:=vs) i;obtain⟨a,ha⟩:∃a,a=vs.getD i 0:=⟨_,rfl⟩;obtain⟨d,hd⟩:∃d,d=y.getD i 0:=⟨_,rfl⟩;rw[<-ha] at Bb ev dW;rw[<-hd] at Am ey;have⟨m1,m2⟩:=asD hq Bb hc;have f1:=S9 (P:=P) (f:=D P L) qC hq Bb;have f2:=GS (P:=P) (f:=D P L) jg (x:=q*a%2^64) (y:=c) (c:=0) (xV _ eO) hc (by lia);obtain⟨rR,ami⟩:∃t,t=(q*a%2^64+c+0)%2^64:=⟨_,rfl⟩;obtain⟨c1,fh⟩:∃t,t=(q*a%2^64+c+0)/2^64:=⟨_,rfl⟩;have amj:rR<2^64:=by rw[ami];exact xV _ eO
  rw[<-ami,<-fh] at f2 m1;rw[<-fh] at m2;obtain⟨h1,lC⟩:∃t,t=q*a/2^64:=⟨_,rfl⟩;rw[<-lC] at f1 m1 m2;rw[show (uc 0)=AV.int .u64 0 from rfl] at f2;have f3:=Zw (P:=P) (f:=D P L) BZ Am amj lD;have nO:=Ys Am amj lD;obtain⟨z,hz⟩:∃t,t=(d+2^64*2-rR-bo)%2^64:=⟨_,rfl⟩;obtain⟨b',dd⟩:∃t,t=(if rR+bo<=d then 0 else 1):=⟨_,rfl⟩;have qK:b'<=1:=by rw[dd];split<;>lia
  have K7:z<2^64:=by rw[hz];exact xV _ eO
  rw[<-hz,<-dd] at f3 nO;have f4:binOp .add (uc h1) (uc c1)=Ix (uc (h1+c1)):=by
   rw[EK,y8 m2]
  have aV:=so (b:=2^64) (l:=y) (i:=i) (x:=z) (by lia);rw[<-hd] at aV;have aK:=fun (hp:Hp) (ct:Nat)=>nN (hp:=hp) (ct:=ct) (id:=0) (v:=z) (ex:=ycO) (l:=pre++y++post) (o:=pre.length+i) (by rw[zF];lia)
  have sG:=SG (pre:=pre) (x:=y) (post:=post) (i:=i) z (by lia);simp only[go_sem,ya,yf,NH,H2,show (i:Int)<(n:Int) by lia,ev,f1,f2,f4,b9 0 pre.length (show i<n+1 by lia),ey,f3,aK,sG];refine⟨_,k-1,rfl,by lia,i+1,h1+c1,b',y.set i z,?_,by lia,by simp[ly],pV gy K7,m2,qK,?_⟩
  .rw [Ax (by simp only[go_sem,ya,yA,pX,rh,pR,pO,At hw.pu,vv]) (by simp only[go_sem,ya,yb,yA,fX hw.pu])];rw[wrap64 (by lia) (by lia)];simp only[go_sem,ya]<;>rfl
  .rw [dW,BY];exact asC m1 nO aR _ aV
 .right
  have:i=n:=by lia
  subst this;rw[yq (by lia)] at aR;simp only[go_sem,ya,NH,H2,show ¬(i:Int)<(i:Int) by lia];exact⟨_,_,rfl,by simp,_,c,bo,y,rfl,rfl,rfl,rfl,rfl,rfl,rfl,rfl,ly,gy,hc,lD,aR⟩
def az2(jg:L.pure 171=Ix sj){w:AV}{y0 qs:List Nat}(hw:bL w vs){n:Nat}(Ah:n<=99999999999)(lv:vs.length=n)(gv:lo (2^64) vs){q:Nat}:
  cL P L [0,1,5,6,17,156,157] NI (fun k s=>∃(i c:Nat) (y:List Nat),s=⟨[(0,.av 0 pre.length (n+1)),(1,w),(5,aa n),(6,uc q),(17,uc c),(156,aa n),(157,aa i)],H2 qs (pre++y++post),2,2⟩/\i+k=n/\y.length=n+1/\lo (2^64) y/\c<=1/\
    bv (2^64) y+(2^64)^i*c=bv (2^64) y0+bv (2^64) (vs.take i)) (fun ex s'=>∃tm c y,s'=⟨tm,H2 qs (pre++y++post),2,2⟩/\ex=.exit 4/\ab tm 0=.av 0 pre.length (n+1)/\ab tm 5=aa n/\ab tm 6=uc q/\ab tm 17=uc c/\y.length=n+1/\lo (2^64) y/\c<=1/\
    bv (2^64) y+(2^64)^n*c=bv (2^64) y0+bv (2^64) vs):=by
 apply cP;rintro k s ⟨i,c,y,rfl,hk,ly,gy,hc,aR⟩;by_cases hi:i<n
 .left
  have eO:(0:Nat)<2^64:=by decide
  have Bb:=jr eO gv i;have Am:=jr eO gy i;have ev:=hw.aT (i:=i) (by lia);have ey:=C4 (l:=pre++y++post) (o:=pre.length+i) (by rw[zF];lia)
  rw[Gq (by lia)] at ey;have dW:=lP (b:=2^64) (l:=vs) i;obtain⟨a,ha⟩:∃a,a=vs.getD i 0:=⟨_,rfl⟩;obtain⟨d,hd⟩:∃d,d=y.getD i 0:=⟨_,rfl⟩;rw[<-ha] at Bb ev dW;rw[<-hd] at Am ey;have f1:=GS (P:=P) (f:=D P L) jg Am Bb hc;have aV:=so (b:=2^64) (l:=y) (i:=i) (x:=(d+a+c)%2^64) (by lia);rw[<-hd] at aV;have jG:=RC ((2^64)^i) (2^64) (d+a+c);have iy:(d+a+c)/2^64<=1:=by lia
  have K7:(d+a+c)%2^64<2^64:=xV _ eO;generalize (d+a+c)%2^64=z at*
  generalize (d+a+c)/2^64=c' at*
  have aK:=fun (hp:Hp) (ct:Nat)=>nN (hp:=hp) (ct:=ct) (id:=0) (v:=z) (ex:=ycO) (l:=pre++y++post) (o:=pre.length+i) (by rw[zF];lia)
  have sG:=SG (pre:=pre) (x:=y) (post:=post) (i:=i) z (by lia);simp only[go_sem,ya,yf,NI,H2,show (i:Int)<(n:Int) by lia,ev,f1,b9 0 pre.length (show i<n+1 by lia),ey,aK,sG];refine⟨_,k-1,rfl,by lia,i+1,c',y.set i z,?_,by lia,by simp[ly],pV gy K7,iy,?_⟩
  .rw [Ax (by simp only[go_sem,ya,yA,pX,rh,pR,pO,At hw.pu,vv]) (by simp only[go_sem,ya,yb,yA,fX hw.pu])];rw[wrap64 (by lia) (by lia)];simp only[go_sem,ya]<;>rfl
  .rw [dW,BY];rw[xO,xO] at jG
   lia
 .right
  have:i=n:=by lia
  subst this;rw[yq (by lia)] at aR;simp only[go_sem,ya,NI,H2,show ¬(i:Int)<(i:Int) by lia];exact⟨_,_,rfl,by simp,_,c,y,rfl,rfl,rfl,rfl,rfl,rfl,ly,gy,hc,aR⟩
def step_end{q:Nat}(hV:0<V)(h:Y+q*V=A+B*bo)(h1:A/V<=q)(h2:q<=A/V+1)(hY:Y<B)(hVB:V<=B)(lD:bo<=1):
  (bo=0->q=A/V/\Y=A%V)/\(bo=1->q=A/V+1/\Y+V=B+A%V):=by
 have gV:=wF A V;have hm:=xV A hV;generalize A/V=Q at*
 have hq:q=Q\/q=Q+1:=by lia
 constructor
 .rintro rfl;rcases hq with rfl | rfl
  .grind
  .grind
 .grind
structure Wd(P:aJ)(L:Lib):Prop where
 qC:L.pure 143=Ix BC
 jg:L.pure 171=Ix sj
 BZ:L.pure 173=Ix En
 Pd:L.pure 167=Ix JF
 amk:Has P L 165 ON
 qB:Has P L 166 EY
 aml:Has P L 168 UG
 aD7:Has P L 169 BU
 amm:Has P L 158 J8
 aD8:Has P L 157 OM
 amn:Has P L 159 UE
 aD9:Has P L 144 UB
 abh:Has P L 137 OK
def aA:VC->VC
 | .seq _ b=>b
 | c=>c
def az3(h:Wd P L){w:AV}{x qs:List Nat}(hw:bL w vs){n v1 v2:Nat}(hl:jA x vs n v1 v2 u0 u1 u2){q:Nat}(hq:q<2^64)(gM:bv (2^64) x/bv (2^64) vs<=q)(Bc:q<=bv (2^64) x/bv (2^64) vs+1):
  ∃tm x',D P L (aA (aA (aA (aA (aA (aA BU.body)))))) ⟨[(0,.av 0 pre.length (n+1)),(1,w),(5,aa n),(6,uc q)],H2 qs (pre++x++post),2,2⟩=Ix (.ret,⟨tm,H2 qs (pre++x'++post),2,2⟩)/\ab tm 4=uc (bv (2^64) x/bv (2^64) vs)/\x'.length=n+1/\lo (2^64) x'/\bv (2^64) x'=bv (2^64) x%bv (2^64) vs:=by
 have eH:=hl.n2;have Ah:=hl.nb;have eO:(0:Nat)<2^64:=by decide
 have hV:0<bv (2^64) vs:=by
  rcases xE (bv (2^64) vs) with h0 | h0
  .have:=hl.lt;rw[h0] at this;simp at this
  .exact h0
 have Cq:below 2 w:=At hw.pu;have Qh:=qd hl.gv;rw[hl.lv] at Qh;have Fc:(2^64)^n<=(2^64)^(n+1):=y9 (by decide) (by lia);have aJC:aA (aA (aA (aA (aA (aA BU.body)))))=aA (aA (aA (aA (aA (aA BU.body))))):=rfl;simp only[go_sem,ya,BU,aA,H2];generalize qQ:D P L (.loop _ NH) _=qq;obtain⟨ex,s,rfl,tm,c,bo,y,rfl,rfl,t0,t1,t5,t6,t11,t12,ly,gy,hc,lD,aR⟩:=bg qQ (az1 (P:=P) (L:=L) h.qC h.jg h.BZ hw Ah hl.lv hl.gv hq (x:=x) (pre:=pre) (post:=post) (qs:=qs) n) ⟨0,0,0,x,by
  rw[Ax (by simp only[go_sem,ya,yA,pX,rh,pR,pO,Cq,vv]) (by simp only[go_sem,ya,yb,yA,fX hw.pu])]
  simp only[go_sem,ya]<;>rfl,by lia,hl.lx,hl.gx,eO,by lia,by simp[bv]⟩
 have gyn:=jr eO gy n;have ey:=C4 (l:=pre++y++post) (o:=pre.length+n) (by rw[zF];lia)
 rw[Gq (by lia)] at ey;obtain⟨d,hd⟩:∃d,d=y.getD n 0:=⟨_,rfl⟩;rw[<-hd] at gyn ey;have f3:=Zw (P:=P) (f:=D P L) h.BZ gyn hc lD;have nO:=Ys gyn hc lD;obtain⟨z,hz⟩:∃t,t=(d+2^64*2-c-bo)%2^64:=⟨_,rfl⟩;obtain⟨b',dd⟩:∃t,t=(if c+bo<=d then 0 else 1):=⟨_,rfl⟩;have qK:b'<=1:=by rw[dd];split<;>lia
 have K7:z<2^64:=by rw[hz];exact xV _ eO
 rw[<-hz,<-dd] at f3 nO;have aV:=so (b:=2^64) (l:=y) (i:=n) (x:=z) (by lia);rw[<-hd] at aV;have aK:=fun (hp:Hp) (ct:Nat)=>nN (hp:=hp) (ct:=ct) (id:=0) (v:=z) (ex:=ycO) (l:=pre++y++post) (o:=pre.length+n) (by rw[zF];lia)
 have sG:=SG (pre:=pre) (x:=y) (post:=post) (i:=n) z (by lia);have H4:lo (2^64) (y.set n z):=pV gy K7;have FG:(y.set n z).length=n+1:=by simp[ly]
 have hY:=qd H4;rw[FG] at hY;have aEa:bv (2^64) (y.set n z)+q*bv (2^64) vs=bv (2^64) x+(2^64)^(n+1)*b':=by
  have e2:=congrArg (fun t=>(2^64)^n*t) nO;rw[BY,xD];simp only[xO] at e2 aR;generalize (2^64)^n*(2^64*b')=p1 at*
  generalize (2^64)^n*z=p2 at*
  generalize (2^64)^n*d=p3 at*
  generalize (2^64)^n*c=p4 at*
  generalize (2^64)^n*bo=p5 at*
  lia
 have⟨s0,s1⟩:=step_end hV aEa gM Bc hY (by lia) qK;simp only[go_sem,ya,yb,yA,yf,Ax,pX,rh,pR,pO,Cq,vv,fX hw.pu,t0,t1,t5,t6,t11,t12,b9 0 pre.length (show n<n+1 by lia),ey,f3,aK,sG];by_cases pG:b'=0
 .have ⟨e1,e2⟩:=s0 pG;simp only[go_sem,ya,show (b':Int)=0 by lia];exact⟨_,y.set n z,rfl,by rw[<-e1];simp only[go_sem],FG,H4,e2⟩
 .have ⟨e1,e2⟩:=s1 (by lia);simp only[go_sem,ya,show ¬(b':Int)=0 by lia];generalize Hw:D P L (.loop _ NI) _=qq2;obtain⟨ex,s,rfl,A1,c2,y2,rfl,rfl,t0,t5,t6,t17,ly2,Wy,Cg,aCe⟩:=bg Hw (az2 (P:=P) (L:=L) h.jg hw Ah hl.lv hl.gv (y0:=y.set n z) (pre:=pre) (post:=post) (qs:=qs) (q:=q) n) ⟨0,0,y.set n z,by
   rw[Ax (by simp only[go_sem,ya,yA,pX,rh,pR,pO,Cq,vv]) (by simp only[go_sem,ya,yb,yA,fX hw.pu])]
   simp only[go_sem,ya]<;>rfl,by lia,FG,H4,by lia,by simp[bv]⟩
  have aEb:=jr eO Wy n;have ey2:=C4 (l:=pre++y2++post) (o:=pre.length+n) (by rw[zF];lia)
  rw[Gq (by lia)] at ey2;obtain⟨d2,fw⟩:∃d,d=y2.getD n 0:=⟨_,rfl⟩;rw[<-fw] at aEb ey2;have f4:=EK d2 c2;have TJ:=so (b:=2^64) (l:=y2) (i:=n) (x:=(d2+c2)%2^64) (by lia);rw[<-fw] at TJ;have jG:=RC ((2^64)^n) (2^64) (d2+c2);have aEc:(d2+c2)%2^64<2^64:=xV _ eO;have hc3:(d2+c2)/2^64<=1:=by lia
  generalize (d2+c2)%2^64=z2 at*
  generalize (d2+c2)/2^64=c3 at*
  have U7:=fun (hp:Hp) (ct:Nat)=>nN (hp:=hp) (ct:=ct) (id:=0) (v:=z2) (ex:=ycO) (l:=pre++y2++post) (o:=pre.length+n) (by rw[zF];lia)
  have TK:=SG (pre:=pre) (x:=y2) (post:=post) (i:=n) z2 (by lia);have Wz:lo (2^64) (y2.set n z2):=pV Wy aEc;have Qi:(y2.set n z2).length=n+1:=by simp[ly2]
  have hY3:=qd Wz;rw[Qi] at hY3;have DL:0<q:=by rw[e1];exact Nat.succ_pos _
  have hq3:bv (2^64) x/bv (2^64) vs=q-1:=by rw[e1,uR]
  have f5:binOp .sub (uc q) (.int .u64 1)=Ix (uc (q-1)):=Hv (b:=1) (by lia) (by lia);simp only[go_sem,ya,yb,yA,yf,Ax,pX,rh,pR,pO,vv,t0,t5,t6,t17,b9 0 pre.length (show n<n+1 by lia),ey2,f4,U7,TK,f5];refine⟨_,y2.set n z2,rfl,by rw[hq3];simp only[go_sem],Qi,Wz,?_⟩;have e3:bv (2^64) (y2.set n z2)+(2^64)^(n+1)*c3=(2^64)^(n+1)+bv (2^64) x%bv (2^64) vs:=by
   rw[<-e2,<-aCe,BY];rw[xO] at jG;omega
  rcases (show c3=0\/c3=1 by lia) with rfl | rfl
  .omega
  .lia
def aEd(h:Wd P L){w:AV}{x qs:List Nat}(hw:bL w vs){n v1 v2:Nat}(hl:jA x vs n v1 v2 u0 u1 u2):
  ∃x',kN P L (D P L) (H2 qs (pre++x++post)) 2 169 [.av 0 pre.length (n+1),w]=Ix (uc (bv (2^64) x/bv (2^64) vs),H2 qs (pre++x'++post),2)/\x'.length=n+1/\lo (2^64) x'/\bv (2^64) x'=bv (2^64) x%bv (2^64) vs:=by
 have eH:=hl.n2;have Ah:=hl.nb;have Cq:below 2 w:=At hw.pu;have Al:(n:Int)-1=((n-1:Nat):Int):=by lia
 have fT:=hw.aT (i:=n-1) (by have:=hl.lv;lia)
 rw[hl.fS] at fT;have FH:=C4 (l:=pre++x++post) (o:=pre.length+n) (by rw[zF];have:=hl.lx;lia)
 rw[Gq (by have:=hl.lx;lia),hl.h0] at FH
 have FI:=C4 (l:=pre++x++post) (o:=pre.length+(n-1)) (by rw[zF];have:=hl.lx;lia)
 rw[Gq (by have:=hl.lx;lia),hl.h1] at FI
 have Kk:=hl.Qe;have U8:=hl.Qf;have sH:=hl.top;have lf:∃tm x',D P L BU.body ⟨fY 0 [.av 0 pre.length (n+1),w],H2 qs (pre++x++post),2,2⟩=Ix (.ret,⟨tm,H2 qs (pre++x'++post),2,2⟩)/\ab tm 4=uc (bv (2^64) x/bv (2^64) vs)/\x'.length=n+1/\lo (2^64) x'/\bv (2^64) x'=bv (2^64) x%bv (2^64) vs:=by
  have behind:∀(mi:Env) (q:Nat),ab mi 0=.av 0 pre.length (n+1)->ab mi 1=w->ab mi 5=aa n->ab mi 6=uc q->q<2^64->bv (2^64) x/bv (2^64) vs<=q->q<=bv (2^64) x/bv (2^64) vs+1->
    ∃tm x',ju P L (ju P L (og 0 (Ix (Ex.exit 0,⟨mi,H2 qs (pre++x++post),2,2⟩))) (.kp [0,1,5,6])) (aA (aA (aA (aA (aA (aA BU.body))))))=Ix (.ret,⟨tm,H2 qs (pre++x'++post),2,2⟩)/\ab tm 4=uc (bv (2^64) x/bv (2^64) vs)/\x'.length=n+1/\lo (2^64) x'/\bv (2^64) x'=bv (2^64) x%bv (2^64) vs:=by
   intro mi q t0 t1 t5 t6 g1 g2 g3;have hk:cT mi [0,1,5,6]=[(0,.av 0 pre.length (n+1)),(1,w),(5,aa n),(6,uc q)]:=by simp only[go_sem,t0,t1,t5,t6]
   rw[aiv,il,al4,Ax (by rw[hk];simp only[go_sem,yA,pX,rh,pR,pO,Cq,vv]) (by rw[hk];simp only[go_sem,yb,yA,fX hw.pu]),il,hk];exact az3 h hw hl g1 g2 g3
  by_cases hc:u0<v1
  .have f1:=amf h.amk h.Pd (P:=P) (L:=L) hc U8 Kk;have gV:=wF (u0*2^64+u1) v1;have AQ:=xV (u0*2^64+u1) hl.pos;have sX:(u0*2^64+u1)/v1<2^64:=by
    refine (wE hl.pos).2 ?_
    have:=yR (2^64) (show u0+1<=v1 from hc)
    rw[xY (2^64) v1]
    lia
   have Ta:=hl.first;rw[xY] at gV;generalize (u0*2^64+u1)/v1=q0 at*
   generalize (u0*2^64+u1)%v1=r0 at*
   simp only[go_sem,ya,yf,BU,H2,hw.len,hl.lv,Al,wrapN (n:=n-1) (by lia),fT,b9 0 pre.length (show n<n+1 by lia),b9 0 pre.length (show n-1<n+1 by lia),FH,FI,show ¬(v1:Int)<=(u0:Int) by lia,f1];generalize qQ:D P L (.loop _ CT) _=qq;obtain⟨ex,s,rfl,mi,q,rfl,rfl,t0,t1,t5,t6,g1,g2,g3⟩:=bg qQ (ajD (P:=P) (L:=L) h.qC h.jg hw hl (pre:=pre) (post:=post) (qs:=qs) q0) ⟨q0,r0,by
    rw[Ax (by simp only[go_sem,ya,yA,pX,rh,pR,pO,Cq,vv]) (by simp only[go_sem,ya,yb,yA,fX hw.pu])];rw[y8 (show r0<2^64 by lia),wZ (show r0<2^64 by lia)]
    simp only[go_sem,ya]<;>rfl,gV,by lia,sX,Ta,rfl⟩
   exact behind mi q t0 t1 t5 t6 g1 g2 g3
  .have A6:u0=v1:=by lia
   have f1:=GS (P:=P) (f:=D P L) h.jg U8 Kk (c:=0) (by lia);rw[xg,show (uc 0)=AV.int .u64 0 from rfl] at f1;have U9:=hl.digit
   simp only[go_sem,ya,yf,BU,H2,hw.len,hl.lv,Al,wrapN (n:=n-1) (by lia),fT,b9 0 pre.length (show n<n+1 by lia),b9 0 pre.length (show n-1<n+1 by lia),FH,FI,show (v1:Int)<=(u0:Int) by lia,f1];generalize qQ:D P L (.loop _ CT) _=qq;obtain⟨ex,s,rfl,mi,q,rfl,rfl,t0,t1,t5,t6,g1,g2,g3⟩:=bg qQ (ajD (P:=P) (L:=L) h.qC h.jg hw hl (pre:=pre) (post:=post) (qs:=qs) 18446744073709551615) ⟨18446744073709551615,u1+v1,by
    rw[Ax (by simp only[go_sem,ya,yA,pX,rh,pR,pO,Cq,vv]) (by simp only[go_sem,ya,yb,yA,fX hw.pu])]
    simp only[go_sem,ya]<;>rfl,by rw[A6];lia,by lia,by decide,by lia,rfl⟩
   exact behind mi q t0 t1 t5 t6 g1 g2 g3
 have⟨tm,x',g1,g2,g3,g4,g5⟩:=lf;refine⟨x',?_,g3,g4,g5⟩;exact aiF h.aD7 g1 (.inr rfl) (by show kJ _ [RV.t 4]=_;rw[aa7,aac,g2])
def WN(v:AV)(m:Nat):Prop:=∃l,bL v l/\lo (2^64) l/\jm l/\bv (2^64) l=m
def auO(i:Nat)(q:List Nat)(x:Nat):(ye (i+1) 0++q).set i x=ye i 0++x::q:=by
 rw[List.replicate_succ',xu]
 simp_all
def SH{b:Nat}{l:List Nat}{i:Nat}(h:i<l.length):bv b (l.drop i)=l.getD i 0+b*bv b (l.drop (i+1)):=by
 rw[yP h,gd h];rfl
def Zy{w:AV}{x y:List Nat}(hv:bL v x)(hw:bL w y)(hp:Hp):result hp (.ax [v,w])=Ix (.ax [v,w]):=by
 rcases hv with ⟨rfl,_⟩ | ⟨e,rfl⟩<;>rcases hw with ⟨rfl,_⟩ | ⟨e',rfl⟩<;>rfl
def axf{id n l h:Nat}{pu:Bool}{cs:List AV}{x y:X}(hg:au hp id=Ix (.cells ycO pu ex 1 cs))(hx:cS tm 0 (Ix x)=Ix l)(hy:cS tm n (Ix y)=Ix h)(h1:l<h)(h2:h<=n):
  gI hp (.sl 1) (.av id 0 n) tm (Ix x) (Ix y)=Ix (.av id l (h-l)):=by
 simp only[gI,hg,hx,hy,yC (uh h1),yC h2,vd,xt,yN,jL (Nat.ne_of_lt h1),xI,y5,yd,yf]
def ahl{id n h:Nat}{pu:Bool}{cs:List AV}{y:X}(hg:au hp id=Ix (.cells ycO pu ex 1 cs))(hy:cS tm n (Ix y)=Ix h)(h1:0<h)(h2:h<=n):
  gI hp (.sl 1) (.av id 0 n) tm Iy (Ix y)=Ix (.av id 0 h):=by
 have hx:cS tm 0 Iy=Ix 0:=rfl;simp only[gI,hg,hx,hy,yC (uO h),yC h2,vd,xt,yN,jL (show (0:Nat)≠h by lia),xI,y5,yaM,xg,ycs]
def ak8(P:aJ)(L:Lib)(f:cG)(hp:Hp)(ct n:Nat)(xs:List AV):fP P L f hp ct .heap (.fn (.f n) [] []) xs=kN P L f hp ct n xs:=by
 simp only[fP,xy,wh]
def az4(h:Wd P L){w:AV}{x:List Nat}(hv:bL v x)(hx:lo (2^64) x)(lx:x.length<=99999999999)(hw:bL w [d])(iM:0<d)(hdW:d<2^64){n:Nat}(hn:n=x.length):
  cL P L [0,1,6,7,8] ND (fun k s=>∃(i r:Nat) (q:List Nat),s=⟨[(0,v),(1,w),(6,.av 0 0 n),(7,uc r),(8,aa ((i:Int)-1))],[(0,.cells ycO ycO ycO 1 ((ye i 0++q).map uc))],1,0⟩/\i=k/\i+q.length=n/\lo (2^64) q/\r<d/\bv (2^64) (x.drop i)=bv (2^64) q*d+r) (fun ex s'=>∃tm r q,s'=⟨tm,[(0,.cells ycO ycO ycO 1 (q.map uc))],1,0⟩/\ex=.exit 0/\ab tm 6=.av 0 0 n/\ab tm 7=uc r/\q.length=n/\lo (2^64) q/\r<d/\bv (2^64) x=bv (2^64) q*d+r):=by
 apply cP;rintro k s ⟨i,r,q,rfl,rfl,hlen,bj,hr,aR⟩
 cases i with
 | zero=>
  right
  simp only[go_sem,ya,ND,show ¬(0:Int)<=((0:Nat):Int)-1 by lia];exact⟨_,_,rfl,by simp,_,r,q,rfl,rfl,rfl,rfl,by lia,bj,hr,by simpa using aR⟩
 | succ i=>
  left
  have gx:=jr (show 0<2^64 by decide) hx i;have e1:=hv.aT (i:=i) (by lia);have e2:=hw.aT (i:=0) (by simp);have ik:=SH (b:=2^64) (l:=x) (i:=i) (by lia);rw[show ([d]:List Nat).getD 0 0=d from rfl] at e2;generalize x.getD i 0=a at*
  have e3:=amf (P:=P) (L:=L) h.amk h.Pd hr gx hdW;have gV:=wF (r*2^64+a) d;have AQ:=xV (r*2^64+a) iM;have sX:(r*2^64+a)/d<2^64:=by
   refine (wE iM).2 ?_
   lia
  generalize (r*2^64+a)/d=q1 at*
  generalize (r*2^64+a)%d=r1 at*
  have aK:=fun (hp:Hp) (ct:Nat)=>nN (hp:=hp) (ct:=ct) (id:=0) (v:=q1) (ex:=ycO) (l:=ye (i+1) 0++q) (o:=i) (by simp;lia)
  simp only[go_sem,ya,yf,ND,show ((i+1:Nat):Int)-1=(i:Int) by lia,show (0:Int)<=(i:Int) by lia,e1,e2,e3,b9 0 0 (show i<n by lia),yd,aK,auO];refine⟨_,i,rfl,by lia,i,r1,q1::q,?_,rfl,by simp;lia,RL.2 ⟨Jq.2 sX,bj⟩,AQ,?_⟩
  .rw [wrap64 (by lia) (by lia)];simp only[go_sem,ya,yb,ao,aj hv.pu,aj hw.pu]<;>rfl
  .rw [ik,aR];simp only[bv];rw[xU,xO,<-xD (2^64)];rw[xY d q1] at gV
   lia
def asE{s u:Nat}(hs:s<64)(hu:u<2^64):u/2^s<2^64/\(0<s->u/2^s|||(u1*2^(64-s)%2^64)<2^64)/\
  (if 0<s then (u/2^s|||(u1*2^(64-s)%2^64)) else u/2^s)*2^s+u%2^s=u+2^64*(u1%2^s):=by
 have e:2^64=2^s*2^(64-s):=by rw[<-wP,show s+(64-s)=64 by lia]
 have h1:u1*2^(64-s)%2^64=(u1%2^s)*2^(64-s):=by rw[e,uD]
 have hp:=vm s;have h2:u/2^s<2^(64-s):=by
  refine (wE hp).2 ?_
  grind
 have h3:u/2^s|||(u1*2^(64-s)%2^64)=(u1%2^s)*2^(64-s)+u/2^s:=by rw[h1,ycD,Zx h2]
 have h4:(u1%2^s)*2^(64-s)+u/2^s<2^64:=by
  have:=yR (2^(64-s)) (show u1%2^s+1<=2^s from xV _ hp)
  grind
 have h5:=uy u (2^s)
 grind
def az5{us qs:List Nat}{n m s:Nat}(hs:s<64)(lu:us.length=la)(gu:lo (2^64) us)(hn:n<la)(Qj:la<=100000000000):
  cL P L [9,11,12,13,96,97] Jb (fun k st=>∃(i:Nat) (rs:List Nat),st=⟨[(9,aa s),(11,.av 0 0 la),(12,aa n),(13,.av 1 0 m),(96,aa n),(97,aa i)],H2 qs (rs++us.drop i),2,0⟩/\i+k=n/\rs.length=i/\lo (2^64) rs/\bv (2^64) rs*2^s+us.getD 0 0%2^s=bv (2^64) (us.take i)+(2^64)^i*(us.getD i 0%2^s)) (fun ex st'=>∃tm rs,st'=⟨tm,H2 qs (rs++us.drop n),2,0⟩/\ex=.exit 4/\ab tm 11=.av 0 0 la/\ab tm 12=aa n/\ab tm 13=.av 1 0 m/\rs.length=n/\lo (2^64) rs/\bv (2^64) rs*2^s+us.getD 0 0%2^s=bv (2^64) (us.take n)+(2^64)^n*(us.getD n 0%2^s)):=by
 apply cP;rintro k st ⟨i,rs,rfl,hk,lr,gr,aR⟩;by_cases hi:i<n
 .left
  have eO:(0:Nat)<2^64:=by decide
  have g0:=jr eO gu i;have g1:=jr eO gu (i+1);have d0:us.drop i=us.getD i 0::us.getD (i+1) 0::us.drop (i+2):=by
   rw[yP (show i<us.length by lia),yP (show i+1<us.length by lia),gd,gd]
  have dW:=lP (b:=2^64) (l:=us) i;have oZ:∀r,r<2^64->r*2^s+us.getD i 0%2^s=us.getD i 0+2^64*(us.getD (i+1) 0%2^s)->lo (2^64) (rs++[r])/\bv (2^64) (rs++[r])*2^s+us.getD 0 0%2^s=bv (2^64) (us.take (i+1))+(2^64)^(i+1)*(us.getD (i+1) 0%2^s):=fun r h1 h2=>by
   refine⟨RL.2 ⟨gr,Jq.2 h1⟩,?_⟩;rw[Br,Es,lr,dW,xU,BY,xD,xD];have e2:=congrArg (fun t=>(2^64)^i*t) h2;simp only[xO] at e2;generalize (2^64)^i*(r*2^s)=p1 at*
   generalize (2^64)^i*(us.getD i 0%2^s)=p2 at*
   generalize (2^64)^i*us.getD i 0=p3 at*
   generalize (2^64)^i*(2^64*(us.getD (i+1) 0%2^s))=p4 at*
   lia
  have abi:us.drop (i+1)=us.getD (i+1) 0::us.drop (i+2):=by
   rw[yP (show i+1<us.length by lia),gd]
  generalize us.getD i 0=a at*
  obtain⟨c,hc⟩:∃c,c=us.getD (i+1) 0:=⟨_,rfl⟩;rw[<-hc] at g1 d0 abi oZ;generalize us.drop (i+2)=dr at*
  rw[d0];have⟨n1,n2,n3⟩:=asE (u1:=c) hs g0;have o1:=Pc .i64 a (s:=s) (by lia);have o2:=Pb .i64 c (s:=64-s) (by lia);have o3:binOp .sub (.int .i64 64) (aa s)=Ix (aa (64-s:Nat)):=by
   rw[SC,wrap64 (by lia) (by lia)];congr 2;lia
  have o4:=orU n1 (xV (c*2^(64-s)) eO);have sa:∀z y,(rs++z::y).set i a=rs++a::y:=fun z y=>by rw[yaN _ _ (by lia),lr];simp
  have e0:∀z y,xK i ((rs++z::y).map uc)=uc z::y.map uc:=fun z y=>by
   rw[yX,tp (by simp[lr])];rfl
  have e1:∀z y u,xK (i+1) ((rs++z::y::u).map uc)=uc y::u.map uc:=fun z y u=>by
   rw[show rs++z::y::u=(rs++[z])++y::u by simp,yX,tp (by simp[lr])];rfl
  have iV:∀(hp:Hp) (ct x z:Nat) (y:List Nat),fN hp ct 0 i 1 [.int .u64 (x:Int)] (Ix (.cells ycO ycO ycO 1 ((rs++z::y).map uc)))=Ix (.ax [],aV hp 0 (.cells ycO ycO ycO 1 ((rs++x::y).map uc)),ct):=fun hp ct x z y=>by
   rw[nN (by simp;lia),yaN _ _ (by lia),lr];simp
  by_cases h0:0<s
  .rw [yK h0] at n3;have⟨f1,f2⟩:=oZ _ (n2 h0) n3;generalize a/2^s=a1 at*
   generalize a1|||(c*2^(64-s)%2^64)=r at*
   simp only[go_sem,ya,yf,Jb,H2,show (i:Int)<(n:Int) by lia,b9 0 0 (show i<la by lia),yd,e0,o1,iV,show (0:Int)<(s:Int) by lia,show (i:Int)+1=((i+1:Nat):Int) from rfl,wrapN (n:=i+1) (by lia),show ((i+1:Nat):Int)<(la:Int) by lia,b9 0 0 (show i+1<la by lia),e1,o3,o2,o4];refine⟨_,k-1,rfl,by lia,i+1,rs++[r],by simp only[go_sem,ya,yb,ao];rw[abi];simp,by lia,by simp[lr],f1,by rw[<-hc];exact f2⟩
  .rw [yx h0] at n3;have⟨f1,f2⟩:=oZ _ n1 n3;generalize a/2^s=a1 at*
   simp only[go_sem,ya,yf,Jb,H2,show (i:Int)<(n:Int) by lia,b9 0 0 (show i<la by lia),yd,e0,o1,iV,show ¬(0:Int)<(s:Int) by lia,show (i:Int)+1=((i+1:Nat):Int) from rfl,wrapN (n:=i+1) (by lia)];refine⟨_,k-1,rfl,by lia,i+1,rs++[a1],by simp only[go_sem,ya,yb,ao];rw[abi];simp,by lia,by simp[lr],f1,by rw[<-hc];exact f2⟩
 .right
  have:i=n:=by lia
  subst this;simp only[go_sem,ya,Jb,H2,show ¬(i:Int)<(i:Int) by lia];exact⟨_,_,rfl,by simp,_,rs,rfl,rfl,rfl,rfl,rfl,lr,gr,aR⟩
section
variable {v w:AV}{l x:List Nat}
def ago{b bu bq0 pre:Nat}(h1:bu=pre+p*A)(h2:bu+bq0*V=U0):(pre+p*(A%V))+(bq0+p*(A/V))*V=U0:=by
 have gV:=wF A V
 grind
def aCf(hp:Hp)(ct:Nat)(ex:Bool)(sz n:Nat)(cs:List AV):own hp ct (.bR ex sz n cs)=(.av ct 0 n,(ct,.cells ycO ycO ex sz cs)::hp,ct+1):=rfl
def az6(h:Wd P L)(hw:bL w vs)(gv:lo (2^64) vs){n m:Nat}(lv:vs.length=n)(eH:2<=n)(VM:n<=la)(Qj:la<=99999999999)(hm:m=la-n+1)(fS:0<vs.getD (n-1) 0){s:Nat}:
  cL P L [9,10,11,12,13,14] NE (fun k st=>∃(j:Nat) (us qs:List Nat),st=⟨[(9,aa s),(10,w),(11,.av 0 0 (la+1)),(12,aa n),(13,.av 1 0 m),(14,aa ((j:Int)-1))],H2 qs us,2,0⟩/\j=k/\j<=m/\us.length=la+1/\qs.length=m/\lo (2^64) us/\lo (2^64) qs/\(∀i,i<j->qs.getD i 0=0)/\
    bv (2^64) us+bv (2^64) qs*bv (2^64) vs=U0/\bv (2^64) (us.drop j)<bv (2^64) vs) (fun ex st'=>∃tm us qs,st'=⟨tm,H2 qs us,2,0⟩/\ex=.exit 2/\ab tm 9=aa s/\ab tm 11=.av 0 0 (la+1)/\ab tm 12=aa n/\ab tm 13=.av 1 0 m/\us.length=la+1/\qs.length=m/\lo (2^64) us/\lo (2^64) qs/\
    bv (2^64) us+bv (2^64) qs*bv (2^64) vs=U0/\bv (2^64) us<bv (2^64) vs):=by
 apply cP;rintro k st ⟨j,us,qs,rfl,rfl,hj,lu,lq,gu,gq,hz,aR,sH⟩
 cases j with
 | zero=>
  right
  simp only[go_sem,ya,NE,H2,show ¬(0:Int)<=((0:Nat):Int)-1 by lia];exact⟨_,_,rfl,by simp,_,us,qs,rfl,rfl,rfl,rfl,rfl,rfl,lu,lq,gu,gq,aR,by simpa using sH⟩
 | succ j=>
  left
  have eO:(0:Nat)<2^64:=by decide
  obtain⟨pre,gm⟩:∃p,p=us.take j:=⟨_,rfl⟩;obtain⟨x,hx⟩:∃p,p=(us.drop j).take (n+1):=⟨_,rfl⟩;obtain⟨post,ja⟩:∃p,p=us.drop (j+(n+1)):=⟨_,rfl⟩;have lp:pre.length=j:=by rw[gm,yJ];lia
  have lx:x.length=n+1:=by rw[hx,yJ,xZ];lia
  have nk:us=pre++x++post:=by
   rw[gm,hx,ja,<-vP,xu,xX,xX]
  have gx:lo (2^64) x:=by rw[hx];exact Eh (ais gu _) _
  have abj:lo (2^64) pre:=by rw[gm];exact Eh gu _
  have aCg:lo (2^64) post:=by rw[ja];exact ais gu _
  have hA:bv (2^64) (us.drop j)=us.getD j 0+2^64*bv (2^64) (us.drop (j+1)):=SH (by lia);have Qk:=jr eO gu j;have K9:us.drop j=x++post:=by rw[ja,hx,<-vP,xX]
  have DQ:bv (2^64) (us.drop j)=bv (2^64) x+(2^64)^(n+1)*bv (2^64) post:=by rw[K9,Br,lx]
  have Qh:=qd gv;rw[lv] at Qh;have aY:bv (2^64) (us.drop j)<2^64*bv (2^64) vs:=by lia
  have hp0:bv (2^64) post=0:=by
   rcases xE (bv (2^64) post) with e | e
   .exact e
   .have h1:=yZ ((2^64)^(n+1)) e;rw[yf,BY] at h1;rw[BY] at DQ
    lia
  rw[hp0,xP,xg] at DQ;have hl:jA x vs n (vs.getD (n-1) 0) (vs.getD (n-2) 0) (x.getD n 0) (x.getD (n-1) 0) (x.getD (n-2) 0):=
   ⟨eH,by lia,lx,lv,gx,gv,rfl,rfl,rfl,rfl,rfl,fS,by rw[<-DQ];exact aY⟩
  have U9:=hl.digit;have⟨x',e1,lx',WA,Ql⟩:=aEd h hw hl (pre:=pre) (post:=post) (qs:=qs);rw[lp,<-nk] at e1;have hbu:bv (2^64) us=bv (2^64) pre+(2^64)^j*bv (2^64) x:=by
   have:=MY (b:=2^64) us j (by lia)
   rw[DQ,<-gm] at this;exact this
  have abk:bv (2^64) (pre++x'++post)=bv (2^64) pre+(2^64)^j*bv (2^64) x':=by
   rw[xu,Br,Br,hp0,xP,xg,lp]
  have aV:=so (b:=2^64) (l:=qs) (i:=j) (x:=bv (2^64) x/bv (2^64) vs) (by lia);rw[hz j (by lia),xP,xg] at aV;have oZ:=ago (b:=0) hbu aR;have aK:=fun (hp:Hp) (ct:Nat)=>nN (hp:=hp) (ct:=ct) (id:=1) (v:=bv (2^64) x/bv (2^64) vs) (ex:=ycO) (l:=qs) (o:=j) (by lia)
  have Ba:0<bv (2^64) vs:=by lia
  have AQ:=xV (bv (2^64) x) Ba;have ki:∀tm (x y:X),cS tm 0 (Ix x)=Ix j->cS tm (la+1) (Ix y)=Ix (j+n+1)->gI (H2 qs us) (.sl 1) (.av 0 0 (la+1)) tm (Ix x) (Ix y)=Ix (.av 0 j (n+1)):=fun tm x y h1 h2=>by
   rw[axf (cs:=us.map uc) (pu:=ycO) (ex:=ycO) rfl h1 h2 (by lia) (by lia),show j+n+1-j=n+1 by lia]
  simp only[go_sem,ya,yf,NE,H2,show ((j+1:Nat):Int)-1=(j:Int) by lia,show (0:Int)<=(j:Int) by lia,show (j:Int)+(n:Int)=((j+n:Nat):Int) from rfl,wrapN (n:=j+n) (by lia),show ((j+n:Nat):Int)+1=((j+n+1:Nat):Int) from rfl,wrapN (n:=j+n+1) (by lia),ki,ez,ak8,e1,b9 1 0 (show j<m by lia),yd,aK];refine⟨_,j,rfl,by lia,j,pre++x'++post,qs.set j (bv (2^64) x/bv (2^64) vs),?_,rfl,by lia,by rw[zF,lp,lx',ja,xZ];lia,by simp[lq],RL.2 ⟨RL.2 ⟨abj,WA⟩,aCg⟩,pV gq U9,fun i hi=>by rw[zE (by lia)];exact hz i (by lia),?_,?_⟩
  .rw [wrap64 (by lia) (by lia)];simp only[go_sem,ya,yb,ao,aj hw.pu]<;>rfl
  .rw [abk,Ql,aV];exact oZ
  .rw [xu,tp lp,Br,hp0,xP,xg,Ql];exact AQ
def aCh{n:Nat}(h:l.length=n+1):(2^64)^n*l.getD n 0<=bv (2^64) l:=by
 have:=lP (b:=2^64) (l:=l) n
 grind
def sJ{m:Nat}(hn:jm l)(hv:bv (2^64) l=m)(h:m<(2^64)^K):l.length<=K:=arY (b:=2^64) (by decide) hn (by rw[hv];exact h)
def az7(h:Wd P L)(hv:bL v x)(hw:bL w [d])(gx:lo (2^64) x)(lx:x.length<=90000000000)(iM:0<d)(hdW:d<2^64)(ec:ah P L 158 [v,w] (aa (eL (bv (2^64) x) d)))(hc:d<=bv (2^64) x):
  ∃q r,ah P L 137 [v,w] (.ax [q,r])/\WN q (bv (2^64) x/d)/\WN r (bv (2^64) x%d):=by
 have fh:¬eL (bv (2^64) x) d<0:=by unfold eL;rw[yx (by lia)];split<;>decide
 obtain⟨n,hn⟩:∃n,n=x.length:=⟨_,rfl⟩;have main:∃r l,(∀c:Nat->AV->AV->Option AV,True)/\r<d/\l.length=n/\lo (2^64) l/\bv (2^64) x=bv (2^64) l*d+r/\
   ∃q1 r1,bL q1 (fa l)/\bL r1 (fa [r])/\ah P L 137 [v,w] (.ax [q1,r1]):=by
  unfold ah;rw[aB h.abh]
  simp only[go_sem,ya,OK,hv.len,hv.af,hw.len,hw.af,ec,fh,yB,yI,yd,show ((1:Nat):Int)=(1:Int) from rfl,<-hn,Hu (n:=n) _ (by lia)];generalize hq:D P L (.loop _ ND) _=q;obtain⟨ex,s,rfl,tm,r,l,rfl,rfl,t6,t7,A5,bj,hr,aR⟩:=bg hq (az4 (P:=P) (L:=L) h hv gx (by lia) hw iM hdW hn n) ⟨n,0,[],by
   rw[wrap64 (by lia) (by lia),wh]
   simp only[go_sem,ya,yb,ao,aj hv.pu,aj hw.pu]<;>rfl,rfl,rfl,S6,iM,by rw[yY (by lia)];simp[bv]⟩
  have hf:=qZ ycO l;rw[A5] at hf;have⟨q1,e1,gM⟩:=Fb h.qB hf (by lia);have⟨r1,e2,bQ⟩:=Fb h.qB (qZ ycO [r]) (by simp);simp only[yB,yI,yd,yS,List.map_nil] at e2;refine⟨r,l,fun _=>trivial,hr,A5,bj,aR,q1,r1,gM,bQ,?_⟩
  simp only[go_sem,ya,yb,yA,yi,yf,ao,t6,t7,Fa _ (n:=n) (l:=l) A5 ycO,e1,gM.shut,e2,bQ.shut];exact Zy gM bQ _
 have⟨r,l,_,hr,A5,bj,aR,q1,r1,gM,bQ,e⟩:=main;have hq:bv (2^64) l=bv (2^64) x/d:=by
  rw[aR,xY,yam iM,wZ hr,xg]
 have hm:r=bv (2^64) x%d:=by
  rw[aR,xY,yan,y8 hr]
 exact⟨q1,r1,e,⟨_,gM,Ec bj,Eb _,by rw[Ea,hq]⟩,⟨_,bQ,Ec (Jq.2 (by lia)),Eb _,by rw[Ea,Es,hm]⟩⟩
def az8(h:Wd P L){y:List Nat}(hv:bL v x)(hw:bL w y)(gx:lo (2^64) x)(gy:lo (2^64) y)(nx:jm x)(ny:jm y)(lx:x.length<=90000000000)(ly:2<=y.length)(ec:ah P L 158 [v,w] (aa (eL (bv (2^64) x) (bv (2^64) y))))(hc:bv (2^64) y<=bv (2^64) x):
  ∃q r,ah P L 137 [v,w] (.ax [q,r])/\WN q (bv (2^64) x/bv (2^64) y)/\WN r (bv (2^64) x%bv (2^64) y):=by
 have eO:(0:Nat)<2^64:=by decide
 have fh:¬eL (bv (2^64) x) (bv (2^64) y)<0:=by unfold eL;rw[yx (by lia)];split<;>decide
 have hyx:y.length<=x.length:=by
  by_cases hh:x.length<y.length
  .have:=SB (b:=2^64) (by decide) gx ny hh;lia
  .lia
 obtain⟨n,hn⟩:∃n,n=y.length:=⟨_,rfl⟩;obtain⟨la,Qj⟩:∃la,la=x.length:=⟨_,rfl⟩;have EL:=R3 ny (fun e=>by subst e;simp at ly);have H5:=jr eO gy (y.length-1);have eyl:=hw.aT (i:=y.length-1) (by lia);have pC:=aCh (l:=y) (n:=n-1) (by lia);rw[<-hn] at EL H5 eyl;obtain⟨top,sH⟩:∃top,y.getD (n-1) 0=top:=⟨_,rfl⟩;rw[sH] at EL H5 eyl pC;have elz:=ajB (P:=P) (f:=D P L) h.Pd H5;have⟨z1,z2,z3⟩:=Yt (ybq EL) H5;generalize 64-fc 64 top=s at*
 have⟨ov,ev,lov,gov,vov⟩:=amg h.aml hw gy (by lia) z1;have⟨ou,eu,lou,gou,vou⟩:=amg h.aml hv gx (by lia) z1;have⟨v',evt,gD⟩:=Fb h.qB (qZ ycO ov) (by lia);rw[lov,<-hn] at evt;rw[<-hn] at ev;rw[<-Qj] at eu lou;have jG:=vm s;obtain⟨vs,Dx⟩:∃vs,vs=fa ov:=⟨_,rfl⟩;rw[<-Dx] at gD;have Ia:lo (2^64) vs:=by rw[Dx];exact Ec gov
 have Qm:jm vs:=by rw[Dx];exact Eb _
 have Cr:bv (2^64) vs=bv (2^64) y*2^s:=by rw[Dx,Ea,vov]
 have hyW:bv (2^64) y*2^s<(2^64)^n:=by
  have e:2^64=2^(64-s)*2^s:=by rw[<-wP,show 64-s+s=64 by lia]
  have e1:=lP (b:=2^64) (l:=y) (n-1);rw[show n-1+1=n by lia,yq (by lia),sH] at e1;have e2:=qd (Eh gy (n-1));rw[yJ,xq (by lia)] at e2;have e3:top<2^(64-s):=uS (a:=2^s) (Nat.lt_of_lt_of_eq z3 e);have e4:=yR (2^s) (show top+1<=2^(64-s) from e3);rw[<-e] at e4;have e5:bv (2^64) y<(2^64)^(n-1)*(top+1):=by rw[xO,yf];lia
  have e6:=vl e5 jG;rw[xD] at e6;have e7:=yZ ((2^64)^(n-1)) e4;rw[<-BY,show n-1+1=n by lia] at e7;exact yT e6 e7
 have aEe:(2^64)^(n-1)*2^s<=bv (2^64) vs:=by
  rw[Cr];refine yR _ (xB ?_ pC)
  have:=yZ ((2^64)^(n-1)) (show 1<=top by lia)
  lia
 have DR:vs.length=n:=by
  have h1:vs.length<=n:=by
   refine sJ Qm Cr ?_;exact hyW
  have h2:¬vs.length<n:=fun hh=>by
   have e1:=qd Ia;have e2:(2^64)^vs.length<=(2^64)^(n-1):=y9 eO (by lia);have e3:=yR (2^s) pC;rw[xD,<-Cr] at e3;have e4:=yZ ((2^64)^(n-1)) (show 1<=top*2^s by lia)
   lia
  lia
 have fS:0<vs.getD (n-1) 0:=by
  have:=R3 Qm (fun e=>by rw[e] at DR;simp at DR;lia)
  rw[DR] at this;exact ybq this
 obtain⟨m,hm⟩:∃m,m=la-n+1:=⟨_,rfl⟩;have aaf:bv (2^64) (ou.drop m)<bv (2^64) vs:=by
  have e1:=MY (b:=2^64) ou m (by lia);have e2:=qd gx;rw[<-Qj] at e2;have e3:=vl e2 jG;rw[<-vou] at e3;have e4:(2^64)^la=(2^64)^m*(2^64)^(n-1):=by rw[<-wP];congr 1;lia
  rw[e4,xD] at e3;have e5:(2^64)^m*bv (2^64) (ou.drop m)<(2^64)^m*((2^64)^(n-1)*2^s):=by lia
  exact yT (Nat.lt_of_mul_lt_mul_left e5) aEe
 have e1y:(y.length:Int)-1=((n-1:Nat):Int):=by lia
 have aEf:((la:Nat):Int)-(n:Int)=((m-1:Nat):Int):=by lia
 have lf:∃tm us qs rs,(us.length=la+1/\qs.length=m/\lo (2^64) us/\lo (2^64) qs/\bv (2^64) us+bv (2^64) qs*bv (2^64) vs=bv (2^64) x*2^s/\bv (2^64) us<bv (2^64) vs/\
   rs.length=n/\lo (2^64) rs/\bv (2^64) rs*2^s+us.getD 0 0%2^s=bv (2^64) (us.take n)+(2^64)^n*(us.getD n 0%2^s))/\ab tm 0=v/\
   ∃q1 r1,bL q1 (fa qs)/\bL r1 (fa rs)/\ah P L 137 [v,w] (.ax [q1,r1]):=by
  unfold ah at ec ev eu evt;unfold ah;rw[aB h.abh];have hfo:=Fa (n:=n+1) (l:=ov) (hp:=[]) (by lia) ycO
  simp only[go_sem,ya,yb,OK,hv.len,hv.af,hw.len,hw.af,ec,fh,show ¬(y.length:Int)=1 by lia,e1y,wrapN (n:=n-1) (by lia),eyl,elz,ev,aCf,Fa _ (n:=n+1) (l:=ov) (by lia) ycO,evt,gD.len,gD.shut,eu,DR,<-Qj,aEf,wrapN (n:=m-1) (by lia),show ((m-1:Nat):Int)+1=(m:Int) by lia,wrapN (n:=m) (by lia),Hu (n:=m) _ (by lia)];generalize qQ:D P L (.loop _ NE) _=qq;obtain⟨ex,st,rfl,tm,us,qs,rfl,rfl,t9,t11,t12,t13,WB,WC,La,gqs,aR,aY⟩:=bg qQ (az6 (P:=P) (L:=L) h gD Ia DR (by lia) (by lia) (by lia) hm fS (s:=s) (U0:=bv (2^64) x*2^s) m) ⟨m,ou,ye m 0,by
   rw[show ((m-1:Nat):Int)=(m:Int)-1 by lia]
   simp only[go_sem,ya,yb,ao,aj gD.pu]<;>rfl,rfl,ym _,lou,by simp,gou,Jr eO m,fun i _=>Gp m i,by rw[Js,yaM,xg,vou],aaf⟩
  simp only[go_sem,ya,yb,ao,t9,t11,t12,t13];generalize Hw:D P L (.loop _ Jb) _=qq2;obtain⟨ex,st,rfl,A1,rs,rfl,rfl,t11,t12,t13,lrs,grs,Va⟩:=bg Hw (az5 (P:=P) (L:=L) (qs:=qs) (m:=m) (la:=la+1) (n:=n) z1 WB La (by lia) (by lia) n) ⟨0,[],by simp only[go_sem,ya,yb,ao]<;>rfl,by lia,rfl,S6,by simp[bv]⟩
  have ki:∀(hp:Hp) tm (y:X),au hp 0=Ix (.cells ycO ycO ycO 1 ((rs++us.drop n).map uc))->cS tm (la+1) (Ix y)=Ix n->gI hp (.sl 1) (.av 0 0 (la+1)) tm Iy (Ix y)=Ix (.av 0 0 n):=fun hp tm y h1 h2=>ahl h1 h2 (by lia) (by lia)
  have Qn:=qZ ycO qs;rw[WC] at Qn;have⟨q1,f1,gM⟩:=Fb h.qB Qn (by lia);have dW:(rs++us.drop n).take n=rs:=by rw[List.take_append_of_le_length (by lia),yq (by lia)]
  have Qo:∃e,∀hp:Hp,nG 0 n (Ix (ycO,1,(rs++us.drop n).map uc,hp))=Ix (.aF e n (rs.map uc),hp):=by
   refine⟨ycO&&yU 0 1&&yG n ((rs++us.drop n).map uc).length,fun hp=>?_⟩;simp only[nG,yd,yf,slice,yh,<-yax,dW];rw[yC (by simp;lia)]
   rfl
  have⟨e,Qo⟩:=Qo;have iz:=qZ e rs;rw[lrs] at iz;have⟨r1,f2,bQ⟩:=Fb h.qB iz (by lia);unfold ah at f1 f2;refine⟨[(0,v)],us,qs,rs,⟨WB,WC,La,gqs,aR,aY,lrs,grs,Va⟩,rfl,q1,r1,gM,bQ,?_⟩
  simp only[go_sem,ya,yb,ao,t11,t12,t13,Fa _ (n:=m) (l:=qs) WC ycO,f1,gM.shut,ki,ez,Qo,f2,bQ.shut];exact Zy gM bQ _
 have⟨tm,us,qs,rs,⟨WB,WC,La,gqs,aR,aY,lrs,grs,Va⟩,_,q1,r1,gM,bQ,e⟩:=lf;have mR:0<bv (2^64) y:=by
  have:=yZ ((2^64)^(n-1)) (show 1<=top by lia)
  have:=ybL (n:=n-1) eO
  lia
 rw[Cr] at aR aY;have Pe:bv (2^64) qs=bv (2^64) x/bv (2^64) y:=by
  rw[<-tD _ _ jG,<-aR,ybJ,xY,yam (ux mR jG),wZ aY,xg]
 have WD:bv (2^64) us=(bv (2^64) x%bv (2^64) y)*2^s:=by
  rw[<-uD,<-aR,ybJ,xY (bv _ qs),yan,y8 aY]
 have nk:=MY (b:=2^64) us n (by lia);have iM:bv (2^64) (us.drop n)=0:=by
  rcases xE (bv (2^64) (us.drop n)) with h0 | h0
  .exact h0
  .have:=yZ ((2^64)^n) h0
   lia
 have hun:us.getD n 0=0:=by
  have:=SH (b:=2^64) (l:=us) (i:=n) (by lia)
  lia
 rw[iM,xP,xg] at nk;have FD:us.getD 0 0%2^s=0:=by
  have e1:=SH (b:=2^64) (l:=us) (i:=0) (by lia);rw[yh,WD] at e1;have e2:2^64=2^s*2^(64-s):=by rw[<-wP,show s+(64-s)=64 by lia]
  have e3:(us.getD 0 0+2^64*bv (2^64) (us.drop (0+1)))%2^s=us.getD 0 0%2^s:=by
   conv=>lhs;rw[e2,xD]
   exact Nat.add_mul_mod_self_left _ _ _
  rw[<-e3,<-e1,Nat.mul_mod_left]
 rw[hun,FD,Nat.zero_mod,xP,xg,xg,<-nk,WD] at Va;have ak9:bv (2^64) rs=bv (2^64) x%bv (2^64) y:=Nat.eq_of_mul_eq_mul_right jG Va;exact⟨q1,r1,e,⟨_,gM,Ec gqs,Eb _,by rw[Ea,Pe]⟩,⟨_,bQ,Ec grs,Eb _,by rw[Ea,ak9]⟩⟩
def amo(h:Wd P L){b:Nat}(hv:WN v a)(hw:WN w b)(hb:0<b)(ha:a<(2^64)^K)(hbK:b<(2^64)^K)(hK:K<=90000000000):
  ∃q r,ah P L 137 [v,w] (.ax [q,r])/\WN q (a/b)/\WN r (a%b):=by
 have⟨x,Lb,gx,nx,vx⟩:=hv;have⟨y,WE,gy,ny,vy⟩:=hw;have lx:x.length<=90000000000:=xB (sJ nx vx ha) hK;have ly:y.length<=90000000000:=xB (sJ ny vy hbK) hK;have ec:=amb h.amm Lb WE gx gy nx ny (by lia) (by lia);subst vx;subst vy;by_cases hc:bv (2^64) x<bv (2^64) y
 .have fh:eL (bv (2^64) x) (bv (2^64) y)= -1:=by unfold eL;rw[yK hc]
  rw[fh] at ec;refine⟨.ae,v,?_,⟨[],CD,S6,rfl,by rw[wZ hc];rfl⟩,⟨x,Lb,gx,nx,by rw[y8 hc]⟩⟩
  unfold ah;rw[aB h.abh];simp only[go_sem,ya,OK,Lb.af,WE.af,ec,show (-1:Int)<0 by decide];exact Zy CD Lb _
 .rcases (show y.length=0\/y.length=1\/2<=y.length by lia) with h0 | h1 | h2
  .rw [yu h0] at hb;simp[bv] at hb
  .obtain ⟨d,rfl⟩:∃d,y=[d]:=by
    cases y with
    | nil=>simp at h1
    | cons d r=>cases r with
     | nil=>exact⟨d,rfl⟩
     | cons e r=>simp at h1
   exact az7 h Lb WE gx lx hb (Jq.1 gy) ec (by lia)
  .exact az8 h Lb WE gx gy nx ny lx h2 ec (by lia)
end
def mS(v:AV)(n:Int):Prop:=∃w l,v=.agg [.bool (decide (n<0)),w]/\bl w l/\dg l/\nz l/\dv l=n.natAbs
def lU{l:List Int}{k:Nat}(hd:dg l)(hn:nz l)(h:dv l<1000000000^k):l.length<=k:=by
 by_cases h0:l=[]
 .grind
 .have h1:=TD hn hd h0;have h2:1000000000^(l.length-1)<1000000000^k:=wM h1 h;have h3:=(tH (show 1<1000000000 by decide)).1 h2
  lia
def gQ{id:Nat}{a b x y:AV}(h1:bF a=ycO)(h2:bF b=ycO)(p1:aP a=ycO)(p2:aP b=ycO):
  fN hp ct id 0 2 [a,b] (Ix (.cells ycO ycO ycO 2 [x,y]))=Ix (.ax [],aV hp id (.cells ycO ycO ycO 2 [a,b]),ct):=by
 rw[mb (by rfl) (by simp) (by simp[bP,h1,h2])];simp[aD,p1,p2,over]
def cJ(neg:Bool)(m:Nat):Int:=if neg=ycO then -(m:Int) else m
def AR(h:Has P L 294 E0)(db:Has P L 300 pk)(neg:Bool){l:List Int}(hv:bl v l)(hd:dg l)(hl:l.length<=20000000000):
  ∃r,ah P L 294 [.bool neg,v] r/\mS r (cJ neg (dv l)):=by
 have⟨w,e1,hw,jU⟩:=E9 db hv hl;have An:=CC l;have FJ:=IZ l;have oM:=D9 hd;have hc:(neg&&decide ((0:Int)<((eZ l).length:Nat)))=decide (cJ neg (dv l)<0):=by
  unfold cJ
  cases neg with
  | false=>simp
  | true=>
   simp only[xQ,xL];by_cases h0:eZ l=[]
   .rw [h0] at An ⊢;simp only[dv] at An;simp[<-An]
   .have h1:0<(eZ l).length:=List.length_pos_iff.2 h0;have h2:0<dv l:=by
     rw[<-An];rcases xE (dv (eZ l)) with h | h
     .exact absurd (aiq FJ oM h) h0
     .exact h
    rw[xG (by lia),xG (by lia)]
 refine⟨.agg [.bool (decide (cJ neg (dv l)<0)),w],?_,w,eZ l,rfl,hw,oM,FJ,?_⟩
 .rw [<-hc];unfold ah at e1 ⊢;rw[aB h]
  cases neg with
  | false=>
   simp only[go_sem,ya,yb,yi,E0,aG,hv.af,e1,hw.pu,hw.shut,hw.one,hw.cells,gQ];rcases hw with ⟨rfl,_⟩ | ⟨e,rfl⟩<;>rfl
  | true=>
   simp only[go_sem,ya,yb,yi,E0,aG,hv.af,e1,hw.len,hw.pu,hw.shut,hw.one,hw.cells,gQ];rcases hw with ⟨rfl,_⟩ | ⟨e,rfl⟩<;>rfl
 .rw [An];unfold cJ;split<;>lia
def amp(h:Has P L 298 UQ)(kj:Has P L 294 E0)(db:Has P L 300 pk){n:Int}(hK:K<=20000000000)(hv:mS v n)(hn:n.natAbs<1000000000^K):∃r,ah P L 298 [v] r/\mS r (-n):=by
 obtain⟨w,l,rfl,hw,hd,hz,An⟩:=hv;have⟨r,e1,hr⟩:=AR kj db (!decide (n<0)) hw hd (xB (lU hd hz (by rw[An];exact hn)) hK)
 have e:cJ (!decide (n<0)) (dv l)= -n:=by
  rw[An];unfold cJ;by_cases h0:n<0
  .simp [h0];lia
  .simp [h0];lia
 rw[e] at hr;obtain⟨w2,l2,rfl,jH,fw,gA,Di⟩:=hr;refine⟨_,?_,w2,l2,rfl,jH,fw,gA,Di⟩;unfold ah at e1 ⊢;rw[aB h];simp only[go_sem,ya,yb,UQ,aG,hw.pu,hw.af,hw.one,jH.pu,jH.one,aZ,yd,cD,e1,gQ,bf];rcases jH with ⟨rfl,_⟩ | ⟨e,rfl⟩<;>rfl
end VE
