import Derived.ChangeSlices
import Derived.ChangeReads
import Derived.ChangeSame
import Derived.OpenShut
import Derived.Lib.AtoiErrMem
import Derived.Laws.Externs
import Derived.Attr
import Derived.Test.YtebpicijmcnecaaGreatDoorUao
set_option linter.all false
set_option maxRecDepth 100000
open Array renaming getElem?_eq_some_iff->xo
open BitVec renaming ofInt->we,ofInt_natCast->th,ofNat->tg,toNat_ofNat->vH
open Bool renaming and_eq_true->ye,and_self->wx,and_true->tP,false_and->uP,false_eq_true->yA,false_or->yaU,true_and->uj
open Go renaming Addr->uh,ChangeSpec->ycc,DataW->xM,Field->vI,IntKind->yZ,MemPlace->wA,Program->xi,TypeId->yu,Value->yg,World->yi
open Int renaming ediv_emod_unique->tK,gcd->vj,gcd_dvd_left->tR,gcd_dvd_right->tG,mul_ediv_cancel'->yaM,natAbs_ediv_of_dvd->uJ,natCast_mul->xx,reduceEq->yan,tdiv_eq_ediv_of_dvd->yav,tdiv_eq_ediv_of_nonneg->xJ,tmod_eq_emod_of_nonneg->xI,toNat_natCast->wz
open List renaming all_cons->tO,append_assoc->xr,append_nil->wj,cons_append->ym,drop->ui,drop_drop->wZ,drop_eq_getElem_cons->yQ,drop_eq_nil_of_le->xj,drop_left'->uY,drop_zero->yh,eq_nil_of_length_eq_zero->yG,filter_cons->ybf,filter_eq_nil_iff->tA,flatMap_cons->yaW,getD_cons_succ->yaL,getD_eq_getElem?_getD->yY,getElem?_cons_zero->vN,getElem?_eq_getElem->xh,length->xW,length_append->yC,length_cons->yH,length_drop->wH,length_map->yX,length_nil->yM,length_pos_iff->tL,length_reverse->yaN,length_singleton->td,length_take->yT,mapM_cons->uo,mapM_nil->yal,map_append->xk,map_cons->yV,map_take->yaj,mem_append->xD,mem_append_left->tp,mem_append_right->vO,mem_flatMap->uO,mem_singleton->xy,nil_append->yD,range->wE,range'->xS,range'_succ->vA,range'_zero->ybc,range_eq_range'->yaE,replicate->yy,replicate_succ->wR,reverse_cons->yaX,set_append_right->yaA,set_cons_succ->yaS,set_eq_take_append_cons_drop->tF,take_append_drop->xU,take_length->xQ,take_of_length_le->yO,take_succ_eq_append_getElem->wa
open Nat renaming add_comm->ybr,add_mul->xL,add_sub_cancel->uz,add_zero->yS,beq->yo,beq_refl->wC,ble->yz,ble_eq_true_of_le->yt,blt->yF,div_add_mod->xK,div_eq_of_lt->xH,div_le_self->wU,div_lt_iff_lt_mul->xu,eq_of_beq_eq_true->yf,eq_zero_or_pos->xg,gcd->uQ,gcd_comm->tE,gcd_rec->ycp,le_div_iff_mul_le->tk,le_max_left->ud,le_max_right->vT,le_of_ble_eq_true->yv,le_of_lt->uk,le_refl->yq,le_trans->y9,lt_of_le_of_lt->xY,lt_of_lt_of_le->yE,lt_of_mul_lt_mul_right->uA,min_eq_left->xt,mod_add_div->vP,mod_eq_of_lt->yK,mod_lt->xp,mul_add->xz,mul_add_div->uL,mul_add_mod->uM,mul_assoc->y5,mul_comm->xb,mul_div_mul_right->tn,mul_le_mul->xd,mul_le_mul_left->yR,mul_le_mul_right->yL,mul_lt_mul_of_pos_right->xP,mul_mod_mul_right->vR,mul_one->yk,mul_pos->wN,mul_zero->xv,one_mul->yag,or_comm->ycq,pos_of_ne_zero->uU,pow_add->xB,pow_le_pow_right->xc,pow_lt_pow_iff_right->vM,pow_pos->ybv,pow_succ->y8,pow_zero->vz,reduceAdd->yc,reduceEqDiff->ya,reduceLT->yB,reduceLeDiff->yp,reduceMul->xA,strongRecOn->vB,sub_zero->ycb,two_pow_pos->y7,zero_add->yd,zero_le->uV,zero_mul->wh
open Option renaming bind_eq_bind->vG,bind_some->wu,map_some->wB,pure_def->wM
open Option.some renaming injEq->yb
open Prod.mk renaming injEq->yj
open Option renaming some->D5,none->D6
open Bool renaming true->ycG,false->ycH
namespace VE
open Go (IntKind)
variable {P:aE}{L:Lib}
section
open Go
section
variable (P:xi)
def D9(self:yu->Bool):List vI->Nat->Nat->Bool
 | [],o,n=>yo o n
 | f::r,o,n=>yo f.offset o&&(self f.type&&D9 self r (o+P.cellsOf f.type) n)
def flat:Nat->yu->Bool
 | 0,_=>ycH
 | n+1,t=>
  match P.underlying t with
  | some .bool | some (.int _) | some (.float _) | some .string=>yo (P.cellsOf t) 1
  | some (.slice e)=>yo (P.cellsOf t) 1&&(yF 0 (P.cellsOf e)&&flat n e)
  | some (.struct fs)=>D9 P (fun u=>flat n u) fs.toList 0 (P.cellsOf t)
  | some (.array k e)=>yo (P.cellsOf t) (k*P.cellsOf e)&&flat n e
  | _=>ycH
def cA{H:Type}:Nat->yu->xM H->List AV
 | 0,_,_=>[]
 | n+1,t,d=>
  match P.underlying t,d with
  | some .bool,.lit (.bool b)=>[.bool b]
  | some (.int k),.lit (.int _ m)=>[.int k m]
  | some (.float k),.lit (.float _ b)=>[.au k b]
  | some .string,.lit (.string s)=>[.str (s.map UInt8.toNat)]
  | some (.slice _),.nil=>[.ah]
  | some (.slice e),.slice jI spare=>[.aq spare.isEmpty jI.length (jI.flatMap fun x=>cA n e x)]
  | some (.struct fs),.agg parts=>(fs.toList.zip parts).flatMap fun x=>cA n x.1.type x.2
  | some (.array _ e),.agg parts=>parts.flatMap fun x=>cA n e x
  | _,_=>[]
end
section
variable {ab:Nat->Nat}{m:Mp}{S:Nat->Prop}{w:yi}
def X4:∀{a b:List AV} {dz o:Nat},bL ab m S w a dz o->bL ab m S w b dz (o+a.length)->bL ab m S w (a++b) dz o
 | [],b,dz,o,_,h=>by simpa using h
 | x::a,b,dz,o,h1,h2=>by
  exact⟨h1.1,X4 h1.2 (by rw[yH] at h2;rw[show o+1+a.length=o+(a.length+1) by lia];exact h2)⟩
def K4:∀{a b:List AV},aD a=ycG->aD b=ycG->aD (a++b)=ycG
 | [],_,_,h=>h
 | x::a,b,h1,h2=>by
  simp only[aD,ym,ye] at h1 ⊢;exact⟨h1.1,K4 h1.2 h2⟩
def X5:∀{a:List AV} {us:List yg},ax ab m S w a us->a.length=us.length
 | [],us,h=>by simp only[ax] at h;subst h;rfl
 | x::a,us,h=>by
  obtain⟨u,r,rfl,_,h2⟩:=h;simp[X5 h2]
end
section
variable {H:Type}{enc:yu×yg->H}{P:xi}{w:yi}{held:Bool}{ab:Nat->Nat}{m:Mp}{S:Nat->Prop}
def ZY{a:uh}{i:Nat}{u:yg}(h:w.cell? (a.add i)=D5 u):w.cell? ⟨a.block,a.off+i,D6⟩=D5 u/\(i=0->a.spot=D6):=by
 by_cases hi:i=0
 .subst hi;have e:a.add 0=a:=by simp[Addr.add]
  rw[e] at h;have hs:a.spot=D6:=by
   cases hq:a.spot with
   | none=>rfl
   | some k=>
    unfold World.cell? at h
    split at h
    .simp [hq] at h
    all_goals simp_all
  have⟨b,o,sp⟩:=a;simp only at hs;subst hs;exact⟨by simpa using h,fun _=>rfl⟩
 .have e:a.add i=⟨a.block,a.off+i,D6⟩:=by simp[Addr.add,hi]
  rw[e] at h;exact⟨h,fun h=>(hi h).elim⟩
def aiY(a:uh)(i:Nat):(a.add i).block=a.block:=by unfold Addr.add;split<;>rfl
def amW(a:uh)(i:Nat):(a.add i).off=a.off+i:=by unfold Addr.add;split<;>simp_all
def Lk{α β:Type}{f:α->Option β}:∀{l:List α} {r:List β},l.mapM f=D5 r->r.length=l.length
 | [],r,h=>by simp only[yal,wM,yb] at h;subst h;rfl
 | x::l,r,h=>by
  rw[uo] at h
  cases h1:f x with
  | none=>simp[h1] at h
  | some y=>
   cases h2:l.mapM f with
   | none=>simp[h1,h2] at h
   | some ys=>
    simp only[h1,h2,wu,vG,wM,yb] at h;subst h;simp[Lk h2]
def akT{c:AV}{l:List AV}{b o:Nat}(h:bL ab m S w (c::l) b o):b<w.heap.size:=by
 have⟨⟨u,h1,_⟩,_⟩:=h;unfold World.cell? at h1
 cases hq:w.heap[b]? with
 | none=>simp[hq] at h1
 | some o=>exact (xo.1 hq).1
def P7{e:yu}{bh sz:Nat}{f:xM H->List AV}{a:uh}(dR:0<sz)(IH:∀(cs:List yg) (d:xM H) (ps:List wA),DataW.trod enc P w 0 (fun _=>ycG) held bh e cs=D5 (d,ps)->ax ab m S w (f d) cs/\aD (f d)=ycG/\cs.length=sz):
  ∀(k j:Nat) (xs:List (xM H×List wA)),(xS j k).mapM (fun i=>(w.cells? 0 (a.add (i*sz)) sz).bind (DataW.trod enc P w 0 (fun _=>ycG) held bh e))=D5 xs->
   bL ab m S w ((xs.map (·.1)).flatMap f) a.block (a.off+j*sz)/\aD ((xs.map (·.1)).flatMap f)=ycG/\((xs.map (·.1)).flatMap f).length=k*sz/\xs.length=k/\(0<k->a.spot=D6\/0<j)
 | 0,j,xs,h=>by
  simp only[ybc,yal,wM,yb] at h;subst h;simp[bL,aD]
 | k+1,j,xs,h=>by
  rw[vA,uo] at h
  cases h1:(w.cells? 0 (a.add (j*sz)) sz) with
  | none=>simp[h1] at h
  | some us=>
   cases h2:DataW.trod enc P w 0 (fun _=>ycG) held bh e us with
   | none=>simp[h1,h2] at h
   | some x=>
    cases h3:(xS (j+1) k).mapM (fun i=>(w.cells? 0 (a.add (i*sz)) sz).bind (DataW.trod enc P w 0 (fun _=>ycG) held bh e)) with
    | none=>simp[h1,h2,h3] at h
    | some ys=>
     simp only[h1,h2,h3,wu,vG,wM,yb] at h;subst h;have⟨d,ps⟩:=x;have⟨g1,g2,g3⟩:=IH us d ps h2;have⟨k1,k2,k3,k4,_⟩:=P7 dR IH k (j+1) ys h3;have⟨_,c2,c3⟩:=World.cells?_some h1;have hl:(f d).length=sz:=by rw[X5 g1,g3]
     have hc:∀(i:Nat) (u:yg),us[i]? =D5 u->w.cell? ⟨a.block,a.off+j*sz+i,D6⟩=D5 u:=by
      intro i u hi;have Ay:i<sz:=by grind
      have h:=c3 i Ay;rw[hi] at h
      have:=(ZY h).1
      rwa[aiY,amW] at this
     refine⟨?_,?_,?_,by simp[k4],?_⟩
     .simp only [yV,yaW];refine X4 (Eh _ us _ g1 hc) ?_
      grind
     .simp only [yV,yaW];exact K4 g2 k2
     .grind
     .intro _;rcases xg j with hj | hj
      .left
       have h:=c3 0 dR;have hu:us[0]? =D5 us[0]:=by simp_all
       rw[hu] at h
       have:=(ZY h).2 rfl
       subst hj;simpa[Addr.add] using this
      .grind
def Xi{bh N:Nat}{n:Nat}{cs:List yg}(hN:cs.length=N)(IH:∀(t:yu) (cs:List yg) (d:xM H) (ps:List wA),flat P n t=ycG->DataW.trod enc P w 0 (fun _=>ycG) held bh t cs=D5 (d,ps)->ax ab m S w (cA P n t d) cs/\aD (cA P n t d)=ycG/\cs.length=P.cellsOf t):
  ∀(r:List vI) (o:Nat) (xs:List (xM H×List wA)),D9 P (fun u=>flat P n u) r o N=ycG->r.mapM (fun f=>DataW.trod enc P w 0 (fun _=>ycG) held bh f.type ((cs.drop f.offset).take (P.cellsOf f.type)))=D5 xs->
   ax ab m S w ((r.zip (xs.map (·.1))).flatMap fun x=>cA P n x.1.type x.2) (cs.drop o)/\aD ((r.zip (xs.map (·.1))).flatMap fun x=>cA P n x.1.type x.2)=ycG
 | [],o,xs,hf,h=>by
  have:=yf hf
  rw[xj (by lia)];simp[ax,aD]
 | f::r,o,xs,hf,h=>by
  simp only[D9,ye] at hf;have⟨e1,e2,e3⟩:=hf;have e1:=yf e1;rw[uo] at h
  cases h2:DataW.trod enc P w 0 (fun _=>ycG) held bh f.type ((cs.drop f.offset).take (P.cellsOf f.type)) with
  | none=>simp[h2] at h
  | some x=>
   cases h3:r.mapM (fun f=>DataW.trod enc P w 0 (fun _=>ycG) held bh f.type ((cs.drop f.offset).take (P.cellsOf f.type))) with
   | none=>simp[h2,h3] at h
   | some ys=>
    simp only[h2,h3,wu,vG,wM,yb] at h;subst h;have⟨d,ps⟩:=x;have⟨g1,g2,g3⟩:=IH f.type _ d ps e2 h2;have⟨k1,k2⟩:=Xi hN IH r _ ys e3 h3;rw[e1] at g1;have e:cs.drop o=(cs.drop o).take (P.cellsOf f.type)++cs.drop (o+P.cellsOf f.type):=by rw[<-wZ];exact (xU _ _).symm
    rw[e];exact⟨kX g1 k1,K4 g2 k2⟩
def ZZ{bh sz:Nat}{e:yu}{f:xM H->List AV}{cs:List yg}(IH:∀(cs:List yg) (d:xM H) (ps:List wA),DataW.trod enc P w 0 (fun _=>ycG) held bh e cs=D5 (d,ps)->ax ab m S w (f d) cs/\aD (f d)=ycG/\cs.length=sz):
  ∀(k j:Nat) (xs:List (xM H×List wA)),(xS j k).mapM (fun i=>DataW.trod enc P w 0 (fun _=>ycG) held bh e ((cs.drop (i*sz)).take sz))=D5 xs->cs.length=(j+k)*sz->
   ax ab m S w ((xs.map (·.1)).flatMap f) (cs.drop (j*sz))/\aD ((xs.map (·.1)).flatMap f)=ycG
 | 0,j,xs,h,hl=>by
  simp only[ybc,yal,wM,yb] at h;subst h;rw[xj (by rw[hl];simp)]
  simp[ax,aD]
 | k+1,j,xs,h,hl=>by
  rw[vA,uo] at h
  cases h2:DataW.trod enc P w 0 (fun _=>ycG) held bh e ((cs.drop (j*sz)).take sz) with
  | none=>simp[h2] at h
  | some x=>
   cases h3:(xS (j+1) k).mapM (fun i=>DataW.trod enc P w 0 (fun _=>ycG) held bh e ((cs.drop (i*sz)).take sz)) with
   | none=>simp[h2,h3] at h
   | some ys=>
    simp only[h2,h3,wu,vG,wM,yb] at h;subst h;have⟨d,ps⟩:=x;have⟨g1,g2,g3⟩:=IH _ d ps h2;have⟨k1,k2⟩:=ZZ IH k (j+1) ys h3 (by rw[hl];congr 1;lia)
    have e:cs.drop (j*sz)=(cs.drop (j*sz)).take sz++cs.drop ((j+1)*sz):=by rw[xL,yag,<-wZ];exact (xU _ _).symm
    rw[e];exact⟨kX g1 k1,K4 g2 k2⟩
def YS(hS:∀b,b<w.heap.size->S b):∀(n bh:Nat) (t:yu) (cs:List yg) (d:xM H) (ps:List wA),flat P n t=ycG->DataW.trod enc P w 0 (fun _=>ycG) held bh t cs=D5 (d,ps)->
  ax ab m S w (cA P n t d) cs/\aD (cA P n t d)=ycG/\cs.length=P.cellsOf t
 | 0,bh,t,cs,d,ps,hf,h=>by simp[flat] at hf
 | n+1,0,t,cs,d,ps,hf,h=>by simp[DataW.trod] at h
 | n+1,bh+1,t,cs,d,ps,hf,h=>by
  have IH:=YS hS n bh;unfold DataW.trod at h;simp only[flat] at hf
  split at h
  .rename_i hu;simp only[hu] at hf;simp only[yb,yj] at h;obtain⟨rfl,rfl⟩:=h;simp only[cA,hu];exact⟨by simp[ax,ae],by simp[aD,aS],by rw[yf hf];rfl⟩
  .rename_i hu;simp only[hu] at hf
   split at h
   .rename_i hk;simp only[yb,yj] at h;obtain⟨rfl,rfl⟩:=h;simp only[cA,hu];refine⟨?_,by simp[aD,aS],by rw[yf hf];rfl⟩
    rw[hk.1];simp[ax,ae]
   .cases h
  .rename_i hu;simp only[hu] at hf
   split at h
   .rename_i hk;simp only[yb,yj] at h;obtain⟨rfl,rfl⟩:=h;simp only[cA,hu];refine⟨?_,by simp[aD,aS],by rw[yf hf];rfl⟩
    rw[hk.1];simp[ax,ae]
   .cases h
  .rename_i hu;simp only[hu] at hf
   split at h
   .simp only [yb,yj] at h;obtain⟨rfl,rfl⟩:=h;simp only[cA,hu];refine⟨?_,by simp[aD,aS],by rw[yf hf];rfl⟩
    simp only[ax,ae];exact⟨_,_,rfl,⟨_,rfl,rfl⟩,rfl⟩
   .cases h
  .rename_i hu;simp[hu] at hf
  .rename_i hu;simp[hu] at hf
  .rename_i hu;simp only[hu,ye] at hf;simp only[yb,yj] at h;obtain⟨rfl,rfl⟩:=h;simp only[cA,hu];exact⟨by simp[ax,ae],by simp[aD,aS],by rw[yf hf.1];rfl⟩
  .rename_i e a len cap hu;simp only[hu,ye] at hf;have⟨f1,f2,f3⟩:=hf;have dR:=oY.1 f2;simp only at h
   split at h
   case isFalse=>cases h
   rename_i hc;simp only[xN] at h
   cases h1:(wE len).mapM fun i=>(w.cells? 0 (a.add (i*P.cellsOf e)) (P.cellsOf e)).bind (DataW.trod enc P w 0 (fun _=>ycG) held bh e) with
   | none=>rw[h1] at h;simp at h
   | some jI=>
    cases h2:(wE (cap-len)).mapM fun j=>(w.cells? 0 (a.add ((len+j)*P.cellsOf e)) (P.cellsOf e)).bind (DataW.trod enc P w 0 (fun _=>ycG) held bh e) with
    | none=>rw[h1] at h;simp[h2] at h
    | some rest=>
     rw[h1] at h;simp only[wu,h2,wB,yb,yj] at h;obtain⟨rfl,rfl⟩:=h;have hIH:=fun cs d ps h=>IH e cs d ps f3 h
     rw[yaE] at h1 h2;have⟨k1,k2,k3,k4,k5⟩:=P7 (ab:=ab) (m:=m) (S:=S) dR hIH len 0 jI h1;have Va:rest.length=cap-len:=by rw[Lk h2];simp
     have jf:cap≠0->a.spot=D6:=by
      intro Td;rcases xg len with h0 | h0
      .subst h0;simp only[yd,ycb] at h2;have⟨_,_,_,_,q5⟩:=P7 (ab:=ab) (m:=m) (S:=S) dR hIH cap 0 rest h2;exact (q5 (by lia)).resolve_right (by lia)
      .exact (k5 h0).resolve_right (by lia)
     simp only[cA,hu,yX];refine⟨?_,by simp[aD,aS],by rw[yf f1];rfl⟩
     simp only[ax];refine⟨_,_,rfl,?_,rfl⟩;simp only[ae];by_cases Td:cap=0
     .subst Td;have kA:len=0:=by lia
      subst kA;have he:jI=[]:=yG k4;subst he;exact .inr ⟨a,rfl,rfl,rfl⟩
     .have ⟨b,o,sp⟩:=a;have jf:=jf Td;simp only at jf;subst jf;refine .inl ⟨b,o,cap,by rw[k4],by lia,fun hx=>?_,?_,k2,by simpa using k1⟩
      .have:rest.length=0:=by simpa using hx
       lia
      .generalize hg:((jI.map (·.1)).flatMap fun x=>cA P n e x)=l at k1
       cases l with
       | nil=>exact .inl rfl
       | cons c l=>exact .inr (hS b (akT k1))
  .rename_i sY x1 Ki fs hu;simp only[hu] at hf
   split at h
   case isFalse=>cases h
   rename_i hlen
   cases h1:fs.toList.mapM fun f=>DataW.trod enc P w 0 (fun _=>ycG) held bh f.type ((sY.drop f.offset).take (P.cellsOf f.type)) with
   | none=>rw[h1] at h;simp at h
   | some xs=>
    rw[h1] at h;simp only[wB,yb,yj] at h;obtain⟨rfl,rfl⟩:=h;have⟨k1,k2⟩:=Xi hlen (fun t cs d ps hf h=>IH t cs d ps hf h) fs.toList 0 xs hf h1;simp only[cA,hu];exact⟨by simpa using k1,k2,hlen⟩
  .rename_i sY x1 Ki k e hu;simp only[hu,ye] at hf;have⟨f1,f2⟩:=hf;have f1:=yf f1
   split at h
   case isFalse=>cases h
   rename_i hlen
   cases h1:(wE k).mapM fun i=>DataW.trod enc P w 0 (fun _=>ycG) held bh e ((sY.drop (i*P.cellsOf e)).take (P.cellsOf e)) with
   | none=>rw[h1] at h;simp at h
   | some xs=>
    rw[h1] at h;simp only[wB,yb,yj] at h;obtain⟨rfl,rfl⟩:=h;rw[yaE] at h1;have⟨k1,k2⟩:=ZZ (ab:=ab) (m:=m) (S:=S) (fun cs d ps h=>IH e cs d ps f2 h) k 0 xs h1 (by rw[hlen,f1];simp)
    simp only[cA,hu];exact⟨by simpa using k1,k2,hlen⟩
  all_goals first
   | (cases h;done)
   | (simp_all;done)
def lm(P:xi)(n:Nat)(t:yu)(d:xM H):AV:=
 match P.underlying t with
 | some (.struct _) | some (.array _ _)=>.agg (cA P n t d)
 | _=>(cA P n t d).headD .undef
def amX(hS:∀b,b<w.heap.size->S b){n base:Nat}{t:yu}{v:yg}{d:xM H}{ps:List wA}(hf:flat P n t=ycG)(h:DataW.Trod enc P w 0 (fun _=>ycG) held t v d ps)(hv:Value.okWide P w .any base t v):ae ab m S w (lm P n t d) v/\aS (lm P n t d)=ycG:=by
 have⟨bh,h⟩:=h;have⟨h1,h2,h3⟩:=YS (ab:=ab) (m:=m) hS n bh t _ d ps hf h;have one:v.cells=#[v]->(∀fs,P.underlying t≠D5 (.struct fs))->(∀k e,P.underlying t≠D5 (.array k e))->ae ab m S w (lm P n t d) v/\aS (lm P n t d)=ycG:=by
  intro hc Fv hna;have e:lm P n t d=(cA P n t d).headD .undef:=by
   unfold lm
   grind
  rw[e];rw[hc] at h1;generalize cA P n t d=l at h1 h2
  cases l with
  | nil=>simp[ax] at h1
  | cons x l=>
   simp only[ax] at h1;simp only[aD,ye] at h2
   grind
 cases n with
 | zero=>simp[flat] at hf
 | succ n=>
  unfold Value.okWide at hv;simp only[flat] at hf
  cases hu:P.underlying t with
  | none=>simp[hu] at hf
  | some ty=>
   rw[hu] at hv hf;cases ty<;>simp only[yA] at hf hv
   case struct fs=>
    obtain⟨cs,rfl,_,_⟩:=hv;have e:lm P (n+1) t d=.agg (cA P (n+1) t d):=by simp only[lm,hu]
    rw[e];exact⟨by simp only[ae];exact⟨cs,rfl,h1⟩,by simpa only[aS] using h2⟩
   case array k e=>
    obtain⟨cs,rfl,_,_⟩:=hv;have e:lm P (n+1) t d=.agg (cA P (n+1) t d):=by simp only[lm,hu]
    rw[e];exact⟨by simp only[ae];exact⟨cs,rfl,h1⟩,by simpa only[aS] using h2⟩
   all_goals
    refine one ?_ (by simp[hu]) (by simp[hu])
    cases v with
    | agg cs=>exfalso;simp only[Cell.okWide,Cell.ok,hu] at hv
    | _=>rfl
def zO(P:xi)(n:Nat):List yu->List (xM H)->List AV
 | t::ts,d::ds=>lm P n t d::zO P n ts ds
 | _,_=>[]
def YT(hS:∀b,b<w.heap.size->S b){n base:Nat}:∀{ts:List yu} {vs:List yg} {ds:List (xM H)} {ps:List wA},ts.all (flat P n)=ycG->DataW.TrodAll enc P w 0 (fun _=>ycG) held ts vs ds ps->
  (∀(j:Nat) t v,ts[j]? =D5 t->vs[j]? =D5 v->Value.okWide P w .any base t v)->ax ab m S w (zO P n ts ds) vs/\aD (zO P n ts ds)=ycG
 | [],[],[],_,_,_,_=>by simp[zO,ax,aD]
 | t::ts,v::vs,d::ds,ps,hf,h,hv=>by
  simp only[tO,ye] at hf;have⟨p,q,h1,h2,_⟩:=h;have⟨a1,a2⟩:=amX (ab:=ab) (m:=m) hS hf.1 h1 (hv 0 t v rfl rfl);have⟨b1,b2⟩:=YT hS hf.2 h2 (fun j t v h1 h2=>hv (j+1) t v h1 h2);simp only[zO,ax,aD,ye]
  grind
 | [],_::_,_,_,_,h,_=>by simp[DataW.TrodAll] at h
 | [],[],_::_,_,_,h,_=>by simp[DataW.TrodAll] at h
 | _::_,[],_,_,_,h,_=>by simp[DataW.TrodAll] at h
 | _::_,_::_,[],_,_,h,_=>by simp[DataW.TrodAll] at h
end
end
section
open Go
section
variable {H:Type}{enc:yu×yg->H}{P:xi}{w w':yi}{held:Bool}{sp:Nat->Bool}
def ahT(hs:∀b,b<w.heap.size->w'.heap[b]? =w.heap[b]?){a:uh}{u:yg}(h:w.cell? a=D5 u):w'.cell? a=D5 u:=by
 unfold World.cell? at h ⊢
 grind
def ahm(hs:∀b,b<w.heap.size->w'.heap[b]? =w.heap[b]?){base:Nat}{a:uh}{n:Nat}{us:List yg}(h:w.cells? base a n=D5 us):w'.cells? base a n=D5 us:=by
 unfold World.cells? at h ⊢
 split at h
 .rename_i hb;rw[yN hb];exact mapM_carry h (fun x y _ _ hx=>ahT hs hx)
 .cases h
def amY{a:uh}{n:Nat}(h:0<n):MemPlace.cell a.block (a.off+0)∈MemPlace.row a n:=by
 unfold MemPlace.row
 simp_all
def Xj(hs:∀b,b<w.heap.size->w'.heap[b]? =w.heap[b]?):∀(n bh:Nat) (t:yu) (cs:List yg) (d:xM H) (ps:List wA),flat P n t=ycG->DataW.trod enc P w 0 (fun _=>ycG) held bh t cs=D5 (d,ps)->
  (∀p,p∈ps->sp p.block=ycG)->DataW.trod enc P w' 0 sp held bh t cs=D5 (d,ps)
 | 0,bh,t,cs,d,ps,hf,h,hp=>by simp[flat] at hf
 | n+1,0,t,cs,d,ps,hf,h,hp=>by simp[DataW.trod] at h
 | n+1,bh+1,t,cs,d,ps,hf,h,hp=>by
  have IH:=Xj hs n bh;have elem:∀{e:yu} {a:uh} {y:xM H×List wA},flat P n e=ycG->(w.cells? 0 a (P.cellsOf e)).bind (DataW.trod enc P w 0 (fun _=>ycG) held bh e)=D5 y->(∀p,p∈y.2->sp p.block=ycG)->
    (w'.cells? 0 a (P.cellsOf e)).bind (DataW.trod enc P w' 0 sp held bh e)=D5 y:=by
   intro e a y he h hq
   cases h1:w.cells? 0 a (P.cellsOf e) with
   | none=>simp[h1] at h
   | some us=>
    rw[h1] at h;rw[ahm hs h1]
    grind
  unfold DataW.trod at h ⊢;simp only[flat] at hf
  split at h
  .grind
  .grind
  .grind
  .grind
  .grind
  .grind
  .grind
  .rename_i e a len cap hu;simp only[hu,ye] at hf;obtain⟨f1,f2,f3⟩:=hf;have dR:=oY.1 f2;simp only at h ⊢
   split at h
   case isFalse=>cases h
   rename_i hc;rw[yN hc];simp only[xN] at h
   cases h1:(wE len).mapM fun i=>(w.cells? 0 (a.add (i*P.cellsOf e)) (P.cellsOf e)).bind (DataW.trod enc P w 0 (fun _=>ycG) held bh e) with
   | none=>rw[h1] at h;simp at h
   | some jI=>
    cases h2:(wE (cap-len)).mapM fun j=>(w.cells? 0 (a.add ((len+j)*P.cellsOf e)) (P.cellsOf e)).bind (DataW.trod enc P w 0 (fun _=>ycG) held bh e) with
    | none=>rw[h1] at h;simp[h2] at h
    | some rest=>
     rw[h1] at h;simp only[wu,h2,wB,yb,yj] at h;obtain⟨rfl,rfl⟩:=h;have k1:((wE len).mapM fun i=>(w'.cells? 0 (a.add (i*P.cellsOf e)) (P.cellsOf e)).bind (DataW.trod enc P w' 0 sp held bh e))=D5 jI:=
      mapM_carry h1 (fun x y _ hy hx=>elem f3 hx (fun p hq=>hp p (vO _ (uO.2 ⟨y,tp _ hy,hq⟩))))
     have k2:((wE (cap-len)).mapM fun j=>(w'.cells? 0 (a.add ((len+j)*P.cellsOf e)) (P.cellsOf e)).bind (DataW.trod enc P w' 0 sp held bh e))=D5 rest:=
      mapM_carry h2 (fun x y _ hy hx=>elem f3 hx (fun p hq=>hp p (vO _ (uO.2 ⟨y,vO _ hy,hq⟩))))
     have hr:(if sp a.block=ycG then (wE (cap-len)).mapM fun j=>(w'.cells? 0 (a.add ((len+j)*P.cellsOf e)) (P.cellsOf e)).bind (DataW.trod enc P w' 0 sp held bh e) else D5 [])=D5 rest:=by
      by_cases jf:sp a.block=ycG
      .rw [yN jf];exact k2
      .rw [yx jf];have h0:¬0<(jI.length+rest.length)*P.cellsOf e:=fun h0=>jf (hp _ (tp _ (amY h0)))
       have hz:jI.length+rest.length=0:=by
        rcases xg (jI.length+rest.length) with h | h
        .exact h
        .exact (h0 (wN h dR)).elim
       have:rest=[]:=yG (by omega)
       rw[this]
     rw[k1];simp only[wu];rw[hr];rfl
  .rename_i sY x1 Ki fs hu;simp only[hu] at hf
   split at h
   case isFalse=>cases h
   rename_i hlen;rw[yN hlen]
   cases h1:fs.toList.mapM fun f=>DataW.trod enc P w 0 (fun _=>ycG) held bh f.type ((sY.drop f.offset).take (P.cellsOf f.type)) with
   | none=>rw[h1] at h;simp at h
   | some xs=>
    rw[h1] at h;simp only[wB,yb,yj] at h;obtain⟨rfl,rfl⟩:=h;have Ow:∀(r:List vI) (o:Nat),D9 P (fun u=>flat P n u) r o (P.cellsOf t)=ycG->∀f,f∈r->flat P n f.type=ycG:=by
     intro r
     induction r with
     | nil=>intro o _ f hm;cases hm
     | cons g r ih=>
      intro o hq f hm;simp only[D9,ye] at hq;rcases List.mem_cons.1 hm with rfl | hm
      .exact hq.2.1
      .exact ih _ hq.2.2 f hm
    have k1:(fs.toList.mapM fun f=>DataW.trod enc P w' 0 sp held bh f.type ((sY.drop f.offset).take (P.cellsOf f.type)))=D5 xs:=
     mapM_carry h1 (fun f y hm hy hx=>IH _ _ y.1 y.2 (Ow _ _ hf f hm) hx (fun p hq=>hp p (uO.2 ⟨y,hy,hq⟩)))
    rw[k1];rfl
  .rename_i sY x1 Ki k e hu;simp only[hu,ye] at hf
   split at h
   case isFalse=>cases h
   rename_i hlen;rw[yN hlen]
   cases h1:(wE k).mapM fun i=>DataW.trod enc P w 0 (fun _=>ycG) held bh e ((sY.drop (i*P.cellsOf e)).take (P.cellsOf e)) with
   | none=>rw[h1] at h;simp at h
   | some xs=>
    rw[h1] at h;simp only[wB,yb,yj] at h;obtain⟨rfl,rfl⟩:=h;have k1:((wE k).mapM fun i=>DataW.trod enc P w' 0 sp held bh e ((sY.drop (i*P.cellsOf e)).take (P.cellsOf e)))=D5 xs:=
     mapM_carry h1 (fun i y _ hy hx=>IH _ _ y.1 y.2 hf.2 hx (fun p hq=>hp p (uO.2 ⟨y,hy,hq⟩)))
    rw[k1];rfl
  all_goals first
   | (cases h;done)
   | (simp_all;done)
def Wp(hs:∀b,b<w.heap.size->w'.heap[b]? =w.heap[b]?){n:Nat}:∀{ts:List yu} {vs:List yg} {ds:List (xM H)} {ps:List wA},ts.all (flat P n)=ycG->DataW.TrodAll enc P w 0 (fun _=>ycG) held ts vs ds ps->
  (∀p,p∈ps->sp p.block=ycG)->DataW.TrodAll enc P w' 0 sp held ts vs ds ps
 | [],[],[],ps,_,h,_=>by simpa only[DataW.TrodAll] using h
 | t::ts,v::vs,d::ds,ps,hf,h,hp=>by
  simp only[tO,ye] at hf;obtain⟨p,q,⟨bh,h1⟩,h2,rfl⟩:=h;exact⟨p,q,⟨bh,Xj hs n bh t _ d p hf.1 h1 (fun x hx=>hp x (tp _ hx))⟩,Wp hs hf.2 h2 (fun x hx=>hp x (vO _ hx)),rfl⟩
 | [],_::_,_,_,_,h,_=>by simp[DataW.TrodAll] at h
 | [],[],_::_,_,_,h,_=>by simp[DataW.TrodAll] at h
 | _::_,[],_,_,_,h,_=>by simp[DataW.TrodAll] at h
 | _::_,_::_,[],_,_,h,_=>by simp[DataW.TrodAll] at h
end
end
section
open Go Go.ChangeShapes Go.WideShapes
section
variable {H:Type}{enc:yu×yg->H}{P:xi}{W W':yi}
def aiZ(hc:Calm W W')(may:wA->Prop):W.keptBut W' may:=by
 refine⟨hc.os,hc.output,fun i hi=>?_⟩;rw[hc.same i hi]
 cases hq:W.heap[i]? with
 | none=>rfl
 | some o=>cases o<;>simp
def ahn(hc:Calm W W'){b off:Nat}(hb:b<W.heap.size):W'.frozen? ⟨b,off,D6⟩=W.frozen? ⟨b,off,D6⟩:=by
 unfold World.frozen?;rw[hc.same b hb]
def akU{fn:Func}{s:ycc}{apart fresh handsOn again:Bool}{args:Array yg}{ds gs:List (xM H)}{before:List wA}{n:Nat}{tb:yu}(hW:DataW.Whole enc P fn.params.toList s.vars apart W args.toList ds gs before)(hv:s.vars=[])(MP:fn.params.toList.all (flat P n)=ycG)(hc:Calm W W')(kV:s.fn H (ds++gs)={results:=[.lit (.bool ycG)],args:=ds})(qS:fn.resultTypes=#[tb])(kG:P.underlying tb=D5 .bool):
  s.post enc P fn apart fresh handsOn again W args (.bool ycG) W':=by
 have aB:=hW.lt;have hW0:=hW;obtain⟨p,q,hA,hV,hpq,hz,hn⟩:=hW;rw[hv] at hV;have hq:gs=[]/\q=[]:=by
  cases gs with
  | nil=>exact⟨rfl,by simpa only[DataW.TrodVars] using hV⟩
  | cons g gs=>simp[DataW.TrodVars] at hV
 obtain⟨rfl,rfl⟩:=hq;have hbp:before=p:=by simp_all
 subst hbp;have dQ:∀sp:Nat->Bool,(∀p∈before,sp p.block=ycG)->DataW.TrodAll enc P W' 0 sp ycG fn.params.toList args.toList ds before:=fun sp h=>Wp hc.same MP hA h
 have abV:∀(b:Nat) (sp:Nat->Bool) (hd:Bool),DataW.TrodAll enc P W' b sp hd fn.resultTypes.toList ((Value.bool ycG).resultList fn.resultTypes.size) [.lit (.bool ycG)] []:=by
  intro b sp hd;rw[qS];refine⟨[],[],⟨1,?_⟩,rfl,rfl⟩;simp[DataW.trod,kG,Value.cells]
 have hold:∀p∈before,(fun b=>decide (b<W.heap.size)) p.block=ycG:=fun p hp=>by simpa using aB p hp
 have abW:∀sp:Nat->Bool,DataW.TrodVars enc P W' sp s.vars ([]:List (xM H)) []:=fun sp=>by rw[hv];rfl
 refine⟨ds,[],before,[],before,[],hW0,by rw[kV];exact abV _ _ _,by rw[kV];exact dQ _ hold,by rw[kV];exact abW _,aiZ hc _,fun _=>?_⟩
 refine⟨?_,[.lit (.bool ycG)]++ds,[],[]++before++[],⟨[]++before,[],trodAll_append (dQ _ (fun _ _=>rfl)) (abV _ _ _),abW _,rfl,?_,?_⟩,?_⟩
 .intro j t r h1 h2;rw[qS] at h1 h2
  cases j with
  | zero=>
   simp only[List.getElem?_toArray,vN,yb] at h1;simp only[Value.resultList,List.size_toArray,yH,yM,xN,yd,vN,yb] at h2;subst h1;subst h2;simp[Value.okWide,kG,Cell.okWide,Cell.ok]
  | succ j=>simp at h1
 .intro b off hp;have hp:MemPlace.cell b off∈before:=by grind
  rw[ahn hc (b:=b) (aB _ hp)];exact hz b off hp
 .grind
 .grind
def ai0{O:bk}{n k:Nat}{fn:Func}{s:ycc}{apart fresh handsOn again:Bool}{base:Nat}{args:Array yg}{ds gs:List (xM H)}{before:List wA}{tb:yu}(hp:dL O n (zO O.P k fn.params.toList ds) (.bool ycG))(B7:O.w0=W)(kV:O.P.funcs[O.ab n]? =D5 fn)(hb:fn.body.isSome=ycG)(zb:fn.name≠ "runtime.NumGoroutine")(aJ:∀(j:Nat) t v,fn.params[j]? =D5 t->args[j]? =D5 v->Value.okWide O.P W .any base t v)(hW:DataW.Whole enc O.P fn.params.toList s.vars apart W args.toList ds gs before)(hv:s.vars=[])(MP:fn.params.toList.all (flat O.P k)=ycG)(hfs:s.fn H (ds++gs)={results:=[.lit (.bool ycG)],args:=ds})(qS:fn.resultTypes=#[tb])(kG:O.P.underlying tb=D5 .bool):
  Calls O.P (O.ab n) args W fun e W'=>∃v,e=.returned v/\s.post enc O.P fn apart fresh handsOn again W args v W':=by
 have hA:=hW;obtain⟨p,q,hA,_⟩:=hA;obtain⟨h1,h2⟩:=YT (ab:=O.ab) (m:=eB) (S:=fun b=>b<W.heap.size) (fun b hb=>hb) MP hA (fun j t v a b=>aJ j t v (by simpa using a) (by simpa using b));have hi:=hp W (fun b=>b<W.heap.size) args ⟨fun b _=>by rw[B7],by rw[B7];exact yq _⟩ (fun b hb=>hb) h1 h2
 have key:∀e W',YA O W (fun b=>b<W.heap.size) (.bool ycG) e W'->∃v,e=.returned v/\s.post enc O.P fn apart fresh handsOn again W args v W':=by
  rintro e W' ⟨u,S',rfl,hc,_,_,_,hr⟩;obtain⟨_,_,hu,_⟩:=hr;subst hu;exact⟨_,rfl,akU hW hv MP hc hfs qS kG⟩
 rcases hi with ⟨_,hi⟩ | ⟨u,w',hi,_⟩
 .exact callsIn_wide.1 (hi.mono key)
 .rw [Ej kV hb zb] at hi;cases hi
end
end
namespace J1
open Go Go.Proofs
noncomputable def O(W:yi):bk:=⟨Tryz.prog,VE.aG,Af kD.ab,VE.prog,MK kD.bi kD.hd,W⟩
def X6{w:yi}{k:Nat}{os:Array Go.Obj}:Calm w (Go.Sort.grow (w.drewN k) os):=G8 (Lib.below_grow w.heap.size w (yq _) k os)
def YU{W w:yi}(h:Lib.TabIs Tryz.prog W "internal/strconv.uint64pow10" .u64 Lib.pow10Tab)(hg:Bs (O W) w):Lib.TabIs Tryz.prog w "internal/strconv.uint64pow10" .u64 Lib.pow10Tab:=by
 unfold Lib.TabIs World.var? at h ⊢
 cases hn:Tryz.prog.globalNamed "internal/strconv.uint64pow10" with
 | none=>rw[hn] at h;exact h
 | some g=>
  rw[hn] at h;simp only[wu] at h ⊢;have hb:g<W.heap.size:=by
   cases hq:W.heap[g]? with
   | none=>rw[hq] at h;cases h
   | some o=>exact (xo.1 hq).1
  rw[hg.1 g hb];exact h
def au2:∀args w,(callFunc 113 args).run Tryz.prog w=.ok (.enter 113 args) w:=enters_of Tryz.func113 (by kernel_rfl) rfl
def au3:∀args w,(callFunc 180 args).run Tryz.prog w=.ok (.enter 180 args) w:=enters_of Tryz.func180 (by kernel_rfl) rfl
def au4:∀args w,(callFunc 240 args).run Tryz.prog w=.ok (.enter 240 args) w:=enters_of Tryz.func240 (by kernel_rfl) rfl
def au5:∀args w,(callFunc 242 args).run Tryz.prog w=.ok (.enter 242 args) w:=enters_of Tryz.func242 (by kernel_rfl) rfl
def au6:∀args w,(callFunc 243 args).run Tryz.prog w=.ok (.enter 243 args) w:=enters_of Tryz.func243 (by kernel_rfl) rfl
def au7:∀args w,(callFunc 198 args).run Tryz.prog w=.ok (.enter 198 args) w:=enters_of Tryz.func198 (by kernel_rfl) rfl
def au8:∀args w,(callFunc 186 args).run Tryz.prog w=.ok (.enter 186 args) w:=enters_of Tryz.func186 (by kernel_rfl) rfl
def au9:∀args w,(callFunc 187 args).run Tryz.prog w=.ok (.enter 187 args) w:=enters_of Tryz.func187 (by kernel_rfl) rfl
def ava:∀args w,(callFunc 188 args).run Tryz.prog w=.ok (.enter 188 args) w:=enters_of Tryz.func188 (by kernel_rfl) rfl
def avb:∀args w,(callFunc 249 args).run Tryz.prog w=.ok (.enter 249 args) w:=enters_of Tryz.func249 (by kernel_rfl) rfl
def avc:∀args w,(callFunc 273 args).run Tryz.prog w=.ok (.enter 273 args) w:=enters_of Tryz.func273 (by kernel_rfl) rfl
def avd:∀args w,(callFunc 268 args).run Tryz.prog w=.ok (.enter 268 args) w:=enters_of Tryz.func268 (by kernel_rfl) rfl
def amZ(b:Nat)(w:yi):(callFunc 272 #[.float .f64 b]).run Tryz.prog w=.ok (.value (.int .u64 b)) w:=by
 rw[run_callFunc_extern Tryz.func272 (by kernel_rfl) (by kernel_rfl) (by kernel_rfl) (e:=Extern.MathFloatBits.float64bits) (by kernel_rfl)];rfl
def aho(b:Nat)(w:yi):(callFunc 271 #[.int .u64 b]).run Tryz.prog w=.ok (.value (.float .f64 b)) w:=by
 rw[run_callFunc_extern Tryz.func271 (by kernel_rfl) (by kernel_rfl) (by kernel_rfl) (e:=Extern.MathFloatBits.float64frombits) (by kernel_rfl)];rfl
def ats(W:yi)(n:Nat)(sp:List AV->Option AV):Prop:=∀ap r,sp ap=D5 r->dL (O W) n ap r
section
variable {W:yi}{m:Int}(hm:W.cell? ⟨4,0,D6⟩=D5 (.int .i64 m))(ht:Lib.TabIs Tryz.prog W "internal/strconv.uint64pow10" .u64 Lib.pow10Tab)
include hm ht
theorem aqc:adk.kU (ats W):=
 (Tr.jH (akL (O:=O W) (f:=188) (by rfl) ava (fun s z w hl h=>(Tryz.strconv_Atoi s z hl h w).mono fun _ _ ⟨h1,t,h2⟩=>⟨h1,h2▸G8 (Lib.bytesWorld_below _ _ _)⟩))
  (Tr.jH (ahR (O:=O W) (f:=243) (by rfl) au6 Tryz.strings_Repeat)
  (Tr.jH (akK (O:=O W) (f:=240) (by rfl) au4 (fun z w h0 h1 hg=>(Tryz.strconv_Itoa z h0 h1 w (YU ht hg)).mono fun _ _ ⟨h1,k,os,h2⟩=>⟨h1,h2▸X6⟩))
  (Tr.jH (agK (O:=O W) (f:=180) (by rfl) au3 Tryz.strings_CutPrefix)
  (Tr.jH (amH (O:=O W) (f:=113) (by rfl) au2 (a:=⟨4,0,D6⟩) (m:=m) hm (fun s sep w hs hc=>Tryz.strings_Cut s sep m w hs hc))
  Tr.iW Tr.iW) Tr.iW) (Tr.jH (agI (O:=O W) (f:=242) (by rfl) au5 (fun z w hz hg=>(Tryz.agz z hz w (YU ht hg)).mono fun _ _ ⟨h1,k,os,h2⟩=>⟨h1,h2▸X6⟩))
  Tr.iW Tr.iW)) (Tr.jH (agL (O:=O W) (f:=186) (by rfl) au8 Tryz.strings_HasPrefix)
  (Tr.jH (aiR (O:=O W) (f:=198) (by rfl) au7 (fun x y w hx hy=>Tryz.bits_Mul64 x y hx hy w))
  Tr.iW Tr.iW) (Tr.jH (agH (O:=O W) (f:=187) (by rfl) au9 Tryz.strings_TrimPrefix)
  Tr.iW Tr.iW))) (Tr.jH (aiU (O:=O W) (f:=259) (by rfl) (fun x y b w h=>Tryz.bits_Sub64 x y b h w))
  (Tr.jH (akM (O:=O W) (f:=273) (by rfl) avc (fun x w h0 h1=>Tryz.bits_LeadingZeros64 x w h0 h1))
  (Tr.jH (akJ (O:=O W) (f:=249) (by rfl) avb (fun s cs w hs As ha=>Tryz.agZ s cs w hs As ha))
  Tr.iW Tr.iW) (Tr.jH (aiT (O:=O W) (f:=257) (by rfl) (fun x y c w h=>Tryz.bits_Add64 x y c h w))
  Tr.iW Tr.iW)) (Tr.jH (ahb (O:=O W) (f:=272) (by rfl) amZ)
  (Tr.jH (aiS (O:=O W) (f:=268) (by rfl) avd (fun x w h0 h1=>Tryz.bits_Len64 x w h0 h1))
  Tr.iW Tr.iW) (Tr.jH (agE (O:=O W) (f:=271) (by rfl) aho)
  Tr.iW Tr.iW))))
theorem am0:gC (O W) where
 hint n f g h:=Tr.CB (p:=fun f g=>Af kD.ab g=f) (PI kD.api) h
 mixed:=by kernel_rfl
 prog n F h:=Tr.CB kD.amV h
 aG n sp ap r h hs:=Tr.CB (aqc hm ht) h ap r hs
 E0 n sp hp ct ap v an aK h:=by cases h
end
end J1
def b8:List Int->Int
 | []=>0
 | a::r=>if a=0 then b8 r else a
def WL{l:List Int}{i:Nat}(h:i<l.length):b8 (l.drop i)=if l[i]=0 then b8 (l.drop (i+1)) else l[i]:=by
 rw[yQ h,b8]
def n8(lo hi:Int):List Int->Bool
 | []=>ycH
 | a::r=>if a<lo\/hi<a then ycG else n8 lo hi r
def YV{lo hi:Int}{l:List Int}(h:n8 lo hi l=ycH):∀i (cX:i<l.length),lo<=l[i]/\l[i]<=hi:=by
 induction l with
 | nil=>intro i cX;exact absurd cX (Nat.not_lt_zero _)
 | cons a r ih=>
  simp only[n8] at h
  grind
def ai1{lo hi:Int}{l:List Int}(h:n8 lo hi l=ycH):∀i,n8 lo hi (l.take i)=ycH:=by
 induction l with
 | nil=>intro i;simp[n8]
 | cons a r ih=>
  intro i;simp only[n8] at h
  split at h
  .grind
  .rename_i hc
   cases i with
   | zero=>simp[n8]
   | succ i=>simp only[List.take_succ_cons,n8,hc,xq,ih h i]
section
variable {x:Int}{a b l:List Int}
def dv:List Int->Nat
 | []=>0
 | a::r=>a.toNat+1000000000*dv r
def lV:∀(a b:List Int),dv (a++b)=dv a+1000000000^a.length*dv b
 | [],b=>by simp[dv]
 | x::a,b=>by
  simp only[ym,dv,lV a b,yH,y8,xz]
  grind
def pc(i:Nat):dv (l.take (i+1))=dv (l.take i)+1000000000^i*(l.getD i 0).toNat:=by
 by_cases h:i<l.length
 .rw [wa h,lV,yT,xt (by lia)];simp[dv,yY,xh h]
 .rw [yO (by lia),yO (by lia)]
  grind
abbrev dg(l:List Int):Prop:=n8 0 999999999 l=ycH
def gB:dg (a++b)↔dg a/\dg b:=by
 induction a with
 | nil=>simp[dg,n8]
 | cons x a ih=>
  simp only[dg,ym,n8] at ih ⊢
  grind
def lh:dg [x]↔0<=x/\x<1000000000:=by
 simp only[dg,n8]
 grind
def gY(h:dg l)(i:Nat):0<=l.getD i 0/\l.getD i 0<1000000000:=by
 by_cases hi:i<l.length
 .have:=YV h i hi
  grind
 .grind
def CH(h:dg l)(i:Nat):dg (l.take i):=ai1 h i
def jJ:∀{l:List Int},dg l->dv l<1000000000^l.length
 | [],_=>by simp[dv]
 | x::l,h=>by
  have h':dg ([x]++l):=h;have⟨h1,h2⟩:=gB.1 h';have h1:=lh.1 h1
  have:=jJ h2
  simp only[dv,yH,y8]
  lia
def dF:List Int->List Int
 | []=>[]
 | a::r=>match dF r with | []=>if a=0 then [] else [a] | t::q=>a::t::q
def Ha:∀l:List Int,dF (l++[0])=dF l
 | []=>rfl
 | a::l=>by simp only[ym,dF,Ha l]
def K5{a:Int}(h:a≠0):∀l:List Int,dF (l++[a])=l++[a]
 | []=>by simp[dF,h]
 | b::l=>by
  simp only[ym,dF,K5 h l]
  cases hq:l++[a] with
  | nil=>simp at hq
  | cons t q=>rfl
def zA:∀l:List Int,dv (dF l)=dv l
 | []=>rfl
 | a::l=>by
  have ih:=zA l;simp only[dF,dv]
  split
  .rename_i h;rw[h] at ih
   split
   .rename_i h0;subst h0;simp[dv,<-ih]
   .simp [dv,<-ih]
  .rename_i t q h;rw[h] at ih;simp only[dv] at ih ⊢
   lia
def A1:∀{l:List Int},dg l->dg (dF l)
 | [],_=>rfl
 | a::l,h=>by
  have h':dg ([a]++l):=h;have⟨h1,h2⟩:=gB.1 h';have ih:=A1 h2;simp only[dF]
  split
  .grind
  .rename_i t q hq;rw[hq] at ih
   exact (gB (a:=[a]) (b:=t::q)).2 ⟨h1,ih⟩
def Ll:∀l:List Int,(dF l).length<=l.length
 | []=>yq _
 | a::l=>by
  have ih:=Ll l;simp only[dF]
  grind
def snoc{α:Type}(l:List α):l=[]\/∃m a,l=m++[a]:=by
 rcases List.eq_nil_or_concat l with h | ⟨m,a,h⟩
 .grind
 .grind
def ahp:∀(n:Nat) (l:List Int),l.length=n->dF (dF l)=dF l:=by
 intro n
 induction n with
 | zero=>intro l h;rw[yG h];rfl
 | succ n ih=>
  intro l h;rcases snoc l with rfl | ⟨m,a,rfl⟩
  .rfl
  .by_cases h0:a=0
   .subst h0;rw[Ha]
    grind
   .rw [K5 h0,K5 h0]
def ahU(l:List Int):dF (dF l)=dF l:=ahp _ l rfl
abbrev nz(l:List Int):Prop:=dF l=l
def Eo(l:List Int):nz (dF l):=ahU l
def MQ(h:nz l)(hd:dg l)(h0:l≠[]):1000000000^(l.length-1)<=dv l:=by
 rcases snoc l with rfl | ⟨m,a,rfl⟩
 .grind
 .by_cases ha:a=0
  .subst ha
   have:=Ll m
   have e:=congrArg xW h;rw[Ha] at e
   grind
  .rw [lV]
   have:=lh.1 (gB.1 hd).2
   simp only[dv,yC,td,uz,xv,yS];have h1:1<=a.toNat:=by lia
   have:=yR (1000000000^m.length) h1
   lia
def Z0(h:nz l)(hd:dg l)(h0:dv l=0):l=[]:=by
 by_cases hl:l=[]
 .grind
 .have:=MQ h hd hl
  grind
def RE(ha:dg a)(hb:nz b)(bm:dg b)(h:a.length<b.length):dv a<dv b:=by
 have h1:=jJ ha;have h2:=MQ hb bm (fun e=>by subst e;simp at h);have h3:1000000000^a.length<=1000000000^(b.length-1):=xc (by decide) (by lia)
 lia
def dw(m n:Nat):Int:=if m<n then -1 else if n<m then 1 else 0
def aaI{i:Nat}(h:i<l.length):dv l=dv (l.take i)+1000000000^i*(l[i].toNat+1000000000*dv (l.drop (i+1))):=by
 have e:l=l.take i++l[i]::l.drop (i+1):=by simp_all
 have:dv l=dv (l.take i++l[i]::l.drop (i+1)):=congrArg dv e
 rw[this,lV,yT,xt (by lia)];rfl
def Z1{i:Nat}(ha:dg a)(hb:dg b)(h1:i<a.length)(h2:i<b.length)(he:a.drop (i+1)=b.drop (i+1))(h:a[i]<b[i]):dv a<dv b:=by
 rw[aaI h1,aaI h2,he];have hl:=jJ (CH ha i);have g1:=YV ha i h1;have h3:a[i].toNat+1000000000*dv (b.drop (i+1))+1<=b[i].toNat+1000000000*dv (b.drop (i+1)):=by lia
 have:=yR (1000000000^i) h3
 grind
def RF:∀{l:List Int} {j:Nat} {x:Int},j<l.length->dv (l.set j x)+1000000000^j*(l.getD j 0).toNat=dv l+1000000000^j*x.toNat
 | [],j,x,h=>by simp at h
 | a::l,0,x,_=>by simp[dv];lia
 | a::l,j+1,x,h=>by
  have ih:=RF (l:=l) (j:=j) (x:=x) (by simpa using h);simp only[yaS,dv,yaL,y8]
  grind
def Mm(h:dg l){j:Nat}(hx:0<=x/\x<1000000000):dg (l.set j x):=by
 by_cases hj:j<l.length
 .rw [tF,yN hj];have e:l=l.take (j+1)++l.drop (j+1):=(xU _ _).symm;have hd:dg (l.drop (j+1)):=by rw[e] at h;exact (gB.1 h).2
  exact gB.2 ⟨CH h j,(gB (a:=[x]) (b:=l.drop (j+1))).2 ⟨lh.2 hx,hd⟩⟩
 .rw [List.set_eq_of_length_le (by lia)];exact h
def YW{j m:Nat}(h:m≠j):(l.set j x).getD m 0=l.getD m 0:=by grind
def akV{V0 V V' p q A X Y o c s:Nat}(hs:s=o+A*X+c)(aV:V'+p*q*o=V+p*q*(s%1000000000))(hv:V+p*q*c=V0+p*(A*Y)):
  V'+p*(q*1000000000)*(s/1000000000)=V0+p*(A*(Y+q*X)):=by
 have e:=vP s 1000000000;have e2:p*q*s=p*q*(s%1000000000)+p*(q*1000000000)*(s/1000000000):=by
  conv=>lhs;rw[<-e]
  rw[xz,<-y5 (p*q),<-y5 p q]
 have e3:p*q*s=p*q*o+p*q*(A*X)+p*q*c:=by rw[hs,xz,xz]
 have e4:p*(A*(Y+q*X))=p*(A*Y)+p*q*(A*X):=by
  rw[xz,xz,y5 p q,<-y5 A q X,xb A q,y5 q A X]
 lia
def YX(n:Nat):dv (yy n 0)=0:=by
 induction n with
 | zero=>rfl
 | succ n ih=>simp[wR,dv,ih]
def YY(n:Nat):dg (yy n 0):=by
 induction n with
 | zero=>rfl
 | succ n ih=>exact (gB (a:=[0]) (b:=yy n 0)).2 ⟨by decide,ih⟩
end
section
variable {l m:List Nat}{U V i p u0 u1 u2 ur v1 v2 vr x:Nat}
def bv(b:Nat):List Nat->Nat
 | []=>0
 | a::r=>a+b*bv b r
def lo(b:Nat)(l:List Nat):Prop:=∀x,x∈l->x<b
section
variable {b:Nat}
def Bj(a:Nat):bv b [a]=a:=by simp[bv]
def rO:∀(l m:List Nat),bv b (l++m)=bv b l+b^l.length*bv b m
 | [],m=>by simp[bv]
 | x::l,m=>by
  simp only[ym,bv,rO l m,yH,y8,xz]
  grind
def gd(h:i<l.length):l[i]=l.getD i 0:=by simp_all
def RG(h:l.length<=i):l.getD i 0=0:=by simp_all
def jD(i:Nat):bv b (l.take (i+1))=bv b (l.take i)+b^i*l.getD i 0:=by
 by_cases h:i<l.length
 .rw [wa h,rO,yT,xt (by lia),Bj,gd h]
 .rw [yO (by lia),yO (by lia),RG (by lia),xv,yS]
def Mn:lo b []:=fun _ h=>by simp at h
def Lm:lo b (l++m)↔lo b l/\lo b m:=by
 constructor
 .intro h;exact⟨fun x hx=>h x (by simp[hx]),fun x hx=>h x (by simp[hx])⟩
 .rintro ⟨h1,h2⟩ x hx;rcases xD.1 hx with h | h
  .exact h1 x h
  .exact h2 x h
def EN:lo b [x]↔x<b:=by simp[lo]
def gZ(hb:0<b)(h:lo b l)(i:Nat):l.getD i 0<b:=by
 by_cases hi:i<l.length
 .rw [<-gd hi];exact h _ (List.getElem_mem hi)
 .grind
def CI(h:lo b l)(i:Nat):lo b (l.take i):=fun x hx=>h x (List.mem_of_mem_take hx)
def Z2(h:lo b l)(i:Nat):lo b (l.drop i):=fun x hx=>h x (List.mem_of_mem_drop hx)
def mf(h:lo b l)(hx:x<b):lo b (l.set i x):=fun y hy=>by
 rcases List.mem_or_eq_of_mem_set hy with h1 | h1
 .exact h y h1
 .lia
def EO(hb:0<b)(n:Nat):lo b (yy n 0):=fun x hx=>by
 grind
def EP(n:Nat):bv b (yy n 0)=0:=by
 induction n with
 | zero=>rfl
 | succ n ih=>simp[wR,bv,ih]
def CJ(n m:Nat):(yy n (0:Nat)).getD m 0=0:=by grind
def mX:∀{l:List Nat},lo b l->bv b l<b^l.length
 | [],_=>by simp[bv]
 | x::l,h=>by
  have h1:=h x (by simp);have h2:=mX (l:=l) (fun y hy=>h y (by simp[hy]));simp only[bv,yH,y8,xb _ b]
  have:=yR b (show bv b l+1<=b^l.length from h2)
  grind
def nU:∀{l:List Nat} {i x:Nat},i<l.length->bv b (l.set i x)+b^i*l.getD i 0=bv b l+b^i*x
 | [],i,x,h=>by simp at h
 | a::l,0,x,_=>by simp[bv];lia
 | a::l,i+1,x,h=>by
  have ih:=nU (l:=l) (i:=i) (x:=x) (by simpa using h)
  have:=congrArg (fun t=>b*t) ih
  simp only[xz] at this;simp only[yaS,bv,yaL,y8,xb _ b,y5] at this ⊢
  lia
def pg{m:Nat}(h:i≠m):(l.set i x).getD m 0=l.getD m 0:=by simp_all
def ahV(h:i<l.length):(l.set i x).getD i 0=x:=by simp_all
def Ho(l:List Nat)(i:Nat)(h:i<=l.length):bv b l=bv b (l.take i)+b^i*bv b (l.drop i):=by
 have:=rO (b:=b) (l.take i) (l.drop i)
 simp_all
def dG:List Nat->List Nat
 | []=>[]
 | a::r=>match dG r with | []=>if a=0 then [] else [a] | t::q=>a::t::q
def K6:∀l:List Nat,dG (l++[0])=dG l
 | []=>rfl
 | a::l=>by simp only[ym,dG,K6 l]
def Ea{a:Nat}(h:a≠0):∀l:List Nat,dG (l++[a])=l++[a]
 | []=>by simp[dG,h]
 | b::l=>by
  simp only[ym,dG,Ea h l]
  cases hq:l++[a] with
  | nil=>simp at hq
  | cons t q=>rfl
abbrev gj(l:List Nat):Prop:=dG l=l
def ahW:∀(n:Nat) (l:List Nat),l.length=n->∃i,i<=n/\dG l=l.take i/\gj (l.take i)/\bv b (l.take i)=bv b l:=by
 intro n
 induction n with
 | zero=>intro l h;rw[yG h];exact⟨0,yq _,rfl,rfl,rfl⟩
 | succ n ih=>
  intro l h;rcases snoc l with rfl | ⟨m,a,rfl⟩
  .grind
  .have hm:m.length=n:=by simp_all
   by_cases h0:a=0
   .subst h0;have⟨i,h1,h2,h3,h4⟩:=ih m hm;have e:(m++[0]).take i=m.take i:=by grind
    refine⟨i,by lia,by rw[K6,h2,e],by rw[e];exact h3,?_⟩
    rw[e,h4,rO];simp[bv]
   .have e:(m++[a]).take (n+1)=m++[a]:=yO (by simp[hm]);exact⟨n+1,yq _,by rw[e,Ea h0],by rw[e];exact Ea h0 m,by rw[e]⟩
def Ln(l:List Nat):∃i,i<=l.length/\dG l=l.take i/\gj (dG l)/\bv b (dG l)=bv b l:=by
 have⟨i,h1,h2,h3,h4⟩:=ahW (b:=b) l.length l rfl
 grind
def A2(l:List Nat):bv b (dG l)=bv b l:=by
 have⟨_,_,_,_,h⟩:=Ln (b:=b) l;exact h
def A3(l:List Nat):gj (dG l):=by
 have⟨_,_,_,h,_⟩:=Ln (b:=2) l;exact h
def A4(h:lo b l):lo b (dG l):=by
 have⟨i,_,h2,_⟩:=Ln (b:=b) l;rw[h2];exact CI h i
def ai2(l:List Nat):(dG l).length<=l.length:=by
 have⟨i,_,h2,_⟩:=Ln (b:=2) l
 grind
def QC(h:gj l)(h0:l≠[]):l.getD (l.length-1) 0≠0:=by
 rcases snoc l with rfl | ⟨m,a,rfl⟩
 .grind
 .intro ha
  have:a=0:=by
   grind
  subst this;have e:=congrArg xW h;rw[K6] at e
  have:=ai2 m
  grind
def RH(hb:0<b)(h:gj l)(h0:l≠[]):b^(l.length-1)<=bv b l:=by
 rcases snoc l with rfl | ⟨m,a,rfl⟩
 .grind
 .have ha:=QC h h0;simp[yY] at ha;rw[rO,Bj];simp only[yC,td,uz]
  have:=yR (b^m.length) (show 1<=a by lia)
  lia
def LS(hb:1<b)(hl:lo b l)(hm:gj m)(h:l.length<m.length):bv b l<bv b m:=by
 have h1:=mX hl;have h2:=RH (b:=b) (by lia) hm (fun e=>by subst e;simp at h);have h3:b^l.length<=b^(m.length-1):=xc (by lia) (by lia)
 lia
def Z3(hl:lo b l)(h1:i<l.length)(h2:i<m.length)(he:l.drop (i+1)=m.drop (i+1))(h:l.getD i 0<m.getD i 0):bv b l<bv b m:=by
 rw[Ho l (i+1) (by lia),Ho m (i+1) (by lia),he,jD,jD]
 have:=mX (CI hl i)
 have:=yR (b^i) (show l.getD i 0+1<=m.getD i 0 from h)
 grind
def ai3(hb:1<b){k:Nat}(h:gj l)(hk:bv b l<b^k):l.length<=k:=by
 by_cases h0:l=[]
 .grind
 .have h1:=RH (b:=b) (by lia) h h0;have h2:b^(l.length-1)<b^k:=xY h1 hk
  have:=(vM hb).1 h2
  lia
def Xk{t r:Nat}(hV:V=(v1*b+v2)*p+vr)(hU:U=((u0*b+u1)*b+u2)*p+ur)(hur:ur<p)(ht:t*v1+r=u0*b+u1)(h:r*b+u2<t*v2):U/V<=t-1:=by
 have h1:U<t*V:=by
  have e:t*((v1*b+v2)*p)=((t*v1)*b+t*v2)*p:=by
   grind
  have h2:((u0*b+u1)*b+u2)+1<=(t*v1)*b+t*v2:=by rw[<-ht,xL];lia
  have h3:=yL p h2;rw[hV,hU,xz,e]
  grind
 have rC:0<V:=by
  grind
 have:=(xu rC).2 h1
 lia
def X7{t r:Nat}(hb:0<b)(hV:V=(v1*b+v2)*p+vr)(Kj:vr<p)(hU:U=((u0*b+u1)*b+u2)*p+ur)(eC:0<v1)(cE:v2<b)(kG:t<b)(ht:t*v1+r=u0*b+u1)(h:b<=r\/t*v2<=r*b+u2):t<=U/V+1:=by
 have h2:t*v2<=r*b+u2:=by
  rcases h with h | h
  .have:=xd (uk kG) (uk cE)
   have:=yL b h
   lia
  .exact h
 have h3:t*(v1*b+v2)<=(u0*b+u1)*b+u2:=by
  rw[xz,<-y5,<-ht,xL];lia
 have hp:0<p:=by lia
 have aAs:b<=v1*b:=Nat.le_mul_of_pos_left b eC;have rC:0<V:=by
  have:=wN (show 0<v1*b+v2 by lia) hp
  lia
 rcases xg t with h0 | h0
 .grind
 .obtain ⟨s,rfl⟩:∃s,t=s+1:=⟨t-1,by lia⟩;have h4:s*V<=U:=by
   have h5:V<=(v1*b+v2+1)*p:=by grind
   have h6:=yR s h5;have h7:s*(v1*b+v2+1)<=(s+1)*(v1*b+v2):=by
    grind
   have h8:=yL p (y9 h7 h3)
   grind
  exact Nat.succ_le_succ ((tk rC).2 h4)
def Py(hV:V=(v1*b+v2)*p+vr)(hU:U=((u0*b+u1)*b+u2)*p+ur)(hur:ur<p)(AB:u2<b)(eC:0<v1):U/V<=(u0*b+u1)/v1:=by
 by_cases rC:V=0
 .grind
 .refine (tk eC).2 ?_;have h1:=Nat.div_mul_le_self U V;generalize U/V=q at h1 ⊢;have h2:q*v1*(b*p)<=q*V:=by
   rw[hV,y5]
   grind
  have h3:U<(u0*b+u1+1)*(b*p):=by
   have:(u0*b+u1)*b+u2+1<=(u0*b+u1+1)*b:=by grind
   have:=yL p this
   grind
  have h4:q*v1*(b*p)<(u0*b+u1+1)*(b*p):=by lia
  have:=uA h4
  lia
def X8(hV:V=(v1*b+v2)*p+vr)(hU:U=((u0*b+u1)*b+u2)*p+ur)(Kj:vr<p)(cE:v2<b)(h:U<b*V):u0<=v1:=by
 refine Nat.le_of_lt_succ ?_;have h1:V<(v1+1)*(b*p):=by
  have:v1*b+v2+1<=(v1+1)*b:=by grind
  have:=yL p this
  grind
 have h2:u0*(b*(b*p))<=U:=by
  grind
 have h3:=yR b (uk h1);have e:b*((v1+1)*(b*p))=(v1+1)*(b*(b*p)):=by grind
 rw[e] at h3;have h4:u0*(b*(b*p))<(v1+1)*(b*(b*p)):=xY h2 (yE h h3);exact uA h4
end
end
section
variable {P:aE}{L:Lib}{f:bZ}{F:Nat->bZ}
def B8(f:bZ)(F:Nat->bZ):Prop:=∀c s r,f c s=D5 r->∃n,F n c s=D5 r
def Mon(F:Nat->bZ):Prop:=∀n m,n<=m->Le (F n) (F m)
def KO(h:B8 f F)(n:Nat)(ap:List AV)(r:AV)(hr:bQ P L f n ap=D5 r):∃k,bQ P L (F k) n ap=D5 r:=by
 unfold bQ at hr ⊢
 cases hL:L.pure n with
 | some sp=>exact⟨0,by simpa only[hL] using hr⟩
 | none=>
  simp only[hL] at hr ⊢
  cases hP:P n with
  | none=>simp[hP] at hr
  | some G=>
   simp only[hP] at hr ⊢
   cases hf:f G.body ⟨eL 0 ap,[],0,0⟩ with
   | none=>simp[hf] at hr
   | some q=>
    have⟨k,hk⟩:=h _ _ _ hf
    grind
def PJ(h:B8 f F)(hp:Hp)(ct:Nat)(n:Nat)(ap:List AV)(r:AV×Hp×Nat)(hr:ir P L f hp ct n ap=D5 r):∃k,ir P L (F k) hp ct n ap=D5 r:=by
 unfold ir at hr ⊢
 cases hL:L.heap n with
 | some sp=>exact⟨0,by simpa only[hL] using hr⟩
 | none=>
  simp only[hL] at hr ⊢
  cases hP:P n with
  | none=>simp[hP] at hr
  | some G=>
   simp only[hP] at hr ⊢
   cases hf:f G.body ⟨eL 0 ap,hp,ct,ct⟩ with
   | none=>simp[hf] at hr
   | some q=>
    have⟨k,hk⟩:=h _ _ _ hf
    grind
def WM(h:B8 f F)(hm:Mon F)(hp:Hp)(ct:Nat)(l:Nat)(xs:List AV)(r:AV×Hp×Nat)(hr:iP f hp ct l xs=D5 r):∃k,iP (F k) hp ct l xs=D5 r:=by
 have key:∃k,∀g,Le (F k) g->iP g hp ct l xs=D5 r:=by
  unfold iP at hr
  cases hl:ai hp l with
  | none=>simp[hl] at hr
  | some o=>
   split at hr
   .rename_i tm ps as_ body pe ru
    cases hb:qK tm ps xs with
    | none=>simp[hb] at hr
    | some tm'=>
     simp only[hb] at hr
     cases h1:f as_ ⟨tm',hp,ct,ct⟩ with
     | none=>simp[h1] at hr
     | some q=>
      have⟨k1,ju⟩:=h _ _ _ h1
      split at hr
      .rename_i s1 au0
       split at hr
       .rename_i gO sR BU C4 p7 au1
        cases h2:f body ⟨s1.tm,aV s1.hp l (.lp gO sR BU C4 1 p7),s1.ct,s1.ct⟩ with
        | none=>simp[h2] at hr
        | some q2=>
         have⟨k2,ri⟩:=h _ _ _ h2;refine⟨max k1 k2,fun g hg=>?_⟩;have e1:=hg _ _ _ (hm k1 _ (ud k1 k2) _ _ _ ju);have e2:=hg _ _ _ (hm k2 _ (vT k1 k2) _ _ _ ri);unfold iP
         grind
       .simp at hr
      .simp at hr
   .simp at hr
 have⟨k,hk⟩:=key;exact⟨k,hk _ (fun _ _ _ h=>h)⟩
def Xl(h:B8 f F)(hm:Mon F)(hp:Hp)(ct:Nat)(m:Md)(fv:AV)(xs:List AV)(r:AV×Hp×Nat)(hr:eb P L f hp ct m fv xs=D5 r):∃k,eb P L (F k) hp ct m fv xs=D5 r:=by
 unfold eb at hr ⊢
 split at hr
 .rename_i n first cap
  cases m with
  | pure=>
   cases hz:cf deep hp (first++(xs++cap)) with
   | none=>simp[hz] at hr
   | some q=>
    simp only[hz] at hr ⊢
    cases hc:bQ P L f n q.1 with
    | none=>simp[hc] at hr
    | some u=>
     have⟨k,hk⟩:=KO h n q.1 u hc
     grind
  | own=>
   cases hz:cf deep hp (first++(xs++cap)) with
   | none=>simp[hz] at hr
   | some q=>
    simp only[hz] at hr ⊢
    cases hc:bQ P L f n q.1 with
    | none=>simp[hc] at hr
    | some u=>
     have⟨k,hk⟩:=KO h n q.1 u hc
     grind
  | heap=>exact PJ h _ _ _ _ _ hr
  | dyn=>
   cases hz:aD (first++(xs++cap)) with
   | true=>
    simp only[hz,yr] at hr ⊢
    cases hc:bQ P L f n (first++(xs++cap)) with
    | none=>simp[hc] at hr
    | some u=>
     have⟨k,hk⟩:=KO h n _ u hc
     grind
   | false=>
    simp only[hz,yJ] at hr ⊢;exact PJ h _ _ _ _ _ hr
 .split at hr
  .exact WM h hm _ _ _ _ _ hr
  .exact WM h hm _ _ _ _ _ hr
  .simp at hr
 .simp at hr
def akW(h:B8 f F)(hm:Mon F)(tm:Env)(hp:Hp)(ct:Nat)(o:Op)(r:AV×Hp×Nat)(hr:aW P L f tm hp ct o=D5 r):∃k,aW P L (F k) tm hp ct o=D5 r:=by
 unfold aW at hr ⊢
 split at hr
 .exact Xl h hm _ _ _ _ _ _ hr
 .rename_i rs fv xs
  cases hc:eb P L f hp ct .dyn (aw tm fv) (db tm xs) with
  | none=>simp[hc] at hr
  | some q=>
   have⟨k,hk⟩:=Xl h hm _ _ _ _ _ _ hc
   grind
 all_goals exact⟨0,by simpa only using hr⟩
def P8(h:B8 f F)(hm:Mon F):∀(ops:List aO) (s s':St),cJ P L f ops s=D5 s'->∃k,cJ P L (F k) ops s=D5 s'
 | [],s,s',hr=>⟨0,by simpa only[cJ] using hr⟩
 | ⟨d,gd,o⟩::r,s,s',hr=>by
  simp only[cJ] at hr ⊢
  split at hr
  .rename_i hw
   cases ho:aW P L f s.tm s.hp s.ct o with
   | none=>simp[ho] at hr
   | some q=>
    have⟨k1,ju⟩:=akW h hm _ _ _ _ _ ho;simp only[ho] at hr;have⟨k2,ri⟩:=P8 h hm r _ _ hr;refine⟨max k1 k2,?_⟩;rw[X0 (hm k1 _ (ud k1 k2)) _ _ _ _ _ ju];exact K1 (hm k2 _ (vT k1 k2)) r _ _ ri
  .rename_i hw;exact P8 h hm r _ _ hr
  .simp at hr
def Cy(h:B8 f F)(hm:Mon F):∀(c:VC) (s:St) (r:Ex×St),br P L f c s=D5 r->∃k,br P L (F k) c s=D5 r
 | .skip,s,r,hr=>⟨0,by simpa only[br] using hr⟩
 | .nm ops,s,r,hr=>by
  simp only[br] at hr ⊢
  cases ho:cJ P L f ops s with
  | none=>simp[ho] at hr
  | some s'=>
   have⟨k,hk⟩:=P8 h hm _ _ _ ho
   grind
 | .seq a b,s,r,hr=>by
  simp only[br] at hr ⊢
  cases ha:br P L f a s with
  | none=>simp[ha] at hr
  | some q=>
   have⟨k1,ju⟩:=Cy h hm a s q ha;have⟨ex,s1⟩:=q
   cases ex with
   | normal=>
    simp only[ha] at hr;have⟨k2,ri⟩:=Cy h hm b s1 r hr;refine⟨max k1 k2,?_⟩;rw[qC (hm k1 _ (ud k1 k2)) a s _ ju];exact qC (hm k2 _ (vT k1 k2)) b s1 r ri
   | ret=>exact⟨k1,by rw[ju];simpa only[ha] using hr⟩
   | exit id=>exact⟨k1,by rw[ju];simpa only[ha] using hr⟩
 | .cond x a b,s,r,hr=>by
  simp only[br] at hr ⊢
  split at hr
  .rename_i t ht
   cases t with
   | true=>simp only[yr] at hr ⊢;exact Cy h hm a s r hr
   | false=>simp only[yJ] at hr ⊢;exact Cy h hm b s r hr
  .simp at hr
 | .dz id a,s,r,hr=>by
  simp only[br] at hr ⊢
  cases ha:br P L f a s with
  | none=>simp[ha] at hr
  | some q=>
   have⟨k,hk⟩:=Cy h hm a s q ha
   grind
 | .kp live,s,r,hr=>⟨0,by simpa only[br] using hr⟩
 | .fz ts,s,r,hr=>⟨0,by simpa only[br] using hr⟩
 | .loop live a,s,r,hr=>by
  simp only[br] at hr ⊢
  cases ha:br P L f a (bg live s) with
  | none=>simp[ha] at hr
  | some q=>
   have⟨k1,ju⟩:=Cy h hm a _ q ha;have⟨ex,s1⟩:=q
   cases ex with
   | normal=>
    simp only[ha] at hr;have⟨k2,ri⟩:=h _ _ _ hr;refine⟨max k1 k2,?_⟩;rw[qC (hm k1 _ (ud k1 k2)) a _ _ ju];exact hm k2 _ (vT k1 k2) _ _ _ ri
   | ret=>exact⟨k1,by rw[ju];simpa only[ha] using hr⟩
   | exit id=>exact⟨k1,by rw[ju];simpa only[ha] using hr⟩
 | .rf fv ps as_ body,s,r,hr=>by
  simp only[br] at hr ⊢
  split at hr
  .rename_i n first cap hx
   split at hr
   .grind
   .rename_i hL
    cases hc:ir P L f ((s.ct,.lp s.tm ps as_ body 0 .none)::s.hp) (s.ct+1) n (first++(.fn (.y s.ct) [] []::cap)) with
    | none=>simp[hc] at hr
    | some q=>
     have⟨k,hk⟩:=PJ h _ _ _ _ _ hc
     grind
  .simp at hr
 | .exit id,s,r,hr=>⟨0,by simpa only[br] using hr⟩
 | .ret,s,r,hr=>⟨0,by simpa only[br] using hr⟩
end
section
variable (P:aE)(L:Lib)
noncomputable def D:bZ:=fun c s=>@dite _ (∃r n,ev P L n c s=D5 r) (Classical.propDecidable _) (fun h=>D5 h.choose) (fun _=>D6)
variable {P L}
def adm{c:VC}{s:St}{r:Ex×St}{n:Nat}(h:ev P L n c s=D5 r):D P L c s=D5 r:=by
 have hx:∃r n,ev P L n c s=D5 r:=⟨r,n,h⟩;unfold D;have⟨m,hm⟩:=hx.choose_spec;have e1:=Q1 P L (ud n m) _ _ _ h;have e2:=Q1 P L (vT n m) _ _ _ hm
 grind
def Tf{c:VC}{s:St}{r:Ex×St}(h:D P L c s=D5 r):∃n,ev P L n c s=D5 r:=by
 unfold D at h;by_cases hx:∃r n,ev P L n c s=D5 r
 .grind
 .grind
def ave(n:Nat):Le (ev P L n) (D P L):=fun _ _ _ h=>adm h
def abX:B8 (D P L) (ev P L):=fun _ _ _ h=>Tf h
def aqd:Mon (ev P L):=fun _ _ h=>Q1 P L h
def km(c:VC)(s:St):D P L c s=br P L (D P L) c s:=by
 cases h:D P L c s with
 | some r=>
  have⟨n,hn⟩:=Tf h
  cases n with
  | zero=>rw[HC] at hn;cases hn
  | succ n=>rw[LR] at hn;exact (qC (ave n) c s r hn).symm
 | none=>
  cases hs:br P L (D P L) c s with
  | none=>rfl
  | some r=>
   have⟨n,hn⟩:=Cy abX aqd c s r hs;rw[<-LR] at hn;rw[adm hn] at h;cases h
def aaJ{f:Nat}{ap:List AV}{r:AV}(h:bQ P L (D P L) f ap=D5 r):∃n,Un P L n f ap=D5 r:=KO abX f ap r h
end
section
open Go (IntKind BinOp UnOp)
structure Has(P:aE)(L:Lib)(n:Nat)(F:az):Prop where
 pure:L.pure n=D6
 heap:L.heap n=D6
 code:P n=D5 F
noncomputable def zU(P:aE)(L:Lib)(r:Option (Ex×St))(b:VC):Option (Ex×St):=match r with | some (.normal,s)=>D P L b s | r=>r
def zV(id:Nat)(r:Option (Ex×St)):Option (Ex×St):=match r with | some (.exit j,s)=>bif yo j id then D5 (.normal,s) else D5 (.exit j,s) | r=>r
noncomputable def IJ(P:aE)(L:Lib)(live:List Nat)(a:VC)(r:Option (Ex×St)):Option (Ex×St):=match r with | some (.normal,s)=>D P L (.loop live a) s | r=>r
def norm(r:Option St):Option (Ex×St):=match r with | some s=>D5 (.normal,s) | none=>D6
noncomputable def MR(P:aE)(L:Lib)(v:AV)(a b:VC)(s:St):Option (Ex×St):=match v with | .bool t=>bif t then D P L a s else D P L b s | _=>D6
def aqe(s:St):D P L .skip s=D5 (.normal,s):=by rw[km];rfl
def aqf(id:Nat)(s:St):D P L (.exit id) s=D5 (.exit id,s):=by rw[km];rfl
def att(s:St):D P L .ret s=D5 (.ret,s):=by rw[km];rfl
def adn(live:List Nat)(s:St):D P L (.kp live) s=D5 (.normal,bg live s):=by rw[km];rfl
def avf(ts:List Nat)(s:St):D P L (.fz ts) s=norm (pD ts s):=by rw[km];rfl
def atu(ops:List aO)(s:St):D P L (.nm ops) s=norm (cJ P L (D P L) ops s):=by rw[km];rfl
def By(a b:VC)(s:St):D P L (.seq a b) s=zU P L (D P L a s) b:=by
 rw[km,km a];simp only[br,zU]
 cases br P L (D P L) a s with
 | none=>rfl
 | some q=>
  have⟨e,s1⟩:=q
  cases e with
  | normal=>exact (km b s1).symm
  | ret=>rfl
  | exit id=>rfl
def aqg(x:X)(a b:VC)(s:St):D P L (.cond x a b) s=MR P L (aw s.tm x) a b s:=by
 rw[km];simp only[br,MR]
 cases aw s.tm x with
 | bool t=>
  cases t with
  | true=>exact (km a s).symm
  | false=>exact (km b s).symm
 | _=>rfl
def atv(id:Nat)(a:VC)(s:St):D P L (.dz id a) s=zV id (D P L a s):=by
 rw[km,km a];simp only[br,zV]
 cases br P L (D P L) a s with
 | none=>rfl
 | some q=>have⟨e,s1⟩:=q;cases e<;>rfl
def Mo(live:List Nat)(a:VC)(s:St):D P L (.loop live a) s=IJ P L live a (D P L a (bg live s)):=by
 rw[km,km a];simp only[br,IJ]
 cases br P L (D P L) a (bg live s) with
 | none=>rfl
 | some q=>have⟨e,s1⟩:=q;cases e<;>rfl
def ph(s:St)(b:VC):zU P L (D5 (.normal,s)) b=D P L b s:=rfl
def am1(s:St)(b:VC):zU P L (D5 (.ret,s)) b=D5 (.ret,s):=rfl
def am2(id:Nat)(s:St)(b:VC):zU P L (D5 (.exit id,s)) b=D5 (.exit id,s):=rfl
def Z4(live:List Nat)(a:VC)(s:St):IJ P L live a (D5 (.normal,s))=D P L (.loop live a) s:=rfl
def am3(live:List Nat)(a:VC)(s:St):IJ P L live a (D5 (.ret,s))=D5 (.ret,s):=rfl
def am4(live:List Nat)(a:VC)(id:Nat)(s:St):IJ P L live a (D5 (.exit id,s))=D5 (.exit id,s):=rfl
def am5(id:Nat)(s:St):zV id (D5 (.normal,s))=D5 (.normal,s):=rfl
def am6(id:Nat)(s:St):zV id (D5 (.ret,s))=D5 (.ret,s):=rfl
def Z5(id:Nat)(s:St):zV id (D5 (.exit id,s))=D5 (.normal,s):=by simp only[zV,wC,yr]
def am7{id j:Nat}(s:St)(h:j≠id):zV id (D5 (.exit j,s))=D5 (.exit j,s):=by
 have:yo j id=ycH:=by
  cases hq:yo j id with
  | false=>rfl
  | true=>exact absurd (yf hq) h
 simp only[zV,this,yJ]
def aqh(s:St):norm (D5 s)=D5 (.normal,s):=rfl
def aqi:norm D6=D6:=rfl
def am8(a b:VC)(s:St):MR P L (.bool ycG) a b s=D P L a s:=rfl
def am9(a b:VC)(s:St):MR P L (.bool ycH) a b s=D P L b s:=rfl
noncomputable def Si(P:aE)(L:Lib)(d:Option Nat)(r:List aO)(tm:Env)(base:Nat)(q:fY):Option St:=
 match q with | some (v,hp,ct)=>cJ P L (D P L) r ⟨put d v tm,hp,ct,base⟩ | none=>D6
noncomputable def CX(P:aE)(L:Lib)(v:AV)(b:Bool)(d:Option Nat)(o:Op)(r:List aO)(s:St):Option St:=
 match v with
 | .bool c=>bif c==b then cJ P L (D P L) (⟨d,D6,o⟩::r) s else cJ P L (D P L) r ⟨put d (.ay []) s.tm,s.hp,s.ct,s.base⟩
 | .ay []=>cJ P L (D P L) r ⟨put d (.ay []) s.tm,s.hp,s.ct,s.base⟩
 | _=>D6
def ana(s:St):cJ P L (D P L) [] s=D5 s:=rfl
def akX(d:Option Nat)(o:Op)(r:List aO)(tm:Env)(hp:Hp)(ct base:Nat):
  cJ P L (D P L) (⟨d,D6,o⟩::r) ⟨tm,hp,ct,base⟩=Si P L d r tm base (aW P L (D P L) tm hp ct o):=by
 simp only[cJ,Si]
 grind
def ai4(d:Option Nat)(t:Nat)(b:Bool)(o:Op)(r:List aO)(tm:Env)(hp:Hp)(ct base:Nat):
  cJ P L (D P L) (⟨d,D5 (t,b),o⟩::r) ⟨tm,hp,ct,base⟩=CX P L (aj tm t) b d o r ⟨tm,hp,ct,base⟩:=by
 simp only[cJ,CX]
 cases aj tm t with
 | bool c=>
  simp only
  cases hc:(c==b) with
  | true=>simp only[yr]
  | false=>simp only[yJ]
 | ay vs=>cases vs<;>rfl
 | _=>rfl
def anb(d:Option Nat)(r:List aO)(tm:Env)(base:Nat)(v:AV)(hp:Hp)(ct:Nat):Si P L d r tm base (D5 (v,hp,ct))=cJ P L (D P L) r ⟨put d v tm,hp,ct,base⟩:=rfl
def atw(i:Nat)(v:AV)(tm:Env):put (D5 i) v tm=(i,v)::tm:=rfl
def atx(v:AV)(tm:Env):put D6 v tm=tm:=rfl
def akY(d:Option Nat)(o:Op)(r:List aO)(s:St):CX P L (.bool ycG) ycG d o r s=cJ P L (D P L) (⟨d,D6,o⟩::r) s:=rfl
def akZ(d:Option Nat)(o:Op)(r:List aO)(s:St):CX P L (.bool ycH) ycH d o r s=cJ P L (D P L) (⟨d,D6,o⟩::r) s:=rfl
def ak0(d:Option Nat)(o:Op)(r:List aO)(tm:Env)(hp:Hp)(ct base:Nat):CX P L (.bool ycG) ycH d o r ⟨tm,hp,ct,base⟩=cJ P L (D P L) r ⟨put d (.ay []) tm,hp,ct,base⟩:=rfl
def ak1(d:Option Nat)(o:Op)(r:List aO)(tm:Env)(hp:Hp)(ct base:Nat):CX P L (.bool ycH) ycG d o r ⟨tm,hp,ct,base⟩=cJ P L (D P L) r ⟨put d (.ay []) tm,hp,ct,base⟩:=rfl
def anc(b:Bool)(d:Option Nat)(o:Op)(r:List aO)(tm:Env)(hp:Hp)(ct base:Nat):CX P L (.ay []) b d o r ⟨tm,hp,ct,base⟩=cJ P L (D P L) r ⟨put d (.ay []) tm,hp,ct,base⟩:=rfl
def iR{j i:Nat}(h:j≠i):yo j i=ycH:=by
 cases hq:yo j i with
 | false=>rfl
 | true=>exact absurd (yf hq) h
def aqj(tm:Env)(i:Nat):aw tm (.t i)=aj tm i:=rfl
def aqk(tm:Env)(v:AV):aw tm (.c v)=v:=rfl
def ai5(tm:Env):db tm []=[]:=rfl
def ahX(tm:Env)(x:X)(r:List X):db tm (x::r)=aw tm x::db tm r:=rfl
def ak2(i:Nat)(v:AV)(r:Env):aj ((i,v)::r) i=v:=by simp only[aj,wC,yr]
def ai6{j i:Nat}(v:AV)(r:Env)(h:j≠i):aj ((j,v)::r) i=aj r i:=by simp only[aj,iR h,yJ]
def ff(i:Nat)(o:Obj)(r:Hp):ai ((i,o)::r) i=D5 o:=by simp only[ai,wC,yr]
def di{j i:Nat}(o:Obj)(r:Hp)(h:j≠i):ai ((j,o)::r) i=ai r i:=by simp only[ai,iR h,yJ]
def YZ(i:Nat)(o u:Obj)(r:Hp):aV ((i,o)::r) i u=(i,u)::r:=by simp only[aV,wC,yr]
def X9{j i:Nat}(o u:Obj)(r:Hp)(h:j≠i):aV ((j,o)::r) i u=(j,o)::aV r i u:=by simp only[aV,iR h,yJ]
def ak3(i:Nat):cl [] i=[]:=rfl
def Hr(i:Nat)(o:Obj)(r:Hp):cl ((i,o)::r) i=cl r i:=by simp only[cl,wC,yr]
def AY{j i:Nat}(o:Obj)(r:Hp)(h:j≠i):cl ((j,o)::r) i=(j,o)::cl r i:=by simp only[cl,iR h,yJ]
def rd(hp:Hp)(ct:Nat)(q:Option AV):fY:=match q with | some v=>D5 (v,hp,ct) | none=>D6
def mk(hp:Hp)(ct:Nat)(q:Option (AV×Obj)):fY:=match q with | some (v,b)=>D5 (v,(ct,b)::hp,ct+1) | none=>D6
def avg(hp:Hp)(ct:Nat)(v:AV):rd hp ct (D5 v)=D5 (v,hp,ct):=rfl
def avh(hp:Hp)(ct:Nat)(v:AV)(b:Obj):mk hp ct (D5 (v,b))=D5 (v,(ct,b)::hp,ct+1):=rfl
def Sj(c a b:AV):Option AV:=match c with | .bool t=>D5 (bif t then a else b) | _=>D6
def Kk(k:Nat->Option AV)(n:Option Nat):Option AV:=match n with | some i=>k i | none=>D6
def abY(r:Option (List AV)):Option AV:=match r with | some cs=>D5 (.agg cs) | none=>D6
def Fa(ne:Bool)(r:Option Bool):Option AV:=match r with | some b=>D5 (.bool (ne !=b)) | none=>D6
def Jl(i:Nat):AV->Option AV | .ay vs=>vs[i]? | _=>D6
section
variable {f:bZ}{tm:Env}{hp:Hp}{ct:Nat}
def aql(x:X):aW P L f tm hp ct (.pU x)=D5 (aw tm x,hp,ct):=rfl
def ane(c a b:X):aW P L f tm hp ct (.pick c a b)=rd hp ct (Sj (aw tm c) (aw tm a) (aw tm b)):=by
 rfl
def ak4(z:List AV)(ps:List (Nat×Nat×X)):aW P L f tm hp ct (.CZ z ps)=rd hp ct (abY (fill tm z ps)):=by
 rfl
def aty(sz:Nat)(ag:Bool)(x:X):aW P L f tm hp ct (.ld sz ag x)=rd hp ct (fD hp sz ag (aw tm x)):=rfl
def aqm(op:BinOp)(x y:X):aW P L f tm hp ct (.bin op x y)=rd hp ct (binOp op (aw tm x) (aw tm y)):=rfl
def atz(ne:Bool)(k:Oo)(x y:X):aW P L f tm hp ct (.eq ne k x y)=rd hp ct (Fa ne (jr k (aw tm x) (aw tm y))):=by
 rfl
def atA(op:UnOp)(x:X):aW P L f tm hp ct (.un op x)=rd hp ct (unOp op (aw tm x)):=rfl
def atB(k:Conv)(x:X):aW P L f tm hp ct (.cv k x)=rd hp ct (kM k (aw tm x)):=rfl
def aqn(g:Fr)(a b:List X):aW P L f tm hp ct (.Fm g a b)=D5 (.fn g (db tm a) (db tm b),hp,ct):=rfl
def aqo(k:Cut)(x:X)(lo hi:Option X):aW P L f tm hp ct (.pV k x lo hi)=rd hp ct (eP hp k (aw tm x) tm lo hi):=rfl
def aqp(k:Nat)(x:X):aW P L f tm hp ct (.off k x)=rd hp ct (Bo k (aw tm x)):=rfl
def aqq(o sz:Nat)(ag:Bool)(x:X):aW P L f tm hp ct (.JM o sz ag x)=rd hp ct (MD o sz ag (aw tm x)):=rfl
def aqr(sz:Nat)(x i:X):aW P L f tm hp ct (.bD sz x i)=rd hp ct (Kk (fun j=>jn sz j (aw tm x)) (cF (aw tm i))):=by
 rfl
def aqs(n sz:Nat)(x i:X):aW P L f tm hp ct (.Fo n sz x i)=rd hp ct (Kk (fun j=>ME n sz j (aw tm x)) (cF (aw tm i))):=by
 rfl
def aqt(x i:X):aW P L f tm hp ct (.Fp x i)=rd hp ct (Kk (fun j=>Bp j (aw tm x)) (cF (aw tm i))):=by
 rfl
def aqu(n sz:Nat)(ag:Bool)(x i:X):aW P L f tm hp ct (.Fq n sz ag x i)=rd hp ct (Kk (fun j=>MF n sz ag j (aw tm x)) (cF (aw tm i))):=by
 rfl
def aqv(i:Nat)(x:X):aW P L f tm hp ct (.ext i x)=rd hp ct (Jl i (aw tm x)):=by
 rfl
def aqw(k:Nat)(x:X):aW P L f tm hp ct (.len k x)=rd hp ct (iT hp k (aw tm x)):=rfl
def aqx(sz:Nat)(x:X):aW P L f tm hp ct (.box sz x)=mk hp ct (cg tm hp ct (.box sz x)):=rfl
def ang(n sz:Nat)(z:List AV)(ps:List (Nat×Nat×X)):aW P L f tm hp ct (.iY n sz z ps)=mk hp ct (cg tm hp ct (.iY n sz z ps)):=rfl
def aqy(sz by':Nat)(z:List AV)(l c:X):aW P L f tm hp ct (.oh sz by' z l c)=mk hp ct (cg tm hp ct (.oh sz by' z l c)):=rfl
def aqz:aW P L f tm hp ct .Ao=D5 (.map ct,(ct,.mp ycG [] [])::hp,ct+1):=rfl
def aqA(x:X):aW P L f tm hp ct (.pX x)=mk hp ct (cg tm hp ct (.pX x)):=rfl
def atD(sz:Nat)(x v:X):aW P L f tm hp ct (.st sz x v)=bV tm hp ct (.st sz x v):=rfl
def aqB(sz by':Nat)(s x:X):aW P L f tm hp ct (.df sz by' s x)=bV tm hp ct (.df sz by' s x):=rfl
def MS(hp:Hp)(ct:Nat)(r:Option AV):fY:=match r with | some v=>D5 (shut v,hp,ct) | none=>D6
def NQ(hp:Hp)(ct:Nat)(r:Option AV):fY:=match r with | some v=>D5 (own hp ct v) | none=>D6
def Sk(P:aE)(L:Lib)(f:bZ)(ct n:Nat)(q:Option (List AV×Hp)):fY:=match q with | some (ap,hp)=>MS hp ct (bQ P L f n ap) | none=>D6
def Sl(P:aE)(L:Lib)(f:bZ)(ct n:Nat)(q:Option (List AV×Hp)):fY:=match q with | some (ap,hp)=>NQ hp ct (bQ P L f n ap) | none=>D6
def Sm(P:aE)(L:Lib)(f:bZ)(hp:Hp)(ct:Nat)(fv:AV)(xs:List AV):fY:=eb P L f hp ct .pure fv xs
def Sn(P:aE)(L:Lib)(f:bZ)(hp:Hp)(ct:Nat)(fv:AV)(xs:List AV):fY:=eb P L f hp ct .own fv xs
def ak5(g:X)(xs:List X):aW P L f tm hp ct (.call .pure g xs)=Sm P L f hp ct (aw tm g) (db tm xs):=rfl
def ak6(g:X)(xs:List X):aW P L f tm hp ct (.call .own g xs)=Sn P L f hp ct (aw tm g) (db tm xs):=rfl
def ak7(g:X)(xs:List X):aW P L f tm hp ct (.call .heap g xs)=eb P L f hp ct .heap (aw tm g) (db tm xs):=rfl
def anh(n:Nat)(first cap xs:List AV):Sm P L f hp ct (.fn (.f n) first cap) xs=Sk P L f ct n (cf deep hp (first++(xs++cap))):=by
 simp only[Sm,eb,Sk,MS]
 cases cf deep hp (first++(xs++cap)) with
 | none=>rfl
 | some q=>cases bQ P L f n q.1<;>rfl
def ani(n:Nat)(first cap xs:List AV):Sn P L f hp ct (.fn (.f n) first cap) xs=Sl P L f ct n (cf deep hp (first++(xs++cap))):=by
 simp only[Sn,eb,Sl,NQ]
 cases cf deep hp (first++(xs++cap)) with
 | none=>rfl
 | some q=>cases bQ P L f n q.1<;>rfl
def anj(n:Nat)(ap:List AV):Sk P L f ct n (D5 (ap,hp))=MS hp ct (bQ P L f n ap):=rfl
def ank(n:Nat)(ap:List AV):Sl P L f ct n (D5 (ap,hp))=NQ hp ct (bQ P L f n ap):=rfl
def anl(v:AV):MS hp ct (D5 v)=D5 (shut v,hp,ct):=rfl
def aqC(v:AV):NQ hp ct (D5 v)=D5 (own hp ct v):=rfl
def NR(hp:Hp)(r:Option AV):Option AV:=match r with | some v=>result hp v | none=>D6
def lF(rs:List RV)(q:Option (Ex×St)):Option AV:=
 match q with
 | some (.normal,s) | some (.ret,s)=>NR s.hp (ig s rs)
 | _=>D6
def aH{n:Nat}{F:az}(h:Has P L n F)(ap:List AV):bQ P L f n ap=lF F.eA (f F.body ⟨eL 0 ap,[],0,0⟩):=by
 simp only[bQ,h.pure,h.code]
 cases hq:f F.body ⟨eL 0 ap,[],0,0⟩ with
 | none=>rfl
 | some q=>
  have⟨e,s⟩:=q
  cases e with
  | normal=>rfl
  | ret=>rfl
  | exit id=>rfl
def aqD(rs:List RV)(s:St):lF rs (D5 (.normal,s))=NR s.hp (ig s rs):=rfl
def aqE(rs:List RV)(s:St):lF rs (D5 (.ret,s))=NR s.hp (ig s rs):=rfl
def aqF(v:AV):NR hp (D5 v)=result hp v:=rfl
def Tg(r:RV)(s:St):ig s [r]=results1 s r:=by
 simp only[ig,kY];cases results1 s r<;>rfl
def ado(r:Option (List AV)):Option AV:=match r with | some vs=>D5 (.ay vs) | none=>D6
def avi(r q:RV)(l:List RV)(s:St):ig s (r::q::l)=ado (kY s (r::q::l)):=by
 simp only[ig,kY];cases results1 s r<;>cases results1 s q<;>cases kY s l<;>rfl
def abZ(r:Option AV)(l:Option (List AV)):Option (List AV):=match r,l with | some v,D5 vs=>D5 (v::vs) | _,_=>D6
def ak8(s:St):kY s []=D5 []:=rfl
def ai7(r:RV)(l:List RV)(s:St):kY s (r::l)=abZ (results1 s r) (kY s l):=rfl
def anm(v:AV)(vs:List AV):abZ (D5 v) (D5 vs)=D5 (v::vs):=rfl
def aqG(vs:List AV):ado (D5 vs)=D5 (.ay vs):=rfl
def So(i:Nat)(s:St):results1 s (.t i)=D5 (aj s.tm i):=rfl
def atE(a:AV):eL 0 [a]=[(0,a)]:=rfl
def atF(a b:AV):eL 0 [a,b]=[(0,a),(1,b)]:=rfl
def atG(a b c:AV):eL 0 [a,b,c]=[(0,a),(1,b),(2,c)]:=rfl
def atH(a b c d:AV):eL 0 [a,b,c,d]=[(0,a),(1,b),(2,c),(3,d)]:=rfl
def atI(a b c d e:AV):eL 0 [a,b,c,d,e]=[(0,a),(1,b),(2,c),(3,d),(4,e)]:=rfl
def ahY(k:yZ)(n:Int):result hp (.int k n)=D5 (.int k n):=rfl
def ahq(b:Bool):result hp (.bool b)=D5 (.bool b):=rfl
def ahZ(s:List Nat):result hp (.str s)=D5 (.str s):=rfl
def ahr:result hp .ah=D5 .ah:=rfl
def ah0(e:Bool)(n:Nat)(cs:List AV):result hp (.aq e n cs)=D5 (.aq e n cs):=rfl
def shut_int(k:yZ)(n:Int):shut (.int k n)=.int k n:=rfl
def shut_bool(b:Bool):shut (.bool b)=.bool b:=rfl
def ak9(s:List Nat):shut (.str s)=.str s:=rfl
def ai8:shut .ah=.ah:=rfl
def ala(e:Bool)(n:Nat)(cs:List AV):shut (.aq e n cs)=.aq e n cs:=rfl
def alb(e:Bool)(sz n:Nat)(cs:List AV):shut (.cu e sz n cs)=.aq e n cs:=rfl
def bM(cs:List AV):shut (.agg cs)=.agg cs:=rfl
def ann(g:Fr)(a b:List AV):shut (.fn g a b)=.fn g a b:=rfl
def QD(vs:List AV):shut (.ay vs)=.ay (C0 vs):=rfl
def P9:C0 []=[]:=rfl
def PK(v:AV)(r:List AV):C0 (v::r)=bX v::C0 r:=rfl
def ai9(k:yZ)(n:Int):bX (.int k n)=.int k n:=rfl
def ah1(b:Bool):bX (.bool b)=.bool b:=rfl
def aja(s:List Nat):bX (.str s)=.str s:=rfl
def ah2:bX .ah=.ah:=rfl
def ajb(e:Bool)(n:Nat)(cs:List AV):bX (.aq e n cs)=.aq e n cs:=rfl
def ajc(e:Bool)(sz n:Nat)(cs:List AV):bX (.cu e sz n cs)=.aq e n cs:=rfl
def AZ(cs:List AV):bX (.agg cs)=.agg cs:=rfl
def Th(n:Nat)(r:List AV)(q:Option (AV×Hp)):Option (List AV×Hp):=match q with | some (v,hp)=>(match cf n hp r with | some (vs,ic)=>D5 (v::vs,ic) | none=>D6) | none=>D6
def adp(v:AV)(q:Option (List AV×Hp)):Option (List AV×Hp):=match q with | some (vs,hp)=>D5 (v::vs,hp) | none=>D6
def alc(n:Nat):cf (n+1) hp []=D5 ([],hp):=rfl
def Ya(n:Nat)(v:AV)(r:List AV):cf (n+1) hp (v::r)=Th n r (freeze n hp v):=by
 simp only[cf,Th];cases freeze n hp v<;>rfl
def aaK(n:Nat)(r:List AV)(v:AV):Th n r (D5 (v,hp))=adp v (cf n hp r):=by
 rfl
def aaL(v:AV)(vs:List AV):adp v (D5 (vs,hp))=D5 (v::vs,hp):=rfl
def ano(n:Nat)(k:yZ)(a:Int):freeze (n+1) hp (.int k a)=D5 (.int k a,hp):=rfl
def ald(n:Nat)(b:Bool):freeze (n+1) hp (.bool b)=D5 (.bool b,hp):=rfl
def anp(n:Nat)(s:List Nat):freeze (n+1) hp (.str s)=D5 (.str s,hp):=rfl
def ale(n:Nat):freeze (n+1) hp .ah=D5 (.ah,hp):=rfl
def anq(n:Nat)(e:Bool)(k:Nat)(cs:List AV):freeze (n+1) hp (.aq e k cs)=D5 (.aq e k cs,hp):=rfl
def alf(n:Nat)(cs:List AV):freeze (n+1) hp (.bJ cs)=D5 (.bJ cs,hp):=rfl
end
section
variable {hp:Hp}
def aqH(a b:AV):Sj (.bool ycG) a b=D5 a:=rfl
def aqI(a b:AV):Sj (.bool ycH) a b=D5 b:=rfl
def atJ(k:Nat->Option AV)(n:Nat):Kk k (D5 n)=k n:=rfl
def ah3(k:yZ)(n:Nat):cF (.int k (n:Int))=D5 n:=rfl
def aqJ(k:yZ):cF (.int k 0)=D5 0:=rfl
def aqK(k:yZ):cF (.int k 1)=D5 1:=rfl
def aqL(k:yZ):cF (.int k 2)=D5 2:=rfl
def aqM(k:yZ):cF (.int k 3)=D5 3:=rfl
def aqN(k:yZ):cF (.int k 4)=D5 4:=rfl
def aqO(k:yZ):cF (.int k 5)=D5 5:=rfl
def aqP(k:yZ):cF (.int k 6)=D5 6:=rfl
def aqQ(k:yZ):cF (.int k 7)=D5 7:=rfl
def aqR(k:yZ):cF (.int k 8)=D5 8:=rfl
def aqS(k:yZ):cF (.int k 9)=D5 9:=rfl
def anr(cs:List AV):abY (D5 cs)=D5 (.agg cs):=rfl
def Z6(k:yZ)(a b:Int):binOp .add (.int k a) (.int k b)=D5 (.int k (k.wrap (a+b))):=by simp[binOp,lk]
def LU(k:yZ)(a b:Int):binOp .sub (.int k a) (.int k b)=D5 (.int k (k.wrap (a-b))):=by simp[binOp,lk]
def Z7(k:yZ)(a b:Int):binOp .mul (.int k a) (.int k b)=D5 (.int k (k.wrap (a*b))):=by simp[binOp,lk]
def dE(k:yZ)(a b:Int)(h:b≠0):binOp .quo (.int k a) (.int k b)=D5 (.int k (k.wrap (a.tdiv b))):=by simp[binOp,lk,h]
def dY(k:yZ)(a b:Int)(h:b≠0):binOp .rem (.int k a) (.int k b)=D5 (.int k (a.tmod b)):=by simp[binOp,lk,h]
def ans(k:yZ)(a b:Int):binOp .eql (.int k a) (.int k b)=D5 (.bool (decide (a=b))):=by
 simp[binOp,lk,intCmp,BEq.beq]
def ant(k:yZ)(a b:Int):binOp .neq (.int k a) (.int k b)=D5 (.bool (!decide (a=b))):=by
 simp[binOp,lk,intCmp,bne,BEq.beq]
def anu(k:yZ)(a b:Int):binOp .lss (.int k a) (.int k b)=D5 (.bool (decide (a<b))):=by simp[binOp,lk,intCmp]
def anv(k:yZ)(a b:Int):binOp .leq (.int k a) (.int k b)=D5 (.bool (decide (a<=b))):=by simp[binOp,lk,intCmp]
def anw(k:yZ)(a b:Int):binOp .gtr (.int k a) (.int k b)=D5 (.bool (decide (b<a))):=by simp[binOp,lk,intCmp]
def anx(k:yZ)(a b:Int):binOp .geq (.int k a) (.int k b)=D5 (.bool (decide (b<=a))):=by simp[binOp,lk,intCmp]
def aqT(k:yZ)(a:Int):unOp .neg (.int k a)=D5 (.int k (k.wrap (0-a))):=rfl
def aqU(b:Bool):unOp .not (.bool b)=D5 (.bool !b):=rfl
def alg:iT hp 1 .ah=D5 (.int .i64 0):=rfl
def anz(e:Bool)(n:Nat)(cs:List AV):iT hp 1 (.aq e n cs)=D5 (.int .i64 n):=rfl
def anA(id o n:Nat):iT hp 1 (.av id o n)=D5 (.int .i64 n):=rfl
def anB(s:List Nat):iT hp 0 (.str s)=D5 (.int .i64 s.length):=rfl
def Q4{sz i n:Nat}(e:Bool)(cs:List AV)(h:i<n):jn sz i (.aq e n cs)=D5 (.bJ (cs.drop (i*sz))):=by
 have hb:yF i n=ycG:=yt h;simp only[jn]
 grind
def cS{sz i n:Nat}(id o:Nat)(h:i<n):jn sz i (.av id o n)=D5 (.ptr id (o+i*sz)):=by
 have hb:yF i n=ycG:=yt h;simp only[jn]
 grind
def alh(v:AV)(cs:List AV):fD hp 1 ycH (.bJ (v::cs))=D5 v:=rfl
def OV(sz:Nat)(ag:Bool)(o:Nat)(q:Option Obj):Option AV:=match q with | some (.cells _ _ _ _ cs)=>gN sz ag (cs.drop o) | _=>D6
def aqV(sz:Nat)(ag:Bool)(id o:Nat):fD hp sz ag (.ptr id o)=OV sz ag o (ai hp id):=by
 rfl
def atK(sz:Nat)(ag:Bool)(o:Nat)(rw pu ex:Bool)(z:Nat)(cs:List AV):OV sz ag o (D5 (.cells rw pu ex z cs))=gN sz ag (cs.drop o):=rfl
def atL(sz:Nat)(v:AV)(cs:List AV):gN sz ycH (v::cs)=D5 v:=rfl
def avj(a:AV)(l:List AV):Jl 0 (.ay (a::l))=D5 a:=rfl
def ext1(a b:AV)(l:List AV):Jl 1 (.ay (a::b::l))=D5 b:=rfl
def avk(a b c:AV)(l:List AV):Jl 2 (.ay (a::b::c::l))=D5 c:=rfl
def avl(a b c d:AV)(l:List AV):Jl 3 (.ay (a::b::c::d::l))=D5 d:=rfl
end
def nY:Env->Bool
 | []=>ycG
 | (_,v)::r=>aS v&&nY r
mutual
def dj:∀{v:AV},aS v=ycG->refs v=[]
 | .int _ _,_ | .bool _,_ | .au _ _,_ | .cK _ _ _,_ | .str _,_ | .jq,_ | .bJ _,_ | .ah,_ | .aq _ _ _,_ | .fR,_ | .iw,_ | .iz _ _,_ | .undef,_=>rfl
 | .ptr _ _,h | .av _ _ _,h | .map _,h | .it _,h | .cu _ _ _ _,h=>by simp[aS] at h
 | .fn (.y _) _ _,h=>by simp[aS] at h
 | .fn (.f _) first cap,h=>by
  simp only[aS,ye] at h;simp only[refs,Hb h.1,Hb h.2,wj]
 | .agg cs,h=>by simp only[aS] at h;simp only[refs,Hb h]
 | .ay cs,h=>by simp only[aS] at h;simp only[refs,Hb h]
def Hb:∀{vs:List AV},aD vs=ycG->eG vs=[]
 | [],_=>rfl
 | v::r,h=>by
  simp only[aD,ye] at h;simp only[eG,dj h.1,Hb h.2,wj]
end
mutual
def oR(f:Nat->Option Nat):∀{v:AV},aS v=ycG->bi f v=v
 | .int _ _,_ | .bool _,_ | .au _ _,_ | .cK _ _ _,_ | .str _,_ | .jq,_ | .bJ _,_ | .ah,_ | .aq _ _ _,_ | .fR,_ | .iw,_ | .iz _ _,_ | .undef,_=>rfl
 | .ptr _ _,h | .av _ _ _,h | .map _,h | .it _,h | .cu _ _ _ _,h=>by simp[aS] at h
 | .fn (.y _) _ _,h=>by simp[aS] at h
 | .fn (.f _) first cap,h=>by
  simp only[aS,ye] at h;simp only[bi,Hi f h.1,Hi f h.2]
 | .agg cs,h=>by simp only[aS] at h;simp only[bi,Hi f h]
 | .ay cs,h=>by simp only[aS] at h;simp only[bi,Hi f h]
def Hi(f:Nat->Option Nat):∀{vs:List AV},aD vs=ycG->dd f vs=vs
 | [],_=>rfl
 | v::r,h=>by
  simp only[aD,ye] at h;simp only[dd,oR f h.1,Hi f h.2]
end
def PL:∀{tm:Env},nY tm=ycG->ck tm=[]
 | [],_=>rfl
 | (i,v)::r,h=>by
  simp only[nY,ye] at h;simp only[ck,dj h.1,PL h.2,wj]
def Yb(f:Nat->Option Nat):∀{tm:Env},nY tm=ycG->dt f tm=tm
 | [],_=>rfl
 | (i,v)::r,h=>by
  simp only[nY,ye] at h;simp only[dt,oR f h.1,Yb f h.2]
def Pr{live:List Nat}{tm:Env}{ct:Nat}(h:nY (aY tm live)=ycG):bg live ⟨tm,[],ct,0⟩=⟨aY tm live,[],0,0⟩:=by
 simp only[bg,PL h,bH,wj];simp only[reach,dP,eM,Yb _ h,yM,yS]
def ahs{tm:Env}{ct:Nat}:bg [] ⟨tm,[],ct,0⟩=⟨[],[],0,0⟩:=rfl
def QE{P:aE}{L:Lib}{live:List Nat}{a:VC}(I:Nat->St->Prop)(Q:Ex->St->Prop)(step:∀k s,I k s->(∃s' k',D P L a (bg live s)=D5 (.normal,s')/\k'<k/\I k' s')\/(∃ex s',D P L a (bg live s)=D5 (ex,s')/\ex≠.normal/\Q ex s')):
  ∀k s,I k s->∃ex s',D P L (.loop live a) s=D5 (ex,s')/\Q ex s':=by
 intro k
 induction k using vB with
 | _ k ih=>
  intro s hI;rw[Mo];rcases step k s hI with ⟨s',k',h1,h2,h3⟩ | ⟨ex,s',h1,h2,h3⟩
  .rw [h1,Z4];exact ih k' h2 s' h3
  .rw [h1]
   cases ex with
   | normal=>exact absurd rfl h2
   | ret=>exact⟨.ret,s',rfl,h3⟩
   | exit id=>exact⟨.exit id,s',rfl,h3⟩
def QF{P:aE}{L:Lib}{live:List Nat}{a:VC}(I:Nat->St->Prop)(Q:Ex->St->Prop)(step:∀k s,I k s->(∃s' k',D P L a s=D5 (.normal,s')/\k'<k/\I k' (bg live s'))\/(∃ex s',D P L a s=D5 (ex,s')/\ex≠.normal/\Q ex s')):
  ∀k s,I k (bg live s)->∃ex s',D P L (.loop live a) s=D5 (ex,s')/\Q ex s':=
 QE (fun k s=>I k (bg live s)) Q (fun k s h=>step k _ h)
def cP(P:aE)(L:Lib)(live:List Nat)(a:VC)(I:Nat->St->Prop)(Q:Ex->St->Prop):Prop:=∀k s,I k (bg live s)->∃ex s',D P L (.loop live a) s=D5 (ex,s')/\Q ex s'
def cT{P:aE}{L:Lib}{live:List Nat}{a:VC}{I:Nat->St->Prop}{Q:Ex->St->Prop}(step:∀k s,I k s->(∃s' k',D P L a s=D5 (.normal,s')/\k'<k/\I k' (bg live s'))\/(∃ex s',D P L a s=D5 (ex,s')/\ex≠.normal/\Q ex s')):cP P L live a I Q:=QF I Q step
def aAe{P:aE}{L:Lib}{live:List Nat}{a:VC}{I:Nat->St->Prop}{Q:Ex->St->Prop}(step:∀k s,I k s->(∃s' k',D P L a s=D5 (.normal,s')/\k'<k/\I k' (bg live s'))\/(∃ex s',D P L a s=D5 (ex,s')/\ex≠.normal/\Q ex s')):
  ∀k s s0,bg live s=s0->I k s0->∃ex s',D P L (.loop live a) s=D5 (ex,s')/\Q ex s':=fun k s s0 h hi=>QF I Q step k s (h▸hi)
def aF{v:AV}(h:aS v=ycG):refs v=[]/\∀f,bi f v=v:=⟨dj h,fun f=>oR f h⟩
def jm(P:aE)(L:Lib)(live:List Nat)(a:VC)(I:Nat->St->Prop)(Q:Ex->St->Prop)(step:∀k s,I k s->(∃s' k',D P L a s=D5 (.normal,s')/\k'<k/\I k' (bg live s'))\/(∃ex s',D P L a s=D5 (ex,s')/\ex≠.normal/\Q ex s')):
  ∀k s,I k (bg live s)->∃ex s',D P L (.loop live a) s=D5 (ex,s')/\Q ex s':=QF I Q step
def bF{P:aE}{L:Lib}{c:VC}{s:St}{q:Option (Ex×St)}{I:St->Prop}{Q:Ex->St->Prop}(hq:D P L c s=q)(key:∀s,I s->∃ex s',D P L c s=D5 (ex,s')/\Q ex s')(hI:I s):
  ∃ex s',q=D5 (ex,s')/\Q ex s':=by
 rw[<-hq];exact key s hI
def ali(tm:Env):aY tm []=[]:=rfl
def ajd(tm:Env)(i:Nat)(r:List Nat):aY tm (i::r)=(i,aj tm i)::aY tm r:=rfl
def aje:nY []=ycG:=rfl
def ah4(i:Nat)(v:AV)(r:Env):nY ((i,v)::r)=(aS v&&nY r):=rfl
def aaM(k:yZ)(n:Int):aS (.int k n)=ycG:=(rfl)
def anC(b:Bool):aS (.bool b)=ycG:=(rfl)
def aqW(s:List Nat):aS (.str s)=ycG:=(rfl)
def anD:aS .ah=ycG:=(rfl)
def aqX(e:Bool)(n:Nat)(cs:List AV):aS (.aq e n cs)=ycG:=(rfl)
def anE(cs:List AV):aS (.bJ cs)=ycG:=(rfl)
def alj:aS .undef=ycG:=(rfl)
attribute [go_sem] deep ahs ali ajd aje ah4 aaM anC aqW anD aqX anE alj tP uj
attribute [go_sem] aqe aqf att adn avf atu By aqg atv ph am1 am2 Z4 am3 am4 am5 am6 Z5 am7 aqh aqi am8 am9
 ana akX ai4 anb atw atx akY akZ ak0 ak1 anc aqj aqk ai5 ahX ak2 ai6 ff di YZ X9 ak3 Hr AY
 avg avh aql ane ak4 aty aqm atz atA atB aqn aqo aqp aqq aqr aqs aqt aqu aqv aqw aqx ang aqy aqz aqA atD aqB ak5 ak6 ak7
 anh ani anj ank anl aqC aqD aqE aqF Tg avi ak8 ai7 anm aqG So atE atF atG atH atI
 ahY ahq ahZ ahr ah0 shut_int shut_bool ak9 ai8 ala alb bM ann QD P9 PK ai9 ah1 aja ah2 ajb ajc AZ
 alc Ya aaK aaL ano ald anp ale anq alf
 aqH aqI atJ ah3 aqJ aqK aqL aqM aqN aqO aqP aqQ aqR aqS anr Z6 LU Z7 ans ant anu anv anw anx aqT aqU alg anz anA anB alh aqV atK atL avj ext1 avk avl
 yD wj ym xa xf Bool.not_true Bool.not_false ne_eq ycB
end
abbrev aa(n:Int):AV:=.int .i64 n
def b7(v:AV)(cs:List AV):Prop:=(v=.ah/\cs=[])\/∃e,v=.aq e cs.length cs
section
variable {v:AV}{cs:List AV}{hp:Hp}
def b7.len(h:b7 v cs){hp:Hp}:iT hp 1 v=D5 (.int .i64 (cs.length:Nat)):=by
 rcases h with ⟨rfl,rfl⟩ | ⟨e,rfl⟩<;>rfl
def b7.pu(h:b7 v cs):aS v=ycG:=by
 rcases h with ⟨rfl,rfl⟩ | ⟨e,rfl⟩<;>rfl
def b7.ak(h:b7 v cs)(n:Nat){hp:Hp}:freeze (n+1) hp v=D5 (v,hp):=by
 rcases h with ⟨rfl,rfl⟩ | ⟨e,rfl⟩<;>rfl
def b7.shut(h:b7 v cs):shut v=v:=by
 rcases h with ⟨rfl,rfl⟩ | ⟨e,rfl⟩<;>rfl
def b7.bX(h:b7 v cs):bX v=v:=by
 rcases h with ⟨rfl,rfl⟩ | ⟨e,rfl⟩<;>rfl
def b7.eA(h:b7 v cs){hp:Hp}:result hp v=D5 v:=by
 rcases h with ⟨rfl,rfl⟩ | ⟨e,rfl⟩<;>rfl
def b7.bD(h:b7 v cs){i:Nat}(hi:i<cs.length):jn 1 i v=D5 (.bJ (cs[i]::cs.drop (i+1))):=by
 rcases h with ⟨rfl,rfl⟩ | ⟨e,rfl⟩
 .grind
 .rw [Q4 e _ hi,yk,yQ hi]
def b7.one(h:b7 v cs):dD v=ycG:=by
 rcases h with ⟨rfl,rfl⟩ | ⟨e,rfl⟩<;>rfl
def b7.cells(h:b7 v cs):cellsOf v=[v]:=by
 rcases h with ⟨rfl,rfl⟩ | ⟨e,rfl⟩<;>rfl
def HF(e:Bool)(cs:List AV):b7 (.aq e cs.length cs) cs:=.inr ⟨e,rfl⟩
def rP:b7 .ah []:=.inl ⟨rfl,rfl⟩
end
def bn(v:AV)(l:List Int):Prop:=b7 v (l.map aa)
section
variable {v:AV}{l:List Int}
def bn.len(h:bn v l){hp:Hp}:iT hp 1 v=D5 (.int .i64 (l.length:Nat)):=by
 have:=b7.len (hp:=hp) h
 grind
def bn.pu(h:bn v l):aS v=ycG:=b7.pu h
def bn.ak(h:bn v l)(n:Nat){hp:Hp}:freeze (n+1) hp v=D5 (v,hp):=b7.ak h n
def bn.shut(h:bn v l):VE.shut v=v:=b7.shut h
def bn.bX(h:bn v l):VE.bX v=v:=b7.bX h
def bn.eA(h:bn v l){hp:Hp}:result hp v=D5 v:=b7.eA h
def bn.one(h:bn v l):dD v=ycG:=b7.one h
def bn.cells(h:bn v l):cellsOf v=[v]:=b7.cells h
def bn.bD(h:bn v l){i:Nat}(hi:i<l.length):jn 1 i v=D5 (.bJ (.int .i64 l[i]::(l.map aa).drop (i+1))):=by
 have:=b7.bD h (i:=i) (by simpa using hi)
 grind
def ik(e:Bool)(l:List Int):bn (.aq e l.length (l.map aa)) l:=by
 have:=HF e (l.map aa)
 rwa[yX] at this
end
def js{α β:Type}(p:α->β->Prop):List α->List β->Prop
 | [],[]=>True
 | a::r,b::s=>p a b/\js p r s
 | _,_=>False
section
variable {α β:Type}{p:α->β->Prop}
def js.len:∀{l:List α} {m:List β},js p l m->l.length=m.length
 | [],[],_=>rfl
 | _::_,_::_,h=>by rw[yH,yH,h.2.len]
def js.get:∀{l:List α} {m:List β} (_:js p l m) {i:Nat} (h1:i<l.length) (h2:i<m.length),p l[i] m[i]
 | a::r,b::s,h,0,_,_=>h.1
 | a::r,b::s,h,i+1,h1,h2=>by
  exact h.2.get (by simpa using h1) (by simpa using h2)
end
def IsS(v:AV)(s:List (List Int)):Prop:=∃rows,b7 v rows/\js bn rows s
def wrap64{n:Int}(h1: -9223372036854775808<=n)(h2:n<9223372036854775808):IntKind.wrap .i64 n=n:=by
 simp only[IntKind.wrap,IntKind.bits,IntKind.signed,uj]
 grind
def wrapN{n:Nat}(h:n<9223372036854775808):IntKind.wrap .i64 (n:Int)=n:=wrap64 (by lia) (by lia)
abbrev af(P:aE)(L:Lib)(f:Nat)(ap:List AV)(r:AV):Prop:=bQ P L (D P L) f ap=D5 r
section
variable {v:AV}{ex pu:Bool}{cs new:List AV}{by' n o sz:Nat}
section
variable {P:aE}{L:Lib}{f:bZ}{tm:Env}{hp:Hp}{ct:Nat}
def ajf(k:yZ)(n:Int):cellsOf (.int k n)=[.int k n]:=(rfl)
def ah5(b:Bool):cellsOf (.bool b)=[.bool b]:=(rfl)
def ajg(s:List Nat):cellsOf (.str s)=[.str s]:=(rfl)
def ah6:cellsOf .ah=[.ah]:=(rfl)
def ajh(e:Bool)(n:Nat)(cs:List AV):cellsOf (.aq e n cs)=[.aq e n cs]:=(rfl)
def aji(id o n:Nat):cellsOf (.av id o n)=[.av id o n]:=(rfl)
def ajj(id o:Nat):cellsOf (.ptr id o)=[.ptr id o]:=(rfl)
def alk(g:Fr)(a b:List AV):cellsOf (.fn g a b)=[.fn g a b]:=(rfl)
def ajk(cs:List AV):cellsOf (.agg cs)=cs:=(rfl)
def Z8(k:yZ)(n:Int):dD (.int k n)=ycG:=(rfl)
def alm(b:Bool):dD (.bool b)=ycG:=(rfl)
def anF(s:List Nat):dD (.str s)=ycG:=(rfl)
def aln:dD .ah=ycG:=(rfl)
def anG(e:Bool)(n:Nat)(cs:List AV):dD (.aq e n cs)=ycG:=(rfl)
def anH(id o n:Nat):dD (.av id o n)=ycG:=(rfl)
def anI(id o:Nat):dD (.ptr id o)=ycG:=(rfl)
def aqY(g:Fr)(a b:List AV):dD (.fn g a b)=ycG:=(rfl)
def alo:b5 []=ycG:=(rfl)
def Yc(v:AV)(r:List AV):b5 (v::r)=(dD v&&b5 r):=(rfl)
def ajl:aD []=ycG:=(rfl)
def ah7(v:AV)(r:List AV):aD (v::r)=(aS v&&aD r):=(rfl)
def aqZ(id o:Nat):aS (.ptr id o)=ycH:=(rfl)
def aq0(id o n:Nat):aS (.av id o n)=ycH:=(rfl)
def atM(g:Nat)(a b:List AV):aS (.fn (.f g) a b)=(aD a&&aD b):=(rfl)
def avm(l:Nat)(a b:List AV):aS (.fn (.y l) a b)=ycH:=(rfl)
def aq1(cs:List AV):aS (.agg cs)=aD cs:=(rfl)
def aq2(cs:List AV):aS (.ay cs)=aD cs:=(rfl)
def lG(ct sz:Nat)(cs:List AV):Option (AV×Obj):=bif yo cs.length sz&&b5 cs then D5 (.ptr ct 0,.cells ycG (aD cs) ycG sz cs) else D6
def aq3(sz:Nat)(x:X):cg tm hp ct (.box sz x)=lG ct sz (cellsOf (aw tm x)):=rfl
def atN(h:dD v=ycG):lG ct 1 [v]=D5 (.ptr ct 0,.cells ycG (aS v&&ycG) ycG 1 [v]):=by
 simp[lG,b5,aD,h]
def aU(hn:cs.length=n)(h:b5 cs=ycG):lG ct n cs=D5 (.ptr ct 0,.cells ycG (aD cs) ycG n cs):=by
 subst hn;simp[lG,h]
def kH(hp:Hp)(ct id o sz:Nat)(new:List AV)(q:Option Obj):fY:=
 match q with
 | some (.cells ycG pu ex z cs)=>bif yo new.length sz&&yz (o+sz) cs.length&&b5 new then D5 (.ay [],aV hp id (.cells ycG (pu&&aD new) ex z (over o new cs)),ct) else D6
 | _=>D6
def stV(hp:Hp)(ct sz:Nat)(p:AV)(new:List AV):fY:=match p with | .ptr id o=>kH hp ct id o sz new (ai hp id) | _=>D6
def Y0(sz:Nat)(x v:X):bV tm hp ct (.st sz x v)=stV hp ct sz (aw tm x) (cellsOf (aw tm v)):=rfl
def ab0(sz id o:Nat)(new:List AV):stV hp ct sz (.ptr id o) new=kH hp ct id o sz new (ai hp id):=rfl
def Dr{u:AV}{id z:Nat}(h:dD v=ycG):kH hp ct id 0 1 [v] (D5 (.cells ycG pu ex z [u]))=D5 (.ay [],aV hp id (.cells ycG (pu&&(aS v&&ycG)) ex z [v]),ct):=by
 simp[kH,b5,aD,h,over];rfl
def MT{id z:Nat}(h1:new.length=sz)(h2:o+sz<=cs.length)(h:b5 new=ycG):
  kH hp ct id o sz new (D5 (.cells ycG pu ex z cs))=D5 (.ay [],aV hp id (.cells ycG (pu&&aD new) ex z (over o new cs)),ct):=by
 subst h1;simp[kH,h,yt h2]
def MU(ct n sz:Nat)(q:Option (List AV)):Option (AV×Obj):=match q with | some cs=>bif yo cs.length (n*sz) then D5 (.av ct 0 n,.cells ycG (aD cs) ycG sz cs) else D6 | none=>D6
def anJ(n sz:Nat)(z:List AV)(ps:List (Nat×Nat×X)):cg tm hp ct (.iY n sz z ps)=MU ct n sz (fill tm z ps):=by
 simp only[cg,MU];cases fill tm z ps<;>rfl
def mM(h:cs.length=n*sz):MU ct n sz (D5 cs)=D5 (.av ct 0 n,.cells ycG (aD cs) ycG sz cs):=by
 simp[MU,h]
def mY(tm:Env)(cs:List AV)(o sz:Nat)(new:List AV)(r:List (Nat×Nat×X)):Option (List AV):=
 bif yo new.length sz&&yz (o+sz) cs.length&&b5 new then fill tm (over o new cs) r else D6
def alp(cs:List AV):fill tm cs []=D5 cs:=rfl
def ajm(cs:List AV)(o sz:Nat)(x:X)(r:List (Nat×Nat×X)):fill tm cs ((o,sz,x)::r)=mY tm cs o sz (cellsOf (aw tm x)) r:=rfl
def Ep{r:List (Nat×Nat×X)}(h1:o+1<=cs.length)(h2:dD v=ycG):mY tm cs o 1 [v] r=fill tm (over o [v] cs) r:=by
 simp[mY,b5,h2,yt h1]
def Z9{r:List (Nat×Nat×X)}(h0:new.length=sz)(h1:o+sz<=cs.length)(h2:b5 new=ycG):mY tm cs o sz new r=fill tm (over o new cs) r:=by
 subst h0;simp[mY,h2,yt h1]
def atO(v u:AV)(r:List AV):over 0 [v] (u::r)=v::r:=rfl
def atP(v a u:AV)(r:List AV):over 1 [v] (a::u::r)=a::v::r:=rfl
def atQ(v a b u:AV)(r:List AV):over 2 [v] (a::b::u::r)=a::b::v::r:=rfl
def atS(v a b c u:AV)(r:List AV):over 3 [v] (a::b::c::u::r)=a::b::c::v::r:=rfl
def atT(v a b c d u:AV)(r:List AV):over 4 [v] (a::b::c::d::u::r)=a::b::c::d::v::r:=rfl
def atU(v a b c d e u:AV)(r:List AV):over 5 [v] (a::b::c::d::e::u::r)=a::b::c::d::e::v::r:=rfl
def BH(ct sz by':Nat)(zero:List AV)(l c:Option Nat):Option (AV×Obj):=
 match l,c with
 | some l,D5 c=>bif yz l c&&(yz c room&&(yz (c*by') room&&(yo zero.length sz&&b5 zero))) then D5 (.av ct 0 l,.cells ycG (aD zero) (yo l c) sz (yy l zero).flatten) else D6
 | _,_=>D6
def aq4(sz by':Nat)(z:List AV)(l c:X):cg tm hp ct (.oh sz by' z l c)=BH ct sz by' z (cF (aw tm l)) (cF (aw tm c)):=by
 simp only[cg,BH]
 grind
def Mq{l:Nat}{z:List AV}(h1:l<=1099511627776)(h2:l*by'<=1099511627776)(h3:z.length=sz)(h4:b5 z=ycG):
  BH ct sz by' z (D5 l) (D5 l)=D5 (.av ct 0 l,.cells ycG (aD z) ycG sz (yy l z).flatten):=by
 subst h3;simp[BH,h4,yt (show l<=room from h1),yt (show l*by'<=room from h2),yt (yq l)]
def Ds(hp:Hp)(ct sz by':Nat)(s:AV)(src:Option (Nat×List AV)):fY:=
 match src with
 | none=>D6
 | some (m,new)=>
  match s with
  | .ah=>
   bif yo m 0 then D5 (.ah,hp,ct)
   else bif yz m room&&(yz (m*by') room&&yF 0 sz) then D5 (.av ct 0 m,(ct,.cells ycG (aD new) ycH sz new)::hp,ct+1) else D6
  | .aq ycG n cs=>
   bif yo m 0 then D5 (.aq ycG n cs,hp,ct)
   else bif yz (n+m) room&&(yz ((n+m)*by') room&&(yo cs.length (n*sz)&&yF 0 sz)) then D5 (.av ct 0 (n+m),(ct,.cells ycG (aD cs&&aD new) ycH sz (cs++new))::hp,ct+1) else D6
  | .av id o n=>
   match ai hp id with
   | some (.cells ycG pu _ z cs)=>
    bif yo z sz&&(yz (n+m) room&&(yz ((n+m)*by') room&&(yz (o+n*sz) cs.length&&(yF 0 sz&&b5 new)))) then
     D5 (.av ct 0 (n+m),(ct,.cells ycG (pu&&aD new) ycH sz (slice o (n*sz) cs++new))::cl hp id,ct+1)
    else D6
   | _=>D6
  | _=>D6
def ajn(sz by':Nat)(s x:X):bV tm hp ct (.df sz by' s x)=Ds hp ct sz by' (aw tm s) (iq hp sz (aw tm x)):=by
 simp only[bV,Ds]
 cases iq hp sz (aw tm x) with
 | none=>rfl
 | some q=>have⟨m,new⟩:=q;cases aw tm s<;>rfl
def Hc(sz id o n:Nat):iq hp sz (.av id o n)=lZ hp sz (.av id o n):=rfl
def ah8(sz:Nat)(e:Bool)(n:Nat)(cs:List AV):iq hp sz (.aq e n cs)=lZ hp sz (.aq e n cs):=rfl
def aht(sz:Nat):iq hp sz .ah=D5 (0,[]):=rfl
def OW(o n sz:Nat)(q:Option Obj):Option (Nat×List AV):=match q with | some (.cells _ _ _ _ cs)=>bif yz (o+n*sz) cs.length then D5 (n,slice o (n*sz) cs) else D6 | _=>D6
def G5(sz id o n:Nat):lZ hp sz (.av id o n)=OW o n sz (ai hp id):=rfl
def atV(rw pu ex:Bool)(z:Nat)(v:AV):OW 0 1 1 (D5 (.cells rw pu ex z [v]))=D5 (1,[v]):=rfl
def jl{m:Nat}(hm:0<m)(h1:m<=1099511627776)(h2:m*by'<=1099511627776)(hs:0<sz):
  Ds hp ct sz by' .ah (D5 (m,new))=D5 (.av ct 0 m,(ct,.cells ycG (aD new) ycH sz new)::hp,ct+1):=by
 have e1:yo m 0=ycH:=iR (by lia);have e2:yF 0 sz=ycG:=yt hs;simp[Ds,e1,e2,yt (show m<=room from h1),yt (show m*by'<=room from h2)]
def il{id m:Nat}(hg:ai hp id=D5 (.cells ycG pu ex sz cs))(hl:cs.length=n*sz)(h1:n+m<=1099511627776)(h2:(n+m)*by'<=1099511627776)(hs:0<sz)(ho:b5 new=ycG):
  Ds hp ct sz by' (.av id 0 n) (D5 (m,new))=D5 (.av ct 0 (n+m),(ct,.cells ycG (pu&&aD new) ycH sz (cs++new))::cl hp id,ct+1):=by
 have e2:yF 0 sz=ycG:=yt hs;simp only[Ds,hg];simp[e2,ho,yt (show n+m<=room from h1),yt (show (n+m)*by'<=room from h2),<-hl,slice,yt (yq cs.length)]
def adq(n:Nat)(g:Nat)(cap:List AV)(q:Option (List AV×Hp)):Option (AV×Hp):=match q with | some (first,hp)=>(match cf n hp cap with | some (M6,ic)=>D5 (.fn (.f g) first M6,ic) | none=>D6) | none=>D6
def adr(g:Nat)(first:List AV)(q:Option (List AV×Hp)):Option (AV×Hp):=match q with | some (cap,hp)=>D5 (.fn (.f g) first cap,hp) | none=>D6
def aq5(n g:Nat)(first cap:List AV):freeze (n+1) hp (.fn (.f g) first cap)=adq n g cap (cf n hp first):=rfl
def aq6(n g:Nat)(first cap:List AV):adq n g cap (D5 (first,hp))=adr g first (cf n hp cap):=rfl
def aq7(g:Nat)(first cap:List AV):adr g first (D5 (cap,hp))=D5 (.fn (.f g) first cap,hp):=rfl
def ads(o:Nat)(q:Option (Bool×Nat×List AV×Hp)):Option (AV×Hp):=match q with | some (_,_,cs,hp)=>D5 (.bJ (cs.drop o),hp) | none=>D6
def anK(n id o:Nat):freeze (n+1) hp (.ptr id o)=ads o (qF n hp id):=rfl
def aq8(o:Nat)(ex:Bool)(sz:Nat)(cs:List AV):ads o (D5 (ex,sz,cs,hp))=D5 (.bJ (cs.drop o),hp):=rfl
def lH(o k:Nat)(q:Option (Bool×Nat×List AV×Hp)):Option (AV×Hp):=
 match q with
 | some (ex,sz,cs,hp)=>bif yz (o+k*sz) cs.length then D5 (.aq (ex&&yF 0 sz&&yo (o+k*sz) cs.length) k (slice o (k*sz) cs),hp) else D6
 | none=>D6
def LV(n id o k:Nat):freeze (n+1) hp (.av id o k)=lH o k (qF n hp id):=rfl
def oS{k:Nat}(ex:Bool)(hl:cs.length=k*sz)(hs:0<sz):lH 0 k (D5 (ex,sz,cs,hp))=D5 (.aq ex k cs,hp):=by
 have e2:yF 0 sz=ycG:=yt hs;simp[lH,<-hl,e2,slice,yt (yq cs.length)]
def BI(n id:Nat)(hp:Hp)(q:Option Obj):Option (Bool×Nat×List AV×Hp):=
 match q with
 | some (.cells rw pu ex sz cs)=>
  bif pu then D5 (ex,sz,cs,bif rw then aV hp id (.cells ycH ycG ex sz cs) else hp)
  else match cf n hp cs with
   | some (cW,an)=>D5 (ex,sz,cW,aV an id (.cells ycH ycH ex sz cs))
   | none=>D6
 | _=>D6
def LW(n id:Nat):qF (n+1) hp id=BI n id hp (ai hp id):=rfl
def aq9(n id:Nat)(ex:Bool)(sz:Nat)(cs:List AV):BI n id hp (D5 (.cells ycG ycG ex sz cs))=D5 (ex,sz,cs,aV hp id (.cells ycH ycG ex sz cs)):=rfl
def ara(n id:Nat)(ex:Bool)(sz:Nat)(cs:List AV):BI n id hp (D5 (.cells ycH ycG ex sz cs))=D5 (ex,sz,cs,hp):=rfl
def cr(n:Nat)(cs:List AV)(h:cf n hp cs=D5 (cs,hp)):freeze (n+1) hp (.agg cs)=D5 (.agg cs,hp):=by
 simp only[freeze,h]
def PM{id:Nat}(hg:ai hp id=D5 (.cells ycG ycG ex sz cs))(hl:cs.length=n*sz)(hs:0<sz):result hp (.av id 0 n)=D5 (.cu ex sz n cs):=by
 have e2:yF 0 sz=ycG:=yt hs;simp only[result,nP,hg,yd,<-hl,yt (yq cs.length),yr,e2,tP,slice,yh,xQ]
 simp
def agM(b:Bool):result hp (.ay [.ah,.bool b])=D5 (.ay [.ah,.bool b]):=rfl
def agN(k:yZ)(b:Int):result hp (.ay [.ah,.int k b])=D5 (.ay [.ah,.int k b]):=rfl
def agO(e:Bool)(n:Nat)(cs:List AV)(k:yZ)(b:Int):result hp (.ay [.aq e n cs,.int k b])=D5 (.ay [.aq e n cs,.int k b]):=rfl
def ajo(s:St):pD [] s=D5 s:=rfl
def Vb(t:Nat)(r:List Nat)(tm:Env)(ct base:Nat)(q:Option (AV×Hp)):Option St:=match q with | some (v,hp)=>pD r ⟨(t,v)::tm,hp,ct,base⟩ | none=>D6
def ah9(t:Nat)(r:List Nat)(tm:Env)(hp:Hp)(ct base:Nat):pD (t::r) ⟨tm,hp,ct,base⟩=Vb t r tm ct base (freeze deep hp (aj tm t)):=by
 simp only[pD,Vb];cases freeze deep hp (aj tm t)<;>rfl
def atW(t:Nat)(r:List Nat)(tm:Env)(ct base:Nat)(v:AV)(hp:Hp):Vb t r tm ct base (D5 (v,hp))=pD r ⟨(t,v)::tm,hp,ct,base⟩:=rfl
end
attribute [go_sem] agM agN agO ajf ah5 ajg ah6 ajh aji ajj alk ajk Z8 alm anF aln anG anH anI aqY alo Yc
 ajl ah7 aqZ aq0 atM avm aq1 aq2 aq3 atN Y0 ab0 Dr anJ alp ajm atO atP atQ atS atT atU aq4
 ajn Hc ah8 aht G5 atV aq5 aq6 aq7 anK aq8 LV oS mM Ep LW aq9 ara ajo ah9 atW
 Bool.and_false uP yh eq_self
end
def Y1:∀hp:Hp,bH 0 hp=[]
 | []=>rfl
 | (id,o)::r=>by
  have:yF id 0=ycH:=rfl
  simp only[bH,this,yJ,Y1 r]
def aaN(f:Nat->Option Nat):∀hp:Hp,eM 0 f hp=[]
 | []=>rfl
 | (id,o)::r=>by
  have:yF id 0=ycH:=rfl
  simp only[eM,this,yJ,aaN f r]
def pos(seen:List Nat):Nat->Option Nat:=fun id=>fS id seen 0
def Ti(tm:Env)(hp:Hp)(seen:List Nat):St:=⟨dt (pos seen) tm,dP hp (pos seen) seen 0 [],seen.length,0⟩
def mG(hp:Hp):Nat->List Nat->List Nat->List Nat:=reach hp 0
def aA(live:List Nat)(tm:Env)(hp:Hp)(ct:Nat):bg live ⟨tm,hp,ct,0⟩=Ti (aY tm live) hp (mG hp 100000 (ck (aY tm live)) []):=by
 have e:∀seen,fA 0 seen=pos seen:=fun seen=>by
  funext id
  have:yF id 0=ycH:=rfl
  simp only[fA,this,yJ,pos]
 simp only[bg,Y1,wj,e,aaN,Ti,mG,yd]
def ajp:ck []=[]:=rfl
def Xm(i:Nat)(v:AV)(r:Env):ck ((i,v)::r)=refs v++ck r:=rfl
def alq(k:yZ)(n:Int):refs (.int k n)=[]:=rfl
def ajq(b:Bool):refs (.bool b)=[]:=rfl
def alr(s:List Nat):refs (.str s)=[]:=rfl
def ajr:refs .ah=[]:=rfl
def als(e:Bool)(n:Nat)(cs:List AV):refs (.aq e n cs)=[]:=rfl
def ajs(cs:List AV):refs (.bJ cs)=[]:=rfl
def aia:refs .undef=[]:=rfl
def alt(id o:Nat):refs (.ptr id o)=[id]:=rfl
def alu(id o n:Nat):refs (.av id o n)=[id]:=rfl
def anL(g:Nat)(a b:List AV):refs (.fn (.f g) a b)=eG a++eG b:=rfl
def arb(l:Nat)(a b:List AV):refs (.fn (.y l) a b)=[l]:=rfl
def alv(cs:List AV):refs (.agg cs)=eG cs:=rfl
def ajt:eG []=[]:=rfl
def aib(v:AV)(r:List AV):eG (v::r)=refs v++eG r:=rfl
def NS(hp:Hp)(n id:Nat)(b6 seen:List Nat)(q:Option Obj):List Nat:=match q with | some o=>mG hp n (gD o++b6) (seen++[id]) | none=>mG hp n b6 seen
def NT(hp:Hp)(n id:Nat)(b6 seen:List Nat)(b:Bool):List Nat:=bif b then mG hp n b6 seen else NS hp n id b6 seen (ai hp id)
def aaa(hp:Hp)(n:Nat)(seen:List Nat):mG hp (n+1) [] seen=seen:=rfl
def QG(hp:Hp)(n id:Nat)(b6 seen:List Nat):mG hp (n+1) (id::b6) seen=NT hp n id b6 seen (iA id seen):=by
 have:yF id 0=ycH:=rfl
 simp only[mG,reach,this,yaU,NT,NS]
 cases iA id seen with
 | true=>rfl
 | false=>simp only[yJ];cases ai hp id<;>rfl
def arc(hp:Hp)(n id:Nat)(b6 seen:List Nat):NT hp n id b6 seen ycG=mG hp n b6 seen:=rfl
def RI(hp:Hp)(n id:Nat)(b6 seen:List Nat):NT hp n id b6 seen ycH=NS hp n id b6 seen (ai hp id):=rfl
def RJ(hp:Hp)(n id:Nat)(b6 seen:List Nat)(o:Obj):NS hp n id b6 seen (D5 o)=mG hp n (gD o++b6) (seen++[id]):=rfl
def Y2(i:Nat):iA i []=ycH:=rfl
def Y3(i:Nat)(r:List Nat):iA i (i::r)=ycG:=by simp only[iA,wC,yr]
def Yd{i j:Nat}(r:List Nat)(h:j≠i):iA i (j::r)=iA i r:=by simp only[iA,iR h,yJ]
def anM(rw ex:Bool)(sz:Nat)(cs:List AV):gD (.cells rw ycG ex sz cs)=[]:=rfl
def Q5(rw ex:Bool)(sz:Nat)(cs:List AV):gD (.cells rw ycH ex sz cs)=eG cs:=rfl
def alw(tm:Env)(ps:List Nat)(a b:VC)(st:Nat)(pe:sn):gD (.lp tm ps a b st pe)=ck tm:=rfl
def aab(i:Nat)(r:List Nat)(k:Nat):fS i (i::r) k=D5 k:=by simp only[fS,wC,yr]
def Y4{i j:Nat}(r:List Nat)(k:Nat)(h:j≠i):fS i (j::r) k=fS i r (k+1):=by simp only[fS,iR h,yJ]
def pos_eq(seen:List Nat)(i:Nat):pos seen i=fS i seen 0:=rfl
def MV(o:Nat)(q:Option Nat):AV:=match q with | some j=>.ptr j o | none=>.undef
def MW(o n:Nat)(q:Option Nat):AV:=match q with | some j=>.av j o n | none=>.undef
def alx(s:List Nat):dt (pos s) []=[]:=rfl
def aju(s:List Nat)(i:Nat)(v:AV)(r:Env):dt (pos s) ((i,v)::r)=(i,bi (pos s) v)::dt (pos s) r:=rfl
def anN(s:List Nat)(k:yZ)(n:Int):bi (pos s) (.int k n)=.int k n:=rfl
def aly(s:List Nat)(b:Bool):bi (pos s) (.bool b)=.bool b:=rfl
def anO(s:List Nat)(t:List Nat):bi (pos s) (.str t)=.str t:=rfl
def alz(s:List Nat):bi (pos s) .ah=.ah:=rfl
def anP(s:List Nat)(e:Bool)(n:Nat)(cs:List AV):bi (pos s) (.aq e n cs)=.aq e n cs:=rfl
def alA(s:List Nat)(cs:List AV):bi (pos s) (.bJ cs)=.bJ cs:=rfl
def ajv(s:List Nat):bi (pos s) .undef=.undef:=rfl
def anQ(s:List Nat)(id o:Nat):bi (pos s) (.ptr id o)=MV o (fS id s 0):=rfl
def anR(s:List Nat)(id o n:Nat):bi (pos s) (.av id o n)=MW o n (fS id s 0):=rfl
def ard(s:List Nat)(g:Nat)(a b:List AV):bi (pos s) (.fn (.f g) a b)=.fn (.f g) (dd (pos s) a) (dd (pos s) b):=rfl
def anS(s:List Nat)(cs:List AV):bi (pos s) (.agg cs)=.agg (dd (pos s) cs):=rfl
def alB(s:List Nat):dd (pos s) []=[]:=rfl
def ajw(s:List Nat)(v:AV)(r:List AV):dd (pos s) (v::r)=bi (pos s) v::dd (pos s) r:=rfl
def anT(o j:Nat):MV o (D5 j)=.ptr j o:=rfl
def anU(o n j:Nat):MW o n (D5 j)=.av j o n:=rfl
def Tj(hp:Hp)(f:Nat->Option Nat)(r:List Nat)(k:Nat)(acc:Hp)(q:Option Obj):Hp:=match q with | some o=>dP hp f r (k+1) ((k,fC f o)::acc) | none=>dP hp f r (k+1) acc
def ajx(hp:Hp)(s:List Nat)(k:Nat)(acc:Hp):dP hp (pos s) [] k acc=acc:=rfl
def aic(hp:Hp)(s:List Nat)(id:Nat)(r:List Nat)(k:Nat)(acc:Hp):dP hp (pos s) (id::r) k acc=Tj hp (pos s) r k acc (ai hp id):=by
 simp only[dP,Tj];cases ai hp id<;>rfl
def are(hp:Hp)(s r:List Nat)(k:Nat)(acc:Hp)(o:Obj):Tj hp (pos s) r k acc (D5 o)=dP hp (pos s) r (k+1) ((k,fC (pos s) o)::acc):=rfl
def Il(f:Nat->Option Nat)(rw ex:Bool)(sz:Nat)(cs:List AV):fC f (.cells rw ycG ex sz cs)=.cells rw ycG ex sz cs:=rfl
def aaO(f:Nat->Option Nat)(rw ex:Bool)(sz:Nat)(cs:List AV):fC f (.cells rw ycH ex sz cs)=.cells rw ycH ex sz (dd f cs):=rfl
def anV(f:Nat->Option Nat)(tm:Env)(ps:List Nat)(a b:VC)(st:Nat)(pe:sn):fC f (.lp tm ps a b st pe)=.lp (dt f tm) ps a b st pe:=rfl
def aac(tm:Env)(hp:Hp)(seen:List Nat):Ti tm hp seen=⟨dt (pos seen) tm,dP hp (pos seen) seen 0 [],seen.length,0⟩:=rfl
attribute [go_sem] ajp Xm alq ajq alr ajr als ajs aia alt alu anL arb alv ajt aib aaa QG arc RI RJ
 Y2 Y3 Yd anM Q5 alw aab Y4 alx aju anN aly anO alz anP alA ajv anQ anR ard anS alB ajw anT anU
 ajx aic are Il aaO anV aac yH yM
def Y5{α:Type}{p:α->Bool}{l:List α}{i:Nat}(h:i<l.length):(l.drop i).any p=(p l[i]||(l.drop (i+1)).any p):=by
 rw[yQ h,List.any_cons]
def NU(f:Nat->Int):Nat->Int
 | 0=>0
 | n+1=>NU f n+f n
def a6(k id o:Nat):Bo k (.ptr id o)=D5 (.ptr id (o+k)):=rfl
def dc{α:Type}(a:α)(l:List α):ui 1 (a::l)=l:=rfl
def atX{α:Type}(a b:α)(l:List α):ui 2 (a::b::l)=l:=rfl
def ab1{α:Type}(a b c:α)(l:List α):ui 3 (a::b::c::l)=l:=rfl
abbrev Nm(n:Int):AV:=.agg [aa n,.ah]
def rZ(hp:Hp)(ct id:Nat)(a:Int)(x y:AV):kH hp ct id 0 2 [.int .i64 a,.ah] (D5 (.cells ycG ycG ycG 2 [x,y]))=D5 (.ay [],aV hp id (.cells ycG ycG ycG 2 [.int .i64 a,.ah]),ct):=rfl
def dO(b:Bool):Fa ycH (D5 b)=D5 (.bool b):=by cases b<;>rfl
def Im(f:bZ)(tm:Env)(hp:Hp)(ct:Nat)(x y:X):aW P L f tm hp ct (.mn [x,y])=rd hp ct (min2 (aw tm x) (aw tm y)):=by
 simp only[aW,rd,a7,db,Bn]
 grind
def zP(f:bZ)(tm:Env)(hp:Hp)(ct:Nat)(x y:X):aW P L f tm hp ct (.mx [x,y])=rd hp ct (max2 (aw tm x) (aw tm y)):=by
 simp only[aW,rd,a7,db,Bn]
 grind
def Hs(k k':yZ)(x y:Int):min2 (.int k x) (.int k' y)=D5 (.int k (if y<x then y else x)):=rfl
def CC(k k':yZ)(x y:Int):max2 (.int k x) (.int k' y)=D5 (.int k (if y>x then y else x)):=rfl
def cY(n:Int):Int:=if n<0 then -1 else if n=0 then 0 else 1
def arf(n:Int):(if (if n<1 then n else 1)> -1 then (if n<1 then n else 1) else -1)=cY n:=by
 unfold cY
 grind
def n117(h:Has P L 117 Nk)(n:Int):af P L 117 [aa n] (Nm n):=by
 unfold af;rw[aH h];simp only[go_sem,ya,yc,yp,Nk,aU,yd,rZ];rfl
def pH(hp:Hp)(p q:Bool):jr .b (.bool p) (.bool q)=D5 (p==q):=rfl
def lX{n:Nat}{sp:List AV->Option AV}(h:L.pure n=D5 sp){f:bZ}(ap:List AV):bQ P L f n ap=sp ap:=by simp only[bQ,h]
abbrev U64(n:Int):AV:=.int .u64 n
def atY{n:Int}(h1:0<=n)(h2:n<18446744073709551616):IntKind.wrap .u64 n=n:=by
 simp only[IntKind.wrap,IntKind.signed,IntKind.bits]
 grind
def aaP(n:Int):kM (.toInt .u64) (aa n)=D5 (U64 (IntKind.wrap .u64 n)):=rfl
def Mr(n:Int):kM (.toInt .i64) (U64 n)=D5 (aa (IntKind.wrap .i64 n)):=rfl
def Io(b:Bool):Fa ycG (D5 b)=D5 (.bool (!b)):=by cases b<;>rfl
def bS(a b:AV)(r:List AV):gN 2 ycG (a::b::r)=D5 (.agg [a,b]):=rfl
def iX(a b c d:AV)(r:List AV):gN 4 ycG (a::b::c::d::r)=D5 (.agg [a,b,c,d]):=rfl
def ajy{a b:Int}(hb:0<b):(a.tmod b<0->a/b=a.tdiv b-1/\a%b=a.tmod b+b)/\(¬a.tmod b<0->a/b=a.tdiv b/\a%b=a.tmod b):=by
 have h1:=Int.mul_tdiv_add_tmod a b;have h2:a.tmod b<b:=Int.tmod_lt_of_pos a hb;have h3: -b<a.tmod b:=Int.lt_tmod_of_pos a hb;refine⟨fun h=>(tK hb).2 ⟨?_,?_,?_⟩,fun h=>(tK hb).2 ⟨?_,?_,?_⟩⟩
 .grind
 .lia
 .lia
 .lia
 .lia
 .lia
def alC(a b:Nat)(hb:b≠0):uQ b (a%b)=uQ a b:=by
 rw[tE b,<-ycp,tE]
def cV(a b:Int):Int:=a/(vj a b:Nat)
def de(a b:Int):Int:=b/(vj a b:Nat)
def LX{a b:Int}(hb:0<b):(0:Int)<(vj a b:Nat):=by
 have:=Int.gcd_pos_of_ne_zero_right a (show b≠0 by lia)
 lia
def arh(a b:Int):a=(vj a b:Nat)*cV a b:=(yaM (tR a b)).symm
def ari(a b:Int):b=(vj a b:Nat)*de a b:=(yaM (tG a b)).symm
def Ht{a b:Int}(hb:0<b):0<de a b:=by
 have h1:=LX (a:=a) hb;have h2:=ari a b;rcases Int.lt_trichotomy (de a b) 0 with h | h | h
 .have:=Int.mul_neg_of_pos_of_neg h1 h;lia
 .grind
 .exact h
def Y6(a b:Int):(cV a b).natAbs<=a.natAbs:=by
 unfold cV;rw[uJ (tR a b)];exact wU _ _
def Y7(a b:Int):(de a b).natAbs<=b.natAbs:=by
 unfold de;rw[uJ (tG a b)];exact wU _ _
def pM(a b:Int):List Nat:=if de a b=1 then bc (cV a b) else bc (cV a b)++[47]++bc (de a b)
section
variable {s:List Nat}{n:Nat}
def ab2{a b:Nat}(h:¬a<b):yF a b=ycH:=by
 cases hb:yF a b with
 | false=>rfl
 | true=>exact absurd (yv hb) (by lia)
def Q6:∀(f n:Nat) (acc:List Nat),n<f->mL f n acc=mL f n []++acc
 | 0,_,_,h=>by lia
 | f+1,n,acc,h=>by
  simp only[mL];by_cases h1:n<10
  .rw [show yF n 10=ycG from yt h1];rfl
  .rw [show yF n 10=ycH from ab2 (by lia)];rw[Q6 f (n/10) _ (by lia),Q6 f (n/10) [48+n%10] (by lia)]
   simp
def Qa{f:Nat}(h:n<10):mL (f+1) n []=[48+n]:=by
 simp only[mL];rw[show yF n 10=ycG from yt h];rfl
def Q7{f:Nat}(h:¬n<10)(hf:n<=f):mL (f+1) n []=mL f (n/10) []++[48+n%10]:=by
 rw[<-Q6 f (n/10) _ (by lia)];simp only[mL];rw[show yF n 10=ycH from ab2 (by lia)];rfl
def alD:∀(n f:Nat),n<f->mL f n []=aC n:=by
 intro n
 induction n using vB with
 | _ n ih=>
  intro f hf;obtain⟨g,rfl⟩:∃g,f=g+1:=⟨f-1,by lia⟩;by_cases h:n<10
  .rw [Qa h];unfold aC;rw[Qa h]
  .rw [Q7 h (by lia),ih (n/10) (by lia) g (by lia)];unfold aC;rw[Q7 h (yq n),ih (n/10) (by lia) n (by lia)];rfl
def rL(h:n<10):aC n=[48+n]:=Qa h
def rQ(h:¬n<10):aC n=aC (n/10)++[48+n%10]:=by
 rw[show aC n=mL (n+1) n [] from rfl,Q7 h (yq n),alD (n/10) n (by lia)]
def zC:∀{k n:Nat},n<10^(k+1)->(aC n).length<=k+1
 | 0,n,h=>by rw[rL (by simpa using h)];simp
 | k+1,n,h=>by
  by_cases h1:n<10
  .rw [rL h1];simp
  .rw [rQ h1,yC]
   have:n/10<10^(k+1):=by
    grind
   have:=zC this
   grind
def K7(h:n<18446744073709551616):(aC n).length<=20:=zC (k:=19) (by lia)
def A5(n:Nat):bc (n:Int)=aC n:=rfl
def rR{n:Int}(h:n<0):bc n=45::aC n.natAbs:=by
 cases n with
 | ofNat n=>exact absurd h (by simp)
 | negSucc n=>rfl
def jF:List Nat->Nat
 | []=>0
 | b::r=>if b=47 then 0 else jF r+1
def ahu{i:Nat}(h:i<s.length):jF (s.drop i)=if s[i]=47 then 0 else jF (s.drop (i+1))+1:=by
 rw[yQ h];rfl
def lI:List Nat->Bool
 | []=>ycG
 | b::r=>yz 48 b&&yz b 57&&lI r
def WO:∀(a b:List Nat),lI (a++b)=(lI a&&lI b)
 | [],b=>by simp[lI]
 | x::a,b=>by simp[lI,WO a b,Bool.and_assoc]
def Hj(n:Nat):lI (aC n)=ycG:=by
 induction n using vB with
 | _ n ih=>
  by_cases h:n<10
  .rw [rL h];simp[lI];lia
  .rw [rQ h,WO,ih (n/10) (by lia)];simp[lI];lia
def KQ:∀{s:List Nat} (r:List Nat),lI s=ycG->jF (s++r)=s.length+jF r
 | [],r,_=>by simp
 | b::s,r,h=>by
  simp only[lI,ye] at h;have h1:=yv h.1.1;simp only[ym,jF,yH];rw[yx (by lia),KQ r h.2]
  lia
def KR:∀(l:List Nat) (a d:Nat),d<10->cG (l++[48+d]) a=(cG l a).map (fun v=>10*v+d)
 | [],a,d,h=>by
  simp only[yD,cG];rw[show yz 48 (48+d)=ycG from yt (by lia),show yz (48+d) 57=ycG from yt (by lia)]
  simp
 | b::l,a,d,h=>by
  simp only[ym,cG]
  cases (yz 48 b&&yz b 57) with
  | true=>exact KR l _ d h
  | false=>rfl
def Ee(n:Nat):cG (aC n) 0=D5 n:=by
 induction n using vB with
 | _ n ih=>
  by_cases h:n<10
  .rw [rL h]
   have:=KR [] 0 n h
   simpa[cG] using this
  .rw [rQ h,KR _ _ _ (by lia),ih (n/10) (by lia)]
   simp;lia
def ajz{i a v:Nat}(h:i<s.length)(hv:cG (s.drop i) a=D5 v):48<=s[i]/\s[i]<=57/\cG (s.drop (i+1)) (10*a+(s[i]-48))=D5 v:=by
 rw[yQ h] at hv;simp only[cG] at hv
 cases hb:(yz 48 s[i]&&yz s[i] 57) with
 | false=>rw[hb] at hv;cases hv
 | true=>
  simp_all
def iE:Nat->Nat->List Nat
 | 0,_=>[]
 | k+1,n=>iE k (n/10)++[48+n%10]
def QH:∀k n,(iE k n).length=k
 | 0,_=>rfl
 | k+1,n=>by simp[iE,QH k]
def Lz:∀(k m r:Nat),0<m->r<10^k->aC (m*10^k+r)=aC m++iE k r
 | 0,m,r,_,h=>by simp at h;subst h;simp[iE]
 | k+1,m,r,hm,h=>by
  have h1:m*10^(k+1)+r=(m*10^k)*10+r:=by grind
  have hp:0<m*10^k:=wN hm (ybv (by decide));have e1:(m*10^(k+1)+r)/10=m*10^k+r/10:=by lia
  have e2:(m*10^(k+1)+r)%10=r%10:=by lia
  rw[rQ (by lia),e1,e2,Lz k m (r/10) hm (by rw[y8] at h;lia)]
  simp[iE]
def Y8:∀(k r a:Nat),r<10^k->cG (iE k r) a=D5 (a*10^k+r)
 | 0,r,a,h=>by simp at h;subst h;simp[iE,cG]
 | k+1,r,a,h=>by
  rw[iE,KR _ _ _ (xp _ (by decide)),Y8 k (r/10) a (by lia)];simp only[wB,yb,y8]
  grind
def alE{m:Nat}(h:1000000000<=m):aC m=aC (m/1000000000)++iE 9 (m%1000000000):=by
 have:=Lz 9 (m/1000000000) (m%1000000000) (by lia) (by lia)
 grind
end
def jL(s:List Nat)(l h:Option Nat):Option AV:=
 match l,h with
 | some l,D5 h=>bif yz l h&&yz h s.length then D5 (.str ((s.take h).drop l)) else D6
 | _,_=>D6
def kK(hp:Hp)(s:List Nat)(tm:Env)(lo hi:Option X):eP hp .str (.str s) tm lo hi=jL s (cC tm 0 lo) (cC tm s.length hi):=by
 unfold jL;simp only[eP]
 grind
def ma(tm:Env)(d:Nat):cC tm d D6=D5 d:=rfl
def gX(tm:Env)(d:Nat)(x:X):cC tm d (D5 x)=cF (aw tm x):=rfl
def mO{s:List Nat}{l h:Nat}(h1:l<=h)(h2:h<=s.length):jL s (D5 l) (D5 h)=D5 (.str ((s.take h).drop l)):=by
 simp[jL,yt h1,yt h2]
def fQ{a b:List Nat}(h:a.length+b.length<=9223372036854775807):binOp .add (.str a) (.str b)=D5 (.str (a++b)):=by
 show Iv .add a b=_
 simp only[Iv,yt h,yr]
def anW(k:yZ)(n:Int):kM (.toInt .i64) (.int k n)=D5 (aa (IntKind.wrap .i64 n)):=rfl
def Q8(a b:List Nat):binOp .eql (.str a) (.str b)=D5 (.bool (fX a b)):=rfl
def Bb{s:List Nat}{i:Nat}(h:i<s.length):Bp i (.str s)=D5 (.int .u8 (s[i]:Nat)):=by
 simp only[Bp,xh h]
def Xn{r:Nat}(h:r<10):jL [48,49,50,51,52,53,54,55,56,57] (D5 r) (D5 (r+1))=D5 (.str [48+r]):=by
 have:r=0\/r=1\/r=2\/r=3\/r=4\/r=5\/r=6\/r=7\/r=8\/r=9:=by lia
 rcases this with rfl | rfl | rfl | rfl | rfl | rfl | rfl | rfl | rfl | rfl<;>rfl
def Tk(h:Has P L 292 Ah){n:Nat}(hn:n<9223372036854775808):af P L 292 [aa n,aa 1] (.str (aC n)):=by
 have key:=jm P L [0,1,5] nR
  (fun k st=>∃(m:Nat) (s:List Nat),st=⟨[(0,aa m),(1,aa 1),(5,.str s)],[],0,0⟩/\m<=n/\m+(1-s.length)=k/\s.length<=20/\((s=[]/\m=n)\/(0<s.length/\(m=0->s=aC n)/\(0<m->aC n=aC m++s))))
  (fun ex st=>∃tm ct,st=⟨tm,[],ct,0⟩/\ex=.exit 0/\aj tm 5=.str (aC n)) ?_
 .unfold af;rw[aH h];simp only[go_sem,Ah];generalize hq:D P L (.loop _ nR) _=q;obtain⟨ex,st,rfl,tm,ct,rfl,rfl,h2⟩:=bF hq (key (n+1)) ⟨n,[],by simp only[go_sem,ya,aA]<;>rfl,by lia,rfl,by simp,.inl ⟨rfl,rfl⟩⟩
  simp only[go_sem,aA,h2]
 .rintro k st ⟨m,s,rfl,hm,hk,hl,hs⟩;by_cases iL:0<m\/s.length<1
  .left
   have hc:((decide ((0:Int)<m))=ycG)\/((decide ((0:Int)<m))=ycH/\((s.length:Nat):Int)<1):=by
    by_cases h0:0<m
    .exact .inl (yU (by lia))
    .exact .inr ⟨yW (by lia),by lia⟩
   have hr:((m:Int)).tmod 10=((m%10:Nat):Int):=by rw[xI (by lia)];rfl
   have hq:((m:Int)).tdiv 10=((m/10:Nat):Int):=by rw[xJ (by lia)];rfl
   have hd:=Xn (r:=m%10) (by lia);have fin:∃s' k',D P L nR ⟨[(0,aa m),(1,aa 1),(5,.str s)],[],0,0⟩=D5 (.normal,s')/\k'<k/\bg [0,1,5] s'=⟨[(0,aa (m/10:Nat)),(1,aa 1),(5,.str ([48+m%10]++s))],[],0,0⟩/\m/10+(1-([48+m%10]++s).length)=k':=by
    rcases hc with hc | ⟨hc,rn⟩
    .have hc:(0:Int)<m:=of_decide_eq_true hc
     simp only[go_sem,ya,yc,nR,hc,dY _ _ _ (show (10:Int)≠0 by decide),dE _ _ _ (show (10:Int)≠0 by decide),hr,hq,wrapN (n:=m%10+1) (by lia),wrap64 (n:=((m/10:Nat):Int)) (by lia) (by lia),kK,gX,show ((m%10:Nat):Int)+1=((m%10+1:Nat):Int) from rfl,hd,fQ (a:=[48+m%10]) (b:=s) (by simp;lia)]
     refine⟨_,_,rfl,?_,by simp only[go_sem,ya,aA],rfl⟩
     simp;lia
    .have hc:¬(0:Int)<m:=of_decide_eq_false hc
     simp only[go_sem,ya,yc,nR,hc,rn,dY _ _ _ (show (10:Int)≠0 by decide),dE _ _ _ (show (10:Int)≠0 by decide),hr,hq,wrapN (n:=m%10+1) (by lia),wrap64 (n:=((m/10:Nat):Int)) (by lia) (by lia),kK,gX,show ((m%10:Nat):Int)+1=((m%10+1:Nat):Int) from rfl,hd,fQ (a:=[48+m%10]) (b:=s) (by simp;lia)]
     refine⟨_,_,rfl,?_,by simp only[go_sem,ya,aA],rfl⟩
     simp;lia
   have⟨s',k',f1,f2,f3,f4⟩:=fin;refine⟨s',k',f1,f2,m/10,[48+m%10]++s,f3,by lia,f4,?_,.inr ⟨by simp,fun h0=>?_,fun h0=>?_⟩⟩
   .have aAu:=K7 (n:=n) (by lia);rcases hs with ⟨rfl,rfl⟩ | ⟨h1,h2,h3⟩
    .simp
    .by_cases h0:0<m
     .have e:=congrArg xW (h3 h0);have e2:0<(aC m).length:=by
       by_cases h9:m<10
       .rw [rL h9];simp
       .rw [rQ h9];simp
      simp only[yC] at e
      simp;lia
     .lia
   .have h9:m<10:=by lia
    rcases hs with ⟨rfl,rfl⟩ | ⟨h1,h2,h3⟩
    .rw [rL h9,yK h9];rfl
    .have:0<m:=by lia
     rw[h3 this,rL h9,yK h9]
   .have h9:¬m<10:=by lia
    rcases hs with ⟨rfl,rfl⟩ | ⟨h1,h2,h3⟩
    .rw [rQ h9];simp
    .rw [h3 (by lia),rQ h9];simp
  .right
   simp only[go_sem,ya,nR,show ¬(0:Int)<m by lia,show ¬((s.length:Nat):Int)<1 by lia];refine⟨_,_,rfl,by simp,_,_,rfl,rfl,?_⟩;simp only[go_sem,ya];rcases hs with ⟨rfl,rfl⟩ | ⟨h1,h2,h3⟩
   .simp at iL
   .rw [h2 (by lia)]
def avn(h:Has P L 291 Jb){a b:Nat}(ha:a<9223372036854775808)(hb:b<9223372036854775808):af P L 291 [aa a,aa b] (aa (uQ a b)):=by
 have key:=jm P L [0,1] H8
  (fun k st=>∃x y:Nat,st=⟨[(0,aa x),(1,aa y)],[],0,0⟩/\y=k/\uQ x y=uQ a b)
  (fun ex st=>∃tm ct,st=⟨tm,[],ct,0⟩/\ex=.exit 0/\aj tm 0=aa (uQ a b)) ?_
 .unfold af;rw[aH h];simp only[go_sem,Jb];generalize hq:D P L (.loop _ H8) _=q;obtain⟨ex,st,rfl,tm,ct,rfl,rfl,h2⟩:=bF hq (key b) ⟨a,b,by simp only[go_sem,ya,aA]<;>rfl,rfl,rfl⟩
  simp only[go_sem,aA,h2]
 .rintro k st ⟨x,y,rfl,rfl,hg⟩;by_cases hy:y=0
  .right
   subst hy;simp only[go_sem,ya,H8,show ¬(0:Int)<((0:Nat):Int) by lia];refine⟨_,_,rfl,by simp,_,_,rfl,rfl,?_⟩;simp only[go_sem,ya];rw[<-hg,Nat.gcd_zero_right]
  .left
   have hr:((x:Int)).tmod y=((x%y:Nat):Int):=by rw[xI (by lia)];rfl
   simp only[go_sem,ya,H8,show (0:Int)<y by lia,dY _ _ _ (show (y:Int)≠0 by lia),hr];refine⟨_,x%y,rfl,xp _ (by lia),y,x%y,by simp only[go_sem,ya,aA],rfl,?_⟩;rw[<-hg,tE y,<-ycp,tE]
def Tl(h:Has P L 272 I8){s:List Nat}(hl:s.length<9223372036854775808):af P L 272 [.str s] (aa (jF s)):=by
 have key:=jm P L [0,3] EE
  (fun k st=>∃i:Nat,st=⟨[(0,.str s),(3,aa i)],[],0,0⟩/\i+k=s.length/\i+jF (s.drop i)=jF s)
  (fun ex st=>∃tm ct,st=⟨tm,[],ct,0⟩/\((ex=.ret/\aj tm 2=aa (jF s))\/(ex=.exit 0/\aj tm 0=.str s/\jF s=s.length))) ?_
 .unfold af;rw[aH h];simp only[go_sem,I8];generalize hq:D P L (.loop _ EE) _=q;obtain⟨ex,st,rfl,tm,ct,rfl,h2⟩:=bF hq (key s.length) ⟨0,by simp only[go_sem,ya,aA]<;>rfl,by lia,by simp⟩
  rcases h2 with ⟨rfl,h2⟩ | ⟨rfl,h2,h3⟩
  .simp only [go_sem,h2]
  .simp only [go_sem,aA,h2,h3]
 .rintro k st ⟨i,rfl,hk,hs⟩;by_cases hi:i<s.length
  .rw [ahu hi] at hs;by_cases h7:s[i]=47
   .right
    rw[yN h7] at hs;simp only[go_sem,ya,EE,show (i:Int)<s.length by lia,Bb hi,show ((s[i]:Nat):Int)=47 by lia];refine⟨_,_,rfl,by simp,_,_,rfl,.inl ⟨rfl,?_⟩⟩;simp only[go_sem];rw[<-hs];rfl
   .left
    rw[yx h7] at hs;simp only[go_sem,ya,EE,show (i:Int)<s.length by lia,Bb hi,show ¬((s[i]:Nat):Int)=47 by lia];refine⟨_,k-1,rfl,by lia,i+1,?_,by lia,by lia⟩;rw[wrap64 (by lia) (by lia)];simp only[go_sem,ya,aA]<;>rfl
  .right
   simp only[go_sem,ya,EE,show ¬(i:Int)<s.length by lia];refine⟨_,_,rfl,by simp,_,_,rfl,.inr ⟨rfl,rfl,?_⟩⟩;rw[xj (by lia)] at hs;simp only[jF] at hs
   lia
def Jm(h:Has P L 290 E5){s:List Nat}{v:Nat}(hl:s.length<=18)(hv:cG s 0=D5 v):af P L 290 [.str s] (aa v):=by
 have key:=jm P L [0,3,4] H7
  (fun k st=>∃i a:Nat,st=⟨[(0,.str s),(3,aa a),(4,aa i)],[],0,0⟩/\i+k=s.length/\a<10^i/\cG (s.drop i) a=D5 v)
  (fun ex st=>∃tm ct,st=⟨tm,[],ct,0⟩/\ex=.exit 0/\aj tm 3=aa v) ?_
 .unfold af;rw[aH h];simp only[go_sem,E5];generalize hq:D P L (.loop _ H7) _=q;obtain⟨ex,st,rfl,tm,ct,rfl,rfl,h2⟩:=bF hq (key s.length) ⟨0,0,by simp only[go_sem,ya,aA]<;>rfl,by lia,by simp,hv⟩
  simp only[go_sem,aA,h2]
 .rintro k st ⟨i,a,rfl,hk,ha,hs⟩;by_cases hi:i<s.length
  .left
   have⟨h1,h2,h3⟩:=ajz hi hs;have hp:10^i<=10^17:=xc (by decide) (by lia);have hb:IntKind.wrap .i64 ((s[i]:Nat):Int)=((s[i]:Nat):Int):=wrap64 (by lia) (by lia)
   simp only[go_sem,ya,H7,show (i:Int)<s.length by lia,Bb hi,anW,hb,wrap64 (n:=10*(a:Int)) (by lia) (by lia),wrap64 (n:=10*(a:Int)+(s[i]:Nat)) (by lia) (by lia),wrap64 (n:=10*(a:Int)+(s[i]:Nat)-48) (by lia) (by lia)];refine⟨_,k-1,rfl,by lia,i+1,10*a+(s[i]-48),?_,by lia,?_,h3⟩
   .rw [wrap64 (by lia) (by lia),show 10*(a:Int)+(s[i]:Nat)-48=((10*a+(s[i]-48):Nat):Int) by lia];simp only[go_sem,ya,aA]<;>rfl
   .rw [y8];lia
  .right
   simp only[go_sem,ya,H7,show ¬(i:Int)<s.length by lia];refine⟨_,_,rfl,by simp,_,_,rfl,rfl,?_⟩;rw[xj (by lia)] at hs;simp only[cG,yb] at hs;subst hs;simp only[go_sem,ya]
def LY(a:Int):(if 0-a>a then 0-a else a)=(a.natAbs:Int):=by lia
def LA(a b:Int):a.tdiv (vj a b:Nat)=cV a b:=yav (tR a b)
def LB(a b:Int):b.tdiv (vj a b:Nat)=de a b:=yav (tG a b)
def nJ(n:Int):(if n<0 then [45] else [])++aC n.natAbs=bc n:=by
 split
 .rename_i h;rw[rR h];rfl
 .rename_i h;obtain⟨m,rfl⟩:∃m:Nat,n=m:=⟨n.toNat,by lia⟩;rfl
def alF{n:Int}(h:n.natAbs<18446744073709551616):(bc n).length<=21:=by
 rw[<-nJ]
 have:=K7 h
 grind
def anX{a b:Int}(hb:0<b):pM a b=(if 1<de a b then (bc (cV a b)++[47])++aC (de a b).natAbs else bc (cV a b)):=by
 have h:=Ht (a:=a) hb;unfold pM;by_cases h1:de a b=1
 .grind
 .rw [yx h1,yN (by lia)];obtain⟨m,hm⟩:∃m:Nat,de a b=m:=⟨(de a b).toNat,by lia⟩;rw[hm];rfl
def avo(h:Has P L 277 Dq)(Tm:Has P L 291 Jb)(pN:Has P L 292 Ah){a b:Int}(ha: -4000000000000000000<=a/\a<=4000000000000000000)(hb:0<b/\b<=4000000000000000000):
  af P L 277 [aa a,aa b] (.str (pM a b)):=by
 have hn:=Y6 a b;have hd:=Y7 a b;have hp:=Ht (a:=a) hb.1;have e1:=avn Tm (a:=a.natAbs) (b:=b.natAbs) (by lia) (by lia);have e2:=Tk pN (n:=(cV a b).natAbs) (by lia);have e3:=Tk pN (n:=(de a b).natAbs) (by lia);have hg:=LX (a:=a) hb.1;rw[show ((b.natAbs:Nat):Int)=b by lia,show uQ a.natAbs b.natAbs=vj a b from rfl] at e1;rw[show (((de a b).natAbs:Nat):Int)=de a b by lia] at e3;have ox:=alF (n:=cV a b) (by lia);have oy:=K7 (n:=(cV a b).natAbs) (by lia);have hl3:=K7 (n:=(de a b).natAbs) (by lia);have hT:=anX (a:=a) hb.1;have hS:=nJ (cV a b);unfold af at e1 e2 e3 ⊢;rw[aH h];by_cases h0:cV a b<0
 .rw [yN h0] at hS;by_cases h1:1<de a b
  .rw [yN h1] at hT
   simp only[go_sem,ya,Dq,show ¬a< -4000000000000000000 by lia,show ¬4000000000000000000<a by lia,show ¬b< -4000000000000000000 by lia,show ¬4000000000000000000<b by lia,show ¬b<0 by lia,wrap64 (n:=0-a) (by lia) (by lia),zP,CC,LY,e1,dE _ _ _ (show ((vj a b:Nat):Int)≠0 by lia),LA,LB,wrap64 (n:=cV a b) (by lia) (by lia),wrap64 (n:=de a b) (by lia) (by lia),h0,wrap64 (n:=0-cV a b) (by lia) (by lia),e2,fQ (a:=[45]) (b:=aC (cV a b).natAbs) (by simp;lia),hS,h1,fQ (a:=bc (cV a b)) (b:=[47]) (by simp;lia),e3,fQ (a:=bc (cV a b)++[47]) (b:=aC (de a b).natAbs) (by simp;lia),hT]
  .rw [yx h1] at hT
   simp only[go_sem,ya,Dq,show ¬a< -4000000000000000000 by lia,show ¬4000000000000000000<a by lia,show ¬b< -4000000000000000000 by lia,show ¬4000000000000000000<b by lia,show ¬b<0 by lia,wrap64 (n:=0-a) (by lia) (by lia),zP,CC,LY,e1,dE _ _ _ (show ((vj a b:Nat):Int)≠0 by lia),LA,LB,wrap64 (n:=cV a b) (by lia) (by lia),wrap64 (n:=de a b) (by lia) (by lia),h0,wrap64 (n:=0-cV a b) (by lia) (by lia),e2,fQ (a:=[45]) (b:=aC (cV a b).natAbs) (by simp;lia),hS,h1,hT]
 .rw [yx h0] at hS;by_cases h1:1<de a b
  .rw [yN h1] at hT
   simp only[go_sem,ya,Dq,show ¬a< -4000000000000000000 by lia,show ¬4000000000000000000<a by lia,show ¬b< -4000000000000000000 by lia,show ¬4000000000000000000<b by lia,show ¬b<0 by lia,wrap64 (n:=0-a) (by lia) (by lia),zP,CC,LY,e1,dE _ _ _ (show ((vj a b:Nat):Int)≠0 by lia),LA,LB,wrap64 (n:=cV a b) (by lia) (by lia),wrap64 (n:=de a b) (by lia) (by lia),h0,wrap64 (n:=0-cV a b) (by lia) (by lia),e2,fQ (a:=[]) (b:=aC (cV a b).natAbs) (by simp;lia),hS,h1,fQ (a:=bc (cV a b)) (b:=[47]) (by simp;lia),e3,fQ (a:=bc (cV a b)++[47]) (b:=aC (de a b).natAbs) (by simp;lia),hT]
  .rw [yx h1] at hT
   simp only[go_sem,ya,Dq,show ¬a< -4000000000000000000 by lia,show ¬4000000000000000000<a by lia,show ¬b< -4000000000000000000 by lia,show ¬4000000000000000000<b by lia,show ¬b<0 by lia,wrap64 (n:=0-a) (by lia) (by lia),zP,CC,LY,e1,dE _ _ _ (show ((vj a b:Nat):Int)≠0 by lia),LA,LB,wrap64 (n:=cV a b) (by lia) (by lia),wrap64 (n:=de a b) (by lia) (by lia),h0,wrap64 (n:=0-cV a b) (by lia) (by lia),e2,fQ (a:=[]) (b:=aC (cV a b).natAbs) (by simp;lia),hS,h1,hT]
def TT(n:Int)(d:Nat):List Nat:=bc n++(if d=1 then [] else 47::aC d)
def anY{a b:Int}(hb:0<b):pM a b=TT (cV a b) (de a b).toNat:=by
 have h:=Ht (a:=a) hb;unfold pM TT;by_cases h1:de a b=1
 .grind
 .rw [yx h1,yx (by lia)];obtain⟨m,hm⟩:∃m:Nat,de a b=m:=⟨(de a b).toNat,by lia⟩;rw[hm,xr];rfl
def A6(n:Nat):0<(aC n).length:=by
 by_cases h:n<10
 .rw [rL h];simp
 .rw [rQ h];simp
def anZ:∀(n:Nat),n<10^(aC n).length:=by
 intro n
 induction n using vB with
 | _ n ih=>
  by_cases h:n<10
  .rw [rL h];simpa using h
  .have:=ih (n/10) (by lia)
   rw[rQ h,yC,td,y8]
   lia
def Y9{n:Nat}(h:(aC n).length<=9):n<1000000000:=
 yE (anZ n) (by simpa using xc (show 0<10 by decide) h)
def Hk(n:Nat):∃b r,aC n=b::r/\48<=b/\b<=57:=by
 cases hq:aC n with
 | nil=>have:=A6 n;rw[hq] at this;simp at this
 | cons b r=>
  have:=Hj n
  rw[hq] at this;simp only[lI,ye] at this
  simp_all
def Fb(s:List Nat):Bp 0 (.str (45::s))=D5 (.int .u8 45):=rfl
def RL(q:Bool)(n:Int)(d:Nat):AV:=if q=ycG then .ay [aa n,aa d,.bool ycG] else .ay [aa 0,aa 0,.bool ycH]
def zW(d:Nat):List Nat:=if d=1 then [] else 47::aC d
def aid(d:Nat):jF (zW d)=0:=by unfold zW;split<;>rfl
def avp(h:Has P L 276 pK)(Jn:Has P L 272 I8)(Aj:Has P L 290 E5){n:Int}{d:Nat}(hl:(TT n d).length<=20000000000):
  ∃q:Bool,af P L 276 [.str (TT n d)] (RL q n d)/\(q=ycG->n.natAbs<1000000000/\d<1000000000):=by
 generalize hs:TT n d=s at hl;by_cases nv:20<s.length
 .refine ⟨ycH,?_,fun h=>by cases h⟩;unfold af;rw[aH h];simp only[go_sem,ya,pK,show (20:Int)<s.length by lia];rfl
 .have hu:∃u,u=aC n.natAbs++zW d:=⟨_,rfl⟩;have⟨u,hu⟩:=hu;have hK:∃K,K=(aC n.natAbs).length:=⟨_,rfl⟩;have⟨K,hK⟩:=hK;have oC:jF u=K:=by rw[hu,KQ _ (Hj _),aid,hK];rfl
  have hlen:u.length=K+(zW d).length:=by rw[hu,hK,yC]
  have hp:=A6 n.natAbs;have⟨b,r,hb,gh,jg⟩:=Hk n.natAbs;have zf:(n<0/\s=45::u)\/(¬n<0/\s=u):=by
   by_cases h0:n<0
   .left;refine⟨h0,?_⟩;rw[<-hs,hu,TT,rR h0];rfl
   .right;refine⟨h0,?_⟩;rw[<-hs,hu,TT,<-nJ,yx h0];rfl
  have hul:u.length<=s.length:=by rcases zf with ⟨_,e⟩ | ⟨_,e⟩<;>rw[e]<;>simp
  have B9:0<u.length:=by lia
  have rz:u[0]=b:=by
   have:u=b::(r++zW d):=by rw[hu,hb];rfl
   simp[this]
  have e1:=Tl Jn (s:=u) (by lia);rw[oC] at e1;have dW:jL u (D5 0) (D5 K)=D5 (.str (aC n.natAbs)):=by
   rw[mO (by lia) (by lia),yh,hu,hK,List.take_left]
  unfold af at e1;by_cases h9:9<K
  .refine ⟨ycH,?_,fun h=>by cases h⟩;unfold af;rw[aH h];rcases zf with ⟨h0,e⟩ | ⟨h0,e⟩
   .have nv:¬20<u.length+1:=by rw[e] at nv;exact nv
    have kT:jL (45::u) (D5 1) (D5 (u.length+1))=D5 (.str u):=by rw[mO (s:=45::u) (l:=1) (h:=u.length+1) (by lia) (by simp)];simp
    rw[e];simp only[go_sem,ya,pK,show ¬(20:Int)<((u.length+1:Nat):Int) by lia,show (0:Int)<((u.length+1:Nat):Int) by lia,Fb,kK,ma,gX,kT,e1,show (9:Int)<(K:Int) by lia];rfl
   .rw [e];simp only[go_sem,ya,pK,show ¬(20:Int)<(u.length:Nat) by lia,show (0:Int)<(u.length:Nat) by lia,Bb B9,rz,show ¬((b:Nat):Int)=45 by lia,e1,show (9:Int)<(K:Int) by lia];rfl
  .by_cases gR:10<(zW d).length
   .refine ⟨ycH,?_,fun h=>by cases h⟩;unfold af;rw[aH h];rcases zf with ⟨h0,e⟩ | ⟨h0,e⟩
    .have nv:¬20<u.length+1:=by rw[e] at nv;exact nv
     have kT:jL (45::u) (D5 1) (D5 (u.length+1))=D5 (.str u):=by rw[mO (s:=45::u) (l:=1) (h:=u.length+1) (by lia) (by simp)];simp
     rw[e]
     simp only[go_sem,ya,pK,show ¬(20:Int)<((u.length+1:Nat):Int) by lia,show (0:Int)<((u.length+1:Nat):Int) by lia,Fb,kK,ma,gX,kT,e1,show ¬(9:Int)<(K:Int) by lia,wrap64 (n:=(u.length:Int)-(K:Int)) (by lia) (by lia),show (10:Int)<(u.length:Int)-(K:Int) by lia];rfl
    .rw [e]
     simp only[go_sem,ya,pK,show ¬(20:Int)<(u.length:Nat) by lia,show (0:Int)<(u.length:Nat) by lia,Bb B9,rz,show ¬((b:Nat):Int)=45 by lia,e1,show ¬(9:Int)<(K:Int) by lia,wrap64 (n:=(u.length:Int)-(K:Int)) (by lia) (by lia),show (10:Int)<(u.length:Int)-(K:Int) by lia];rfl
   .have e2:=Jm Aj (s:=aC n.natAbs) (by lia) (Ee n.natAbs);unfold af at e2;have hm:=Y9 (n:=n.natAbs) (by lia);by_cases hd:d=1
    .subst hd;have jS:zW 1=[]:=rfl;refine⟨ycG,?_,fun _=>⟨hm,by decide⟩⟩;rw[jS] at hlen;simp only[yM,yS] at hlen;unfold af;rw[aH h];rcases zf with ⟨h0,e⟩ | ⟨h0,e⟩
     .have nv:¬20<u.length+1:=by rw[e] at nv;exact nv
      have kT:jL (45::u) (D5 1) (D5 (u.length+1))=D5 (.str u):=by rw[mO (s:=45::u) (l:=1) (h:=u.length+1) (by lia) (by simp)];simp
      rw[e]
      simp only[go_sem,ya,pK,show ¬(20:Int)<((u.length+1:Nat):Int) by lia,show (0:Int)<((u.length+1:Nat):Int) by lia,Fb,kK,ma,gX,kT,e1,show ¬(9:Int)<(K:Int) by lia,wrap64 (n:=(u.length:Int)-(K:Int)) (by lia) (by lia),show ¬(10:Int)<(u.length:Int)-(K:Int) by lia,dW,e2,show ¬(K:Int)<(u.length:Int) by lia,wrap64 (n:=0-(n.natAbs:Int)) (by lia) (by lia)];rw[show 0-(n.natAbs:Int)=n by lia];rfl
     .rw [e]
      simp only[go_sem,ya,pK,show ¬(20:Int)<(u.length:Nat) by lia,show (0:Int)<(u.length:Nat) by lia,Bb B9,rz,show ¬((b:Nat):Int)=45 by lia,kK,ma,gX,e1,show ¬(9:Int)<(K:Int) by lia,wrap64 (n:=(u.length:Int)-(K:Int)) (by lia) (by lia),show ¬(10:Int)<(u.length:Int)-(K:Int) by lia,dW,e2,show ¬(K:Int)<(u.length:Int) by lia];rw[show (n.natAbs:Int)=n by lia];rfl
    .have jS:zW d=47::aC d:=yx hd;have FH:(zW d).length=(aC d).length+1:=by rw[jS];rfl
     have hpd:=A6 d;have hd9:=Y9 (n:=d) (by lia);have e3:=Jm Aj (s:=aC d) (by lia) (Ee d);unfold af at e3;have rn:jL u (D5 (K+1)) (D5 u.length)=D5 (.str (aC d)):=by
      rw[mO (by lia) (yq _),xQ,hu,jS,hK,show (aC n.natAbs).length+1=(aC n.natAbs++[47]).length by simp,show aC n.natAbs++47::aC d=(aC n.natAbs++[47])++aC d by simp,List.drop_left]
     refine⟨ycG,?_,fun _=>⟨hm,hd9⟩⟩;unfold af;rw[aH h];rcases zf with ⟨h0,e⟩ | ⟨h0,e⟩
     .have nv:¬20<u.length+1:=by rw[e] at nv;exact nv
      have kT:jL (45::u) (D5 1) (D5 (u.length+1))=D5 (.str u):=by rw[mO (s:=45::u) (l:=1) (h:=u.length+1) (by lia) (by simp)];simp
      rw[e]
      simp only[go_sem,ya,pK,show ¬(20:Int)<((u.length+1:Nat):Int) by lia,show (0:Int)<((u.length+1:Nat):Int) by lia,Fb,kK,ma,gX,kT,e1,show ¬(9:Int)<(K:Int) by lia,wrap64 (n:=(u.length:Int)-(K:Int)) (by lia) (by lia),show ¬(10:Int)<(u.length:Int)-(K:Int) by lia,dW,e2,show (K:Int)<(u.length:Int) by lia,wrapN (n:=K+1) (by lia),show (K:Int)+1=((K+1:Nat):Int) from rfl,rn,e3,wrap64 (n:=0-(n.natAbs:Int)) (by lia) (by lia)];rw[show 0-(n.natAbs:Int)=n by lia];rfl
     .rw [e]
      simp only[go_sem,ya,pK,show ¬(20:Int)<(u.length:Nat) by lia,show (0:Int)<(u.length:Nat) by lia,Bb B9,rz,show ¬((b:Nat):Int)=45 by lia,kK,ma,gX,e1,show ¬(9:Int)<(K:Int) by lia,wrap64 (n:=(u.length:Int)-(K:Int)) (by lia) (by lia),show ¬(10:Int)<(u.length:Int)-(K:Int) by lia,dW,e2,show (K:Int)<(u.length:Int) by lia,wrapN (n:=K+1) (by lia),show (K:Int)+1=((K+1:Nat):Int) from rfl,rn,e3];rw[show (n.natAbs:Int)=n by lia];rfl
def Tn(h:Has P L 302 su){v:AV}{l:List Int}(hv:bn v l)(i:Nat):af P L 302 [v,aa i] (aa (l.getD i 0)):=by
 unfold af;rw[aH h];by_cases hi:i<l.length
 .simp only [go_sem,ya,su,hv.len,show (i:Int)<l.length by lia,hv.bD hi];simp[yY,xh hi]
 .simp only [go_sem,ya,su,hv.len,show ¬(i:Int)<l.length by lia];simp[yY,List.getElem?_eq_none (Nat.le_of_not_lt hi)]
def aad{hp:Hp}{e:Bool}{n:Nat}{cs:List AV}{tm:Env}{h:Nat}{x:X}(hx:cC tm n (D5 x)=D5 h)(hh:h<=n):
  eP hp (.sl 1) (.aq e n cs) tm D6 (D5 x)=D5 (.aq (e&&yo h n) h (cs.take h)):=by
 simp only[eP,hx,ma];simp[yt hh,slice];rw[show yz 0 h=ycG from yt (uV _)];rfl
def BJ(h:Has P L 300 lE){v:AV}{l:List Int}(hv:bn v l)(hl:l.length<=20000000000):∃r,af P L 300 [v] r/\bn r (dF l)/\shut r=r:=by
 rcases hv with ⟨rfl,h0⟩ | ⟨e,rfl⟩
 .have:l=[]:=by simpa using h0
  subst this;refine⟨.ah,?_,rP,rfl⟩;unfold af;rw[aH h];simp only[go_sem,ya,lE,Mo,CU,aA,show ¬(0:Int)<0 by decide]
 .have key:=jm P L [0] CU
   (fun k st=>∃(i:Nat) (e:Bool),st=⟨[(0,.aq e i ((l.take i).map aa))],[],0,0⟩/\i<=l.length/\i=k/\dF (l.take i)=dF l)
   (fun ex st=>∃tm ct,st=⟨tm,[],ct,0⟩/\ex=.exit 0/\∃i e,aj tm 0=.aq e i ((l.take i).map aa)/\i<=l.length/\l.take i=dF l) ?_
  .have hlen:(l.map aa).length=l.length:=by simp
   rw[hlen];have jc:∃i e',af P L 300 [.aq e l.length (l.map aa)] (.aq e' i ((l.take i).map aa))/\i<=l.length/\l.take i=dF l:=by
    unfold af;rw[aH h];simp only[go_sem,lE];generalize hq:D P L (.loop _ CU) _=q;obtain⟨ex,st,rfl,tm,ct,rfl,rfl,i,e',h2,h3,h4⟩:=bF hq (key l.length) ⟨l.length,e,by simp only[go_sem,ya,aA,xQ],yq _,rfl,by rw[xQ]⟩;simp only[go_sem,aA,h2];exact⟨i,e',rfl,h3,h4⟩
   have⟨i,e',g1,g2,g3⟩:=jc;refine⟨_,g1,?_,rfl⟩;rw[<-g3]
   have:=ik e' (l.take i)
   rwa[yT,xt g2] at this
  .rintro k st ⟨i,e,rfl,hi,rfl,ht⟩
   cases i with
   | zero=>
    right
    simp only[go_sem,ya,CU,show ¬(0:Int)<((0:Nat):Int) by lia];exact⟨_,_,rfl,by simp,_,_,rfl,rfl,0,e,rfl,uV _,by simpa[dF] using ht⟩
   | succ i=>
    have Ca:i<l.length:=by lia
    have eV:l.take (i+1)=l.take i++[l[i]]:=wa Ca;have jT:ui i ((l.take (i+1)).map aa)=[AV.int .i64 l[i]]:=by
     rw[eV,xk,uY (by simp;lia)];rfl
    have oH:jn 1 i (.aq e (i+1) ((l.take (i+1)).map aa))=D5 (.bJ [AV.int .i64 l[i]]):=by
     rw[Q4 e _ (by lia),yk,jT]
    by_cases h0:l[i]=0
    .left
     have nj:∀tm x,cC tm (i+1) (D5 x)=D5 i->eP [] (.sl 1) (.aq e (i+1) ((l.take (i+1)).map aa)) tm D6 (D5 x)=D5 (.aq (e&&yo i (i+1)) i ((l.take i).map aa)):=fun tm x hx=>by
      rw[aad hx (by lia),<-yaj,List.take_take,xt (by lia)]
     simp only[go_sem,ya,CU,show (0:Int)<((i+1:Nat):Int) by lia,show ((i+1:Nat):Int)-1=(i:Int) by lia,wrapN (n:=i) (by lia),oH,h0,nj,gX];refine⟨_,i,rfl,by lia,i,_,by simp only[go_sem,aA]<;>rfl,by lia,rfl,?_⟩
     rw[<-ht,eV,h0,Ha]
    .right
     simp only[go_sem,ya,CU,show (0:Int)<((i+1:Nat):Int) by lia,show ((i+1:Nat):Int)-1=(i:Int) by lia,wrapN (n:=i) (by lia),oH,h0];refine⟨_,_,rfl,by simp,_,_,rfl,rfl,i+1,e,rfl,by lia,?_⟩;rw[<-ht,eV,K5 h0]
section
variable {hp:Hp}{l:List Nat}{n x y:Nat}
def sC:(2^64)^(n+1)=(2^64)^n*2^64:=y8 ..
open Go (IntKind)
abbrev uc(n:Nat):AV:=.int .u64 (n:Int)
def bG(v:AV)(l:List Nat):Prop:=b7 v (l.map uc)
section
variable {v:AV}{l:List Nat}
def bG.len(h:bG v l):iT hp 1 v=D5 (.int .i64 (l.length:Nat)):=by
 have:=b7.len (hp:=hp) h
 grind
def bG.pu(h:bG v l):aS v=ycG:=b7.pu h
def bG.ak(h:bG v l)(n:Nat):freeze (n+1) hp v=D5 (v,hp):=b7.ak h n
def bG.shut(h:bG v l):VE.shut v=v:=b7.shut h
def bG.bX(h:bG v l):VE.bX v=v:=b7.bX h
def bG.eA(h:bG v l):result hp v=D5 v:=b7.eA h
def bG.one(h:bG v l):dD v=ycG:=b7.one h
def bG.bD(h:bG v l){i:Nat}(hi:i<l.length):jn 1 i v=D5 (.bJ (uc (l.getD i 0)::(l.map uc).drop (i+1))):=by
 have:=b7.bD h (i:=i) (by simpa using hi)
 grind
def mP(e:Bool)(l:List Nat):bG (.aq e l.length (l.map uc)) l:=by
 have:=HF e (l.map uc)
 rwa[yX] at this
def rS:bG .ah []:=rP
end
def kI{ct id o:Nat}{v:Nat}{ex:Bool}(h:o<l.length):kH hp ct id o 1 [.int .u64 (v:Int)] (D5 (.cells ycG ycG ex 1 (l.map uc)))=D5 (.ay [],aV hp id (.cells ycG ycG ex 1 ((l.set o v).map uc)),ct):=by
 rw[MT (by rfl) (by simp;lia) (by rfl)]
 have:over o [uc v] (l.map uc)=(l.set o v).map uc:=by
  simp only[over,yH,yM,yd];rw[List.map_set,tF,yN (by simpa using h)]
  simp
 rw[this];rfl
def zX{o:Nat}(h:o<l.length):ui o (l.map uc)=uc (l.getD o 0)::ui (o+1) (l.map uc):=by
 rw[yQ (by simpa using h)]
 grind
def an0(n:Nat):(yy n [AV.int .u64 0]).flatten=(yy n 0).map uc:=by simp_all
def Dt(ct:Nat)(h:n<=100000000000):BH ct 1 8 [.int .u64 0] (D5 n) (D5 n)=D5 (.av ct 0 n,.cells ycG ycG ycG 1 ((yy n 0).map uc)):=by
 rw[Mq (sz:=1) (by lia) (by lia) (by rfl) (by rfl),an0];rfl
def BK(hp:Hp)(h:l.length=n)(ex:Bool):lH 0 n (D5 (ex,1,l.map uc,hp))=D5 (.aq ex n (l.map uc),hp):=oS ex (by simp[h]) (by decide)
def ab3(h:n<2^64):IntKind.wrap .u64 (n:Int)=n:=atY (by lia) (by lia)
section
variable {P:aE}{L:Lib}{f:bZ}
def mZ{a b:Nat}(h:a<b):yF a b=ycG:=by simp_all
def CY(h:L.pure 171=D5 nQ){c:Nat}(hx:x<2^64)(hy:y<2^64)(hc:c<=1):
  bQ P L f 171 [uc x,uc y,uc c]=D5 (.ay [uc ((x+y+c)%2^64),uc ((x+y+c)/2^64)]):=by
 rw[lX h];show (bif yz c 1&&(yF x (2^64)&&yF y (2^64)) then _ else D6)=_
 rw[yt hc,mZ hx,mZ hy];rfl
def RM(h:L.pure 173=D5 Bf){c:Nat}(hx:x<2^64)(hy:y<2^64)(hc:c<=1):
  bQ P L f 173 [uc x,uc y,uc c]=D5 (.ay [uc ((x+2^64*2-y-c)%2^64),uc (if y+c<=x then 0 else 1)]):=by
 rw[lX h];show (bif yz c 1&&(yF x (2^64)&&yF y (2^64)) then _ else D6)=_
 rw[yt hc,mZ hx,mZ hy];by_cases hh:y+c<=x
 .rw [yt hh,yN hh];rfl
 .have:yz (y+c) x=ycH:=by
   cases hq:yz (y+c) x with
   | false=>rfl
   | true=>exact absurd (yv hq) hh
  grind
def Ms(h:L.pure 143=D5 rW)(hx:x<2^64)(hy:y<2^64):
  bQ P L f 143 [uc x,uc y]=D5 (.ay [uc (x*y/2^64),uc (x*y%2^64)]):=by
 rw[lX h];show (bif yF x (2^64)&&yF y (2^64) then _ else D6)=_
 rw[mZ hx,mZ hy];rfl
def alG{tm:Env}{x:X}(hx:cC tm 0 (D5 x)=D5 0):eP hp (.sl 1) .ah tm D6 (D5 x)=D5 .ah:=by
 simp only[eP,hx,ma]
def BL(h:Has P L 166 BD){v:AV}(hv:bG v l)(hl:l.length<=100000000000):∃r,af P L 166 [v] r/\bG r (dG l):=by
 rcases hv with ⟨rfl,h0⟩ | ⟨e,rfl⟩
 .have:l=[]:=by simpa using h0
  subst this;refine⟨.ah,?_,rP⟩;unfold af;rw[aH h];simp only[go_sem,ya,BD,Mo,CS,aA,show ¬(0:Int)<0 by decide,alG,gX]
 .have key:=jm P L [0,3] CS
   (fun k st=>∃(i:Nat),st=⟨[(0,.aq e l.length (l.map uc)),(3,aa i)],[],0,0⟩/\i<=l.length/\i=k/\dG (l.take i)=dG l)
   (fun ex st=>∃tm ct,st=⟨tm,[],ct,0⟩/\ex=.exit 0/\∃i:Nat,aj tm 0=.aq e l.length (l.map uc)/\aj tm 3=aa i/\i<=l.length/\l.take i=dG l) ?_
  .have hlen:(l.map uc).length=l.length:=by simp
   rw[hlen];have jc:∃i e',af P L 166 [.aq e l.length (l.map uc)] (.aq e' i ((l.take i).map uc))/\i<=l.length/\l.take i=dG l:=by
    unfold af;rw[aH h];simp only[go_sem,ya,BD];generalize hq:D P L (.loop _ CS) _=q;obtain⟨ex,st,rfl,tm,ct,rfl,rfl,i,h2,h3,h4,h5⟩:=bF hq (key l.length) ⟨l.length,by simp only[go_sem,ya,aA],yq _,rfl,by rw[xQ]⟩;have nj:∀tm x,cC tm l.length (D5 x)=D5 i->eP [] (.sl 1) (.aq e l.length (l.map uc)) tm D6 (D5 x)=D5 (.aq (e&&yo i l.length) i ((l.map uc).take i)):=fun tm x hx=>aad hx h4
    simp only[go_sem,ya,aA,h2,h3,nj,gX];exact⟨i,_,by rw[yaj],h4,h5⟩
   have⟨i,e',g1,g2,g3⟩:=jc;refine⟨_,g1,?_⟩;rw[<-g3]
   have:=mP e' (l.take i)
   rwa[yT,xt g2] at this
  .rintro k st ⟨i,rfl,hi,rfl,ht⟩
   cases i with
   | zero=>
    right
    simp only[go_sem,ya,CS,show ¬(0:Int)<((0:Nat):Int) by lia];exact⟨_,_,rfl,by simp,_,_,rfl,rfl,0,rfl,rfl,uV _,by simpa[dG] using ht⟩
   | succ i=>
    have Ca:i<l.length:=by lia
    have eV:l.take (i+1)=l.take i++[l[i]]:=wa Ca;have oH:=(mP e l).bD Ca;rw[<-gd Ca] at oH;by_cases h0:l[i]=0
    .left
     simp only[go_sem,ya,CS,show (0:Int)<((i+1:Nat):Int) by lia,show ((i+1:Nat):Int)-1=(i:Int) by lia,wrapN (n:=i) (by lia),oH,show ((l[i]:Nat):Int)=0 by lia];refine⟨_,i,rfl,by lia,i,by simp only[go_sem,ya,aA],by lia,rfl,?_⟩;rw[<-ht,eV,h0,K6]
    .right
     simp only[go_sem,ya,CS,show (0:Int)<((i+1:Nat):Int) by lia,show ((i+1:Nat):Int)-1=(i:Int) by lia,wrapN (n:=i) (by lia),oH,show ¬((l[i]:Nat):Int)=0 by lia];refine⟨_,_,rfl,by simp,_,_,rfl,rfl,i+1,rfl,rfl,by lia,?_⟩;rw[<-ht,eV,Ea h0]
end
end
section
variable {v w:AV}{out x y:List Nat}
def K8(p b s:Nat):p*(s%b)+p*b*(s/b)=p*s:=by
 rw[y5,<-xz,vP]
def ajA{b:Nat}{i c:Nat}(hi:i<out.length)(hz:out.getD i 0=0)(hv:bv b out+b^i*c=bv b (x.take i)+bv b (y.take i)):
  bv b (out.set i ((x.getD i 0+y.getD i 0+c)%b))+b^(i+1)*((x.getD i 0+y.getD i 0+c)/b)=bv b (x.take (i+1))+bv b (y.take (i+1)):=by
 have h1:=nU (b:=b) (x:=(x.getD i 0+y.getD i 0+c)%b) hi;have h2:=K8 (b^i) b (x.getD i 0+y.getD i 0+c);rw[hz,xv,yS] at h1;rw[jD,jD,y8,h1]
 grind
def ajB{b:Nat}{i c z c':Nat}(hi:i<out.length)(hz:out.getD i 0=0)(hs:z+y.getD i 0+c=x.getD i 0+b*c')(hv:bv b out+bv b (y.take i)=bv b (x.take i)+b^i*c):
  bv b (out.set i z)+bv b (y.take (i+1))=bv b (x.take (i+1))+b^(i+1)*c':=by
 have h1:=nU (b:=b) (x:=z) hi;rw[hz,xv,yS] at h1;rw[jD,jD,y8,h1]
 grind
def adt(h:Has P L 158 E3)(hv:bG v x)(hw:bG w y)(hx:lo (2^64) x)(hy:lo (2^64) y)(nx:gj x)(ny:gj y)(lx:x.length<=100000000000)(ly:y.length<=100000000000):
  af P L 158 [v,w] (aa (dw (bv (2^64) x) (bv (2^64) y))):=by
 unfold af;rw[aH h];by_cases hlen:x.length=y.length
 .have key:=jm P L [0,1,5] CR
   (fun k st=>∃j:Nat,st=⟨[(0,v),(1,w),(5,aa ((j:Int)-1))],[],0,0⟩/\j<=x.length/\j=k/\x.drop j=y.drop j)
   (fun ex st=>∃tm ct,st=⟨tm,[],ct,0⟩/\((ex=.ret/\aj tm 4=aa (dw (bv (2^64) x) (bv (2^64) y)))\/(ex=.exit 0/\x=y))) ?_
  .simp only [go_sem,ya,E3,hv.len,hw.len,show (x.length:Int)=y.length by lia];generalize hq:D P L (.loop _ CR) _=q;obtain⟨ex,st,rfl,tm,ct,rfl,h2⟩:=bF hq (key x.length) ⟨x.length,by
    rw[wrap64 (by lia) (by lia),hlen]
    simp only[go_sem,ya,aA,aF hv.pu,aF hw.pu]<;>rfl,yq _,rfl,by rw[xj (yq _),xj (by lia)]⟩
   rcases h2 with ⟨rfl,h2⟩ | ⟨rfl,h2⟩
   .simp only [go_sem,h2]
   .simp only [go_sem,aA];subst h2;simp[dw]
  .rintro k st ⟨j,rfl,hj,rfl,he⟩
   cases j with
   | zero=>
    right
    simp only[go_sem,ya,CR,show ¬(0:Int)<=((0:Nat):Int)-1 by lia];exact⟨_,_,rfl,by simp,_,_,rfl,.inr ⟨rfl,by simpa using he⟩⟩
   | succ i=>
    have h1:i<x.length:=by lia
    have h2:i<y.length:=by lia
    have qd:=Z3 hx h1 h2 he;have aB:=Z3 hy h2 h1 he.symm;by_cases c0:x.getD i 0=y.getD i 0
    .left
     simp only[go_sem,ya,CR,show ((i+1:Nat):Int)-1=(i:Int) by lia,show (0:Int)<=(i:Int) by lia,hv.bD h1,hw.bD h2,c0];refine⟨_,i,rfl,by lia,i,?_,by lia,rfl,?_⟩
     .rw [wrap64 (by lia) (by lia)];simp only[go_sem,ya,aA,aF hv.pu,aF hw.pu]<;>rfl
     .rw [yQ h1,yQ h2,he,gd h1,gd h2,c0]
    .by_cases c1:x.getD i 0<y.getD i 0
     .right
      simp only[go_sem,ya,CR,show ((i+1:Nat):Int)-1=(i:Int) by lia,show (0:Int)<=(i:Int) by lia,hv.bD h1,hw.bD h2,show ¬((x.getD i 0:Nat):Int)=(y.getD i 0:Nat) by lia,show ((x.getD i 0:Nat):Int)<(y.getD i 0:Nat) by lia];refine⟨_,_,rfl,by simp,_,_,rfl,.inl ⟨rfl,?_⟩⟩;simp only[go_sem];unfold dw;rw[yN (qd c1)]
     .right
      simp only[go_sem,ya,CR,show ((i+1:Nat):Int)-1=(i:Int) by lia,show (0:Int)<=(i:Int) by lia,hv.bD h1,hw.bD h2,show ¬((x.getD i 0:Nat):Int)=(y.getD i 0:Nat) by lia,show ¬((x.getD i 0:Nat):Int)<(y.getD i 0:Nat) by lia];refine⟨_,_,rfl,by simp,_,_,rfl,.inl ⟨rfl,?_⟩⟩;simp only[go_sem];unfold dw;rw[yx (by lia),yN (by lia)]
 .by_cases c1:x.length<y.length
  .have:=LS (b:=2^64) (by decide) hx ny c1
   simp only[go_sem,ya,E3,hv.len,hw.len,show ¬(x.length:Int)=y.length by lia,show (x.length:Int)<y.length by lia];unfold dw;rw[yN this]
  .have:=LS (b:=2^64) (by decide) hy nx (show y.length<x.length by lia)
   simp only[go_sem,ya,E3,hv.len,hw.len,show ¬(x.length:Int)=y.length by lia,show ¬(x.length:Int)<y.length by lia];unfold dw;rw[yx (by lia),yN this]
def aaQ(fU:L.pure 171=D5 nQ)(hv:bG v x)(hw:bG w y)(hx:lo (2^64) x)(hy:lo (2^64) y)(lx:x.length<=99999999999)(ly:y.length<=x.length){n:Nat}(hn:n=x.length+1):
  cP P L [0,1,5,6,21,22] CQ (fun k s=>∃(i c:Nat) (out:List Nat),s=⟨[(0,v),(1,w),(5,.av 0 0 n),(6,uc c),(21,aa x.length),(22,aa i)],[(0,.cells ycG ycG ycG 1 (out.map uc))],1,0⟩/\i+k=x.length/\out.length=n/\c<=1/\lo (2^64) out/\
    bv (2^64) out+(2^64)^i*c=bv (2^64) (x.take i)+bv (2^64) (y.take i)/\(∀m,i<=m->out.getD m 0=0)) (fun ex s'=>∃tm c out,s'=⟨tm,[(0,.cells ycG ycG ycG 1 (out.map uc))],1,0⟩/\ex=.exit 0/\aj tm 0=v/\aj tm 5=.av 0 0 n/\aj tm 6=uc c/\out.length=n/\c<=1/\lo (2^64) out/\
    bv (2^64) out+(2^64)^x.length*c=bv (2^64) x+bv (2^64) y/\out.getD x.length 0=0):=by
 apply cT;rintro k s ⟨i,c,out,rfl,hk,hlen,hc,aZ,aJ,fL⟩;by_cases hi:i<x.length
 .left
  have hz:=fL i (yq _);have kL:=ajA (x:=x) (y:=y) (show i<out.length by lia) hz aJ;have gx:=gZ (show 0<2^64 by decide) hx i;have gy:=gZ (show 0<2^64 by decide) hy i;have e1:=CY (P:=P) (f:=D P L) fU gx gy hc;have ex:=hv.bD hi;generalize x.getD i 0=p at*
  by_cases hj:i<y.length
  .have ey:=hw.bD hj;generalize y.getD i 0=q at*
   simp only[go_sem,ya,yk,CQ,hw.len,show (i:Int)<x.length by lia,show (i:Int)<y.length by lia,ex,ey,e1,cS 0 0 (show i<n by lia),yd,kI (l:=out) (o:=i) (by lia)]
   refine⟨_,k-1,rfl,by lia,i+1,(p+q+c)/2^64,_,?_,by lia,by simp[hlen],by lia,mf aZ (x:=(p+q+c)%2^64) (i:=i) (by lia),kL,fun m hm=>?_⟩
   .rw [wrap64 (by lia) (by lia)];simp only[go_sem,ya,yc,aA,aF hv.pu,aF hw.pu]<;>rfl
   .rw [pg (by lia)];exact fL m (by lia)
  .have jU:y.getD i 0=0:=RG (by lia);rw[jU] at kL e1;rw[show (uc 0)=AV.int .u64 0 from rfl] at e1
   simp only[go_sem,ya,yk,CQ,hw.len,show (i:Int)<x.length by lia,show ¬(i:Int)<y.length by lia,ex,e1,cS 0 0 (show i<n by lia),yd,kI (l:=out) (o:=i) (by lia)]
   refine⟨_,k-1,rfl,by lia,i+1,(p+0+c)/2^64,_,?_,by lia,by simp[hlen],by lia,mf aZ (x:=(p+0+c)%2^64) (i:=i) (by lia),kL,fun m hm=>?_⟩
   .rw [wrap64 (by lia) (by lia)];simp only[go_sem,ya,yc,aA,aF hv.pu,aF hw.pu]<;>rfl
   .rw [pg (by lia)];exact fL m (by lia)
 .right
  have:i=x.length:=by lia
  subst this;rw[xQ,yO ly] at aJ;simp only[go_sem,ya,CQ,show ¬(x.length:Int)<x.length by lia];exact⟨_,_,rfl,by simp,_,c,out,rfl,rfl,rfl,rfl,rfl,hlen,hc,aZ,aJ,fL _ (yq _)⟩
def avq(h:Has P L 157 IZ)(mv:Has P L 166 BD)(fU:L.pure 171=D5 nQ)(hv:bG v x)(hw:bG w y)(hx:lo (2^64) x)(hy:lo (2^64) y)(lx:x.length<=99999999999)(ly:y.length<=99999999999):
  ∃r out,af P L 157 [v,w] r/\bG r out/\lo (2^64) out/\gj out/\bv (2^64) out=bv (2^64) x+bv (2^64) y:=by
 have fin:∀{x y o:List Nat} {n c:Nat},n=x.length+1->x.length<=99999999999->o.length=n->c<=1->lo (2^64) o->bv (2^64) o+(2^64)^x.length*c=bv (2^64) x+bv (2^64) y->o.getD x.length 0=0->
   ∃r,bQ P L (D P L) 166 [.aq ycG n ((o.set x.length c).map uc)]=D5 r/\bG r (dG (o.set x.length c))/\lo (2^64) (dG (o.set x.length c))/\gj (dG (o.set x.length c))/\bv (2^64) (dG (o.set x.length c))=bv (2^64) x+bv (2^64) y:=by
  intro x y o n c hn lx hlen hc aZ aJ hz;have aV:=nU (b:=2^64) (l:=o) (i:=x.length) (x:=c) (by lia);rw[hz,xv,yS,aJ] at aV;have avr:lo (2^64) (o.set x.length c):=mf aZ (by lia);have hf:=mP ycG (o.set x.length c);rw[List.length_set,hlen] at hf;have⟨r,e1,hr⟩:=BL mv hf (by simp;lia)
  exact⟨r,e1,hr,A4 avr,A3 _,by rw[A2];exact aV⟩
 by_cases hl:x.length<y.length
 .obtain ⟨n,hn⟩:∃n,n=y.length+1:=⟨_,rfl⟩;unfold af;rw[aH h]
  simp only[go_sem,ya,yc,IZ,hv.len,hw.len,show (x.length:Int)<y.length by lia,wrapN (n:=n) (by lia),show (y.length:Int)+1=((y.length+1:Nat):Int) from rfl,<-hn,Dt (n:=n) _ (by lia)];generalize hq:D P L (.loop _ CQ) _=q;obtain⟨ex,s,rfl,tm,c,o,rfl,rfl,t0,t5,t6,hlen,hc,aZ,aJ,hz⟩:=bF hq (aaQ (P:=P) (L:=L) fU hw hv hy hx ly (by lia) hn y.length)
   ⟨0,0,yy n 0,by simp only[go_sem,ya,yc,aA,aF hv.pu,aF hw.pu]<;>rfl,by lia,by simp,by lia,EO (by decide) n,by rw[EP];simp[bv],fun m _=>CJ n m⟩
  have⟨r,e1,hr,f1,f2,f3⟩:=fin hn ly hlen hc aZ aJ hz;refine⟨r,_,?_,hr,f1,f2,by rw[f3];lia⟩
  simp only[go_sem,ya,yk,aA,aF hw.pu,hw.len,t0,t5,t6,cS 0 0 (show y.length<n by lia),yd,kI (l:=o) (o:=y.length) (by lia)]
  simp only[go_sem,BK _ (n:=n) (l:=o.set y.length c) (by simp[hlen]) ycG,e1,hr.shut,hr.eA]
 .obtain ⟨n,hn⟩:∃n,n=x.length+1:=⟨_,rfl⟩;unfold af;rw[aH h]
  simp only[go_sem,ya,yc,IZ,hv.len,hw.len,show ¬(x.length:Int)<y.length by lia,wrapN (n:=n) (by lia),show (x.length:Int)+1=((x.length+1:Nat):Int) from rfl,<-hn,Dt (n:=n) _ (by lia)];generalize hq:D P L (.loop _ CQ) _=q;obtain⟨ex,s,rfl,tm,c,o,rfl,rfl,t0,t5,t6,hlen,hc,aZ,aJ,hz⟩:=bF hq (aaQ (P:=P) (L:=L) fU hv hw hx hy lx (by lia) hn x.length)
   ⟨0,0,yy n 0,by simp only[go_sem,ya,yc,aA,aF hv.pu,aF hw.pu]<;>rfl,by lia,by simp,by lia,EO (by decide) n,by rw[EP];simp[bv],fun m _=>CJ n m⟩
  have⟨r,e1,hr,f1,f2,f3⟩:=fin hn lx hlen hc aZ aJ hz;refine⟨r,_,?_,hr,f1,f2,f3⟩
  simp only[go_sem,ya,yk,aA,aF hv.pu,hv.len,t0,t5,t6,cS 0 0 (show x.length<n by lia),yd,kI (l:=o) (o:=x.length) (by lia)]
  simp only[go_sem,BK _ (n:=n) (l:=o.set x.length c) (by simp[hlen]) ycG,e1,hr.shut,hr.eA]
end
section
variable {v w:AV}{x y:List Nat}{c n:Nat}
def ajC{b:Nat}{out:List Nat}{p j t o x y Y bo ba:Nat}(ho:o=out.getD j 0)(hj:j<out.length)(ht:t=o+x*y+c)(hv:bo+p*c=ba+p*(x*Y))(hb:bo=bv b out)(hp:p=b^j):
  bv b (out.set j (t%b))+p*b*(t/b)=ba+p*(x*(Y+0))+p*(x*y):=by
 have h1:=nU (b:=b) (x:=t%b) hj;have h2:=K8 p b t
 grind
def QI{x y:Nat}(hx:x<2^64)(hy:y<2^64)(hc:c<=1):
  (x+2^64*2-y-c)%2^64+y+c=x+2^64*(if y+c<=x then 0 else 1):=by grind
def arj(sD:L.pure 173=D5 Bf)(hv:bG v x)(hw:bG w y)(hx:lo (2^64) x)(hy:lo (2^64) y)(lx:x.length<=99999999999)(ly:y.length<=x.length)(hle:bv (2^64) y<=bv (2^64) x)(hn:n=x.length):
  cP P L [0,1,5,6,13,14] EC (fun k s=>∃(i c:Nat) (out:List Nat),s=⟨[(0,v),(1,w),(5,.av 0 0 n),(6,uc c),(13,aa x.length),(14,aa i)],[(0,.cells ycG ycG ycG 1 (out.map uc))],1,0⟩/\i+k=x.length/\out.length=n/\c<=1/\lo (2^64) out/\
    bv (2^64) out+bv (2^64) (y.take i)=bv (2^64) (x.take i)+(2^64)^i*c/\(∀m,i<=m->out.getD m 0=0)) (fun ex s'=>∃tm out,s'=⟨tm,[(0,.cells ycG ycG ycG 1 (out.map uc))],1,0⟩/\ex=.exit 0/\aj tm 5=.av 0 0 n/\out.length=n/\lo (2^64) out/\
    bv (2^64) out+bv (2^64) y=bv (2^64) x):=by
 apply cT;rintro k s ⟨i,c,out,rfl,hk,hlen,hc,aZ,aJ,fL⟩;by_cases hi:i<x.length
 .left
  have hz:=fL i (yq _);have gx:=gZ (show 0<2^64 by decide) hx i;have gy:=gZ (show 0<2^64 by decide) hy i;have nA:=QI gx gy hc;have kL:=ajB (x:=x) (y:=y) (show i<out.length by lia) hz nA aJ;have e1:=RM (P:=P) (f:=D P L) sD gx gy hc;have ex:=hv.bD hi;generalize x.getD i 0=p at*
  have jw:(if y.getD i 0+c<=p then 0 else 1)<=1:=by split<;>lia
  by_cases hj:i<y.length
  .have ey:=hw.bD hj;generalize y.getD i 0=q at*
   generalize (if q+c<=p then 0 else 1)=c1 at*
   simp only[go_sem,ya,xA,yk,EC,hw.len,show (i:Int)<x.length by lia,show (i:Int)<y.length by lia,ex,ey,e1,cS 0 0 (show i<n by lia),yd,kI (l:=out) (o:=i) (by lia)]
   refine⟨_,k-1,rfl,by lia,i+1,c1,_,?_,by lia,by simp[hlen],jw,mf aZ (x:=(p+2^64*2-q-c)%2^64) (i:=i) (by lia),kL,fun m hm=>?_⟩
   .rw [wrap64 (by lia) (by lia)];simp only[go_sem,ya,yc,xA,aA,aF hv.pu,aF hw.pu]<;>rfl
   .rw [pg (by lia)];exact fL m (by lia)
  .have jU:y.getD i 0=0:=RG (by lia);rw[jU] at kL e1 jw;rw[show (uc 0)=AV.int .u64 0 from rfl] at e1;generalize (if 0+c<=p then 0 else 1)=c1 at*
   simp only[go_sem,ya,xA,yk,EC,hw.len,show (i:Int)<x.length by lia,show ¬(i:Int)<y.length by lia,ex,e1,cS 0 0 (show i<n by lia),yd,kI (l:=out) (o:=i) (by lia)]
   refine⟨_,k-1,rfl,by lia,i+1,c1,_,?_,by lia,by simp[hlen],jw,mf aZ (x:=(p+2^64*2-0-c)%2^64) (i:=i) (by lia),kL,fun m hm=>?_⟩
   .rw [wrap64 (by lia) (by lia)];simp only[go_sem,ya,yc,xA,aA,aF hv.pu,aF hw.pu]<;>rfl
   .rw [pg (by lia)];exact fL m (by lia)
 .right
  have:i=x.length:=by lia
  subst this;rw[xQ,yO ly] at aJ;have aB:=mX aZ;rw[hlen,hn] at aB;simp only[go_sem,ya,EC,show ¬(x.length:Int)<x.length by lia];refine⟨_,_,rfl,by simp,_,out,rfl,rfl,rfl,hlen,aZ,?_⟩;rcases (show c=0\/c=1 by lia) with rfl | rfl
  .lia
  .lia
def adu(h:Has P L 159 No)(mv:Has P L 166 BD)(sD:L.pure 173=D5 Bf)(hv:bG v x)(hw:bG w y)(hx:lo (2^64) x)(hy:lo (2^64) y)(ny:gj y)(lx:x.length<=99999999999)(hle:bv (2^64) y<=bv (2^64) x):
  ∃r out,af P L 159 [v,w] r/\bG r out/\lo (2^64) out/\gj out/\bv (2^64) out+bv (2^64) y=bv (2^64) x:=by
 have ly:y.length<=x.length:=by
  by_cases hh:x.length<y.length
  .have:=LS (b:=2^64) (by decide) hx ny hh
   lia
  .lia
 obtain⟨n,hn⟩:∃n,n=x.length:=⟨_,rfl⟩;unfold af;rw[aH h]
 simp only[go_sem,ya,yc,No,hv.len,<-hn,Dt (n:=n) _ (by lia)];generalize hq:D P L (.loop _ EC) _=q;obtain⟨ex,s,rfl,tm,o,rfl,rfl,t5,hlen,aZ,aJ⟩:=bF hq (arj (P:=P) (L:=L) sD hv hw hx hy lx ly hle hn x.length)
  ⟨0,0,yy n 0,by rw[hn];simp only[go_sem,ya,yc,aA,aF hv.pu,aF hw.pu]<;>rfl,by lia,by simp,by lia,EO (by decide) n,by rw[EP];simp[bv],fun m _=>CJ n m⟩
 have hf:=mP ycG o;rw[hlen] at hf;have⟨r,e1,hr⟩:=BL mv hf (by lia);refine⟨r,_,?_,hr,A4 aZ,A3 _,by rw[A2];exact aJ⟩
 simp only[go_sem,yc,aA,t5,BK _ (n:=n) (l:=o) hlen ycG,e1,hr.shut,hr.eA]
def alH{x y o:Nat}(hx:x<2^64)(hy:y<2^64)(ho:o<2^64)(hc:c<2^64):
  o+x*y+c<2^64*2^64/\
  ((x*y%2^64+o+0)%2^64+c+0)%2^64=(o+x*y+c)%2^64/\
  x*y/2^64+(x*y%2^64+o+0)/2^64+((x*y%2^64+o+0)%2^64+c+0)/2^64=(o+x*y+c)/2^64:=by
 have h1:=xd (show x<=18446744073709551615 by lia) (show y<=18446744073709551615 by lia)
 grind
def ark(mw:L.pure 143=D5 rW)(fU:L.pure 171=D5 nQ)(hv:bG v x)(hw:bG w y)(hx:lo (2^64) x)(hy:lo (2^64) y)(lx:x.length<=49999999999)(ly:y.length<=49999999999){i:Nat}(hn:n=x.length+y.length)(hi:i<x.length){a:Nat}(ha:a<2^64){bo:Nat}:
  cP P L [1,5,6,7,8,20,21,22,27,28,29] HS (fun k s=>∃(j c:Nat) (out:List Nat),s=⟨[(1,w),(5,.av 0 0 n),(6,aa i),(7,uc a),(8,uc c),(20,v),(21,aa x.length),(22,aa i),(27,w),(28,aa y.length),(29,aa j)],[(0,.cells ycG ycG ycG 1 (out.map uc))],1,0⟩/\j+k=y.length/\out.length=n/\c<2^64/\lo (2^64) out/\
    bv (2^64) out+(2^64)^(i+j)*c=bo+(2^64)^i*(a*bv (2^64) (y.take j))/\(∀m,i+y.length<=m->out.getD m 0=0)) (fun ex s'=>∃tm c out,s'=⟨tm,[(0,.cells ycG ycG ycG 1 (out.map uc))],1,0⟩/\ex=.exit 2/\aj tm 1=w/\aj tm 5=.av 0 0 n/\aj tm 6=aa i/\aj tm 8=uc c/\aj tm 20=v/\aj tm 21=aa x.length/\aj tm 22=aa i/\out.length=n/\c<2^64/\lo (2^64) out/\
    bv (2^64) out+(2^64)^(i+y.length)*c=bo+(2^64)^i*(a*bv (2^64) y)/\(∀m,i+y.length<=m->out.getD m 0=0)):=by
 apply cT;rintro k s ⟨j,c,out,rfl,hk,hlen,hc,aZ,aJ,fL⟩;by_cases hj:j<y.length
 .left
  have B7:(0:Nat)<2^64:=by decide
  have gy:=gZ B7 hy j;have nB:=gZ B7 aZ (i+j);have ey:=hw.bD hj;have e3:=zX (l:=out) (o:=i+j) (by lia);obtain⟨q,hq⟩:∃q,q=y.getD j 0:=⟨_,rfl⟩;obtain⟨o,ho⟩:∃o,o=out.getD (i+j) 0:=⟨_,rfl⟩;rw[<-hq] at gy ey;rw[<-ho] at nB e3;have⟨m1,m2,m3⟩:=alH ha gy nB hc;have hpy:a*q<2^64*2^64:=by lia
  have f1:=Ms (P:=P) (f:=D P L) mw ha gy;have f2:=CY (P:=P) (f:=D P L) fU (x:=a*q%2^64) (y:=o) (c:=0) (xp _ B7) nB (by lia);have f3:=CY (P:=P) (f:=D P L) fU (x:=(a*q%2^64+o+0)%2^64) (y:=c) (c:=0) (xp _ B7) hc (by lia);obtain⟨t,ht⟩:∃t,t=o+a*q+c:=⟨_,rfl⟩;have kL:=ajC (b:=2^64) (out:=out) (p:=(2^64)^(i+j)) (j:=i+j) (c:=c) (t:=t) (x:=a) (y:=q) (Y:=0) (ba:=bo+(2^64)^i*(a*bv (2^64) (y.take j))) ho (by lia) ht (by simpa using aJ) rfl rfl;rw[m2,<-ht] at f3;rw[<-ht] at m1 m3;obtain⟨d1,zg⟩:∃d,d=(a*q%2^64+o+0)/2^64:=⟨_,rfl⟩;obtain⟨d2,iM⟩:∃d,d=((a*q%2^64+o+0)%2^64+c+0)/2^64:=⟨_,rfl⟩;rw[<-zg] at f2 m3;rw[<-iM] at f3 m3;rw[show (uc 0)=AV.int .u64 0 from rfl] at f2 f3;obtain⟨h1,gS⟩:∃d,d=a*q/2^64:=⟨_,rfl⟩;rw[<-gS] at f1 m3;have lP:h1+d1<2^64:=by lia
  have Aw:h1+d1+d2<2^64:=by lia
  simp only[go_sem,ya,yk,HS,show (j:Int)<y.length by lia,ey,f1,wrapN (n:=i+j) (by lia),show (i:Int)+(j:Int)=((i+j:Nat):Int) from rfl,cS 0 0 (show i+j<n by lia),yd,e3,f2,f3,show (h1:Int)+(d1:Int)=((h1+d1:Nat):Int) from rfl,ab3 lP,show ((h1+d1:Nat):Int)+(d2:Int)=((h1+d1+d2:Nat):Int) from rfl,ab3 Aw,kI (l:=out) (o:=i+j) (by lia)]
  refine⟨_,k-1,rfl,by lia,j+1,h1+d1+d2,_,?_,by lia,by simp[hlen],Aw,mf aZ (x:=t%2^64) (i:=i+j) (xp _ B7),?_,fun m hm=>?_⟩
  .rw [wrap64 (by lia) (by lia)];simp only[go_sem,ya,yc,aA,aF hv.pu,aF hw.pu]<;>rfl
  .rw [m3,show i+(j+1)=i+j+1 by lia,sC,jD,<-hq,xz a,xz ((2^64)^i)];simp only[xv,yS] at kL;rw[kL,xB,<-Nat.add_assoc,y5 ((2^64)^i),<-y5 a,xb a ((2^64)^j),y5]
  .rw [pg (by lia)];exact fL m hm
 .right
  have:j=y.length:=by lia
  subst this;rw[xQ] at aJ;simp only[go_sem,ya,HS,show ¬(y.length:Int)<y.length by lia];exact⟨_,_,rfl,by simp,_,c,out,rfl,rfl,rfl,rfl,rfl,rfl,rfl,rfl,rfl,hlen,hc,aZ,aJ,fL⟩
def arl(mw:L.pure 143=D5 rW)(fU:L.pure 171=D5 nQ)(hv:bG v x)(hw:bG w y)(hx:lo (2^64) x)(hy:lo (2^64) y)(lx:x.length<=49999999999)(ly:y.length<=49999999999)(hn:n=x.length+y.length):
  cP P L [1,5,20,21,22] HT (fun k s=>∃(i:Nat) (out:List Nat),s=⟨[(1,w),(5,.av 0 0 n),(20,v),(21,aa x.length),(22,aa i)],[(0,.cells ycG ycG ycG 1 (out.map uc))],1,0⟩/\i+k=x.length/\out.length=n/\lo (2^64) out/\
    bv (2^64) out=bv (2^64) (x.take i)*bv (2^64) y/\(∀m,i+y.length<=m->out.getD m 0=0)) (fun ex s'=>∃tm out,s'=⟨tm,[(0,.cells ycG ycG ycG 1 (out.map uc))],1,0⟩/\ex=.exit 0/\aj tm 5=.av 0 0 n/\out.length=n/\lo (2^64) out/\
    bv (2^64) out=bv (2^64) x*bv (2^64) y):=by
 apply cT;rintro k s ⟨i,out,rfl,hk,hlen,aZ,aJ,fL⟩;by_cases hi:i<x.length
 .left
  have gx:=gZ (show 0<2^64 by decide) hx i;have ex:=hv.bD hi;obtain⟨a,ha⟩:∃a,a=x.getD i 0:=⟨_,rfl⟩;simp only[go_sem,ya,HT,hw.len,show (i:Int)<x.length by lia,ex];generalize hq:D P L (.loop _ HS) _=q;obtain⟨ex,s,rfl,tm,c,sE,rfl,rfl,t1,t5,t6,t8,t20,t21,t22,Sp,hc,avt,Sq,Jo⟩:=bF hq (ark (P:=P) (L:=L) mw fU hv hw hx hy lx ly hn hi gx (bo:=bv (2^64) out) y.length)
   ⟨0,0,out,by simp only[go_sem,ya,yc,aA,aF hv.pu,aF hw.pu]<;>rfl,by lia,hlen,by decide,aZ,by simp[bv],fL⟩
  have hz:sE.getD (i+y.length) 0=0:=Jo _ (yq _);have aV:=nU (b:=2^64) (l:=sE) (i:=i+y.length) (x:=c) (by lia);rw[hz,xv,yS,Sq] at aV
  simp only[go_sem,ya,yk,aA,t1,t5,t6,t8,t20,t21,t22,hw.len,aF hv.pu,aF hw.pu,wrapN (n:=i+y.length) (by lia),show (i:Int)+(y.length:Int)=((i+y.length:Nat):Int) from rfl,cS 0 0 (show i+y.length<n by lia),yd,kI (l:=sE) (o:=i+y.length) (by lia)];refine⟨_,k-1,rfl,by lia,i+1,sE.set (i+y.length) c,?_,by lia,by simp[Sp],mf avt hc,?_,fun m hm=>?_⟩
  .rw [wrap64 (by lia) (by lia)];simp only[go_sem,ya,yc,aA,aF hv.pu,aF hw.pu]<;>rfl
  .rw [aV,aJ,jD,xL,<-ha,y5]
  .rw [pg (by lia)];exact Jo m (by lia)
 .right
  have:i=x.length:=by lia
  subst this;rw[xQ] at aJ;simp only[go_sem,ya,HT,show ¬(x.length:Int)<x.length by lia];exact⟨_,_,rfl,by simp,_,out,rfl,rfl,rfl,hlen,aZ,aJ⟩
def avu(h:Has P L 144 Nn)(mv:Has P L 166 BD)(mw:L.pure 143=D5 rW)(fU:L.pure 171=D5 nQ)(hv:bG v x)(hw:bG w y)(hx:lo (2^64) x)(hy:lo (2^64) y)(lx:x.length<=49999999999)(ly:y.length<=49999999999):
  ∃r out,af P L 144 [v,w] r/\bG r out/\lo (2^64) out/\gj out/\bv (2^64) out=bv (2^64) x*bv (2^64) y:=by
 obtain⟨n,hn⟩:∃n,n=x.length+y.length:=⟨_,rfl⟩;unfold af;rw[aH h]
 simp only[go_sem,ya,yc,Nn,hv.len,hw.len,wrapN (n:=n) (by lia),show (x.length:Int)+(y.length:Int)=((x.length+y.length:Nat):Int) from rfl,<-hn,Dt (n:=n) _ (by lia)];generalize hq:D P L (.loop _ HT) _=q;obtain⟨ex,s,rfl,tm,o,rfl,rfl,t5,hlen,aZ,aJ⟩:=bF hq (arl (P:=P) (L:=L) mw fU hv hw hx hy lx ly hn x.length)
  ⟨0,yy n 0,by simp only[go_sem,ya,yc,aA,aF hv.pu,aF hw.pu]<;>rfl,by lia,by simp,EO (by decide) n,by rw[EP];simp[bv],fun m _=>CJ n m⟩
 have hf:=mP ycG o;rw[hlen] at hf;have⟨r,e1,hr⟩:=BL mv hf (by lia);refine⟨r,_,?_,hr,A4 aZ,A3 _,by rw[A2];exact aJ⟩
 simp only[go_sem,yc,aA,t5,BK _ (n:=n) (l:=o) hlen ycG,e1,hr.shut,hr.eA]
end
section
variable {b s u u2 v1 v2 y:Nat}
def MX(n:Int):IntKind.wrap .u64 n=n%2^64:=by
 simp[IntKind.wrap,IntKind.signed,IntKind.bits]
def wrapM(n:Nat):IntKind.wrap .u64 (n:Int)=((n%2^64:Nat):Int):=by rw[MX];lia
def pO(a b:Nat):binOp .mul (uc a) (uc b)=D5 (uc (a*b%2^64)):=by
 rw[Z7,<-xx,wrapM]
def Bz(a b:Nat):binOp .add (uc a) (uc b)=D5 (uc ((a+b)%2^64)):=by
 rw[Z6,<-Int.natCast_add,wrapM]
def Du{a c:Nat}(h:(a+2^64-b)%2^64=c)(hb:b<=2^64):binOp .sub (uc a) (uc b)=D5 (uc c):=by
 rw[LU,MX]
 grind
def arm(k k':yZ)(a b:Int):binOp .shl (.int k a) (.int k' b)=CF .shl k a b:=rfl
def arn(k k':yZ)(a b:Int):binOp .shr (.int k a) (.int k' b)=CF .shr k a b:=rfl
def Jp(k:yZ)(a:Nat)(hs:s<=64):binOp .shl (.int .u64 (a:Int)) (.int k (s:Int))=D5 (uc (a*2^s%2^64)):=by
 rw[arm];simp only[CF,yx (show ¬(s:Int)<0 by lia),wz,IntKind.bits,xt hs];rw[show ((2:Int)^s)=((2^s:Nat):Int) by simp,<-xx,wrapM]
def Jq(k:yZ)(a:Nat)(hs:s<=64):binOp .shr (.int .u64 (a:Int)) (.int k (s:Int))=D5 (uc (a/2^s)):=by
 rw[arn];simp only[CF,yx (show ¬(s:Int)<0 by lia),wz,IntKind.bits,xt hs]
 grind
def adv(a:Nat):binOp .and (.int .u64 (a:Int)) (.int .u64 4294967295)=D5 (uc (a%4294967296)):=by
 show D5 (AV.int .u64 (IntKind.wrap .u64 ((we 64 (a:Int)&&&we 64 4294967295).toNat:Int)))=_
 rw[show we 64 (a:Int)=tg 64 a from th 64 a,show we 64 4294967295=tg 64 4294967295 from rfl];rw[BitVec.toNat_and,vH,vH,show (4294967295%2^64:Nat)=2^32-1 from rfl,Nat.and_two_pow_sub_one_eq_mod,wrapM]
 grind
def Vc{a:Nat}(ha:a<2^64)(hb:b<2^64):binOp .or (.int .u64 (a:Int)) (.int .u64 (b:Int))=D5 (uc (a|||b)):=by
 show D5 (AV.int .u64 (IntKind.wrap .u64 ((we 64 (a:Int)|||we 64 (b:Int)).toNat:Int)))=_
 congr 2
 rw[show we 64 (a:Int)=tg 64 a from th 64 a,show we 64 (b:Int)=tg 64 b from th 64 b];rw[BitVec.toNat_or,vH,vH,yK (show a<2^64 from ha),yK (show b<2^64 from hb),wrapM]
 have:a|||b<2^64:=Nat.or_lt_two_pow ha hb
 lia
def RN{p c:Nat}(h:c<2^s):(p*2^s)|||c=p*2^s+c:=by
 rw[<-Nat.shiftLeft_eq,<-Nat.shiftLeft_add_eq_or_of_lt h]
def Xo:∀(f n:Nat),n<2^f->jb f n<=f/\n<2^jb f n/\(0<n->0<jb f n/\2^(jb f n-1)<=n)
 | 0,n,h=>by simp[jb];simpa using h
 | f+1,n,h=>by
  simp only[jb];by_cases h0:n=0
  .simp_all
  .rw [iR h0,yJ];have⟨h1,h2,h3⟩:=Xo f (n/2) (by lia);refine⟨by lia,?_,fun _=>⟨by lia,?_⟩⟩
   .grind
   .rw [Nat.add_sub_cancel_left];by_cases hn:0<n/2
    .have ⟨h4,h5⟩:=h3 hn;obtain⟨m,hm⟩:∃m,jb f (n/2)=m+1:=⟨jb f (n/2)-1,by lia⟩
     grind
    .have hz:n/2=0:=by lia
     have:jb f 0=0:=by cases f with
      | zero=>rfl
      | succ f=>rfl
     grind
def Za(h0:0<y)(h:y<2^64):64-jb 64 y<64/\9223372036854775808<=y*2^(64-jb 64 y)/\y*2^(64-jb 64 y)<2^64:=by
 have⟨h1,h2,h3⟩:=Xo 64 y h;have⟨h4,h5⟩:=h3 h0;generalize jb 64 y=k at*
 refine⟨by lia,?_,?_⟩
 .have:=yL (2^(64-k)) h5
  rw[<-xB,show k-1+(64-k)=63 by lia] at this;exact this
 .have:=xP h2 (y7 (64-k))
  rw[<-xB,show k+(64-k)=64 by lia] at this;exact this
section
variable {P:aE}{L:Lib}{f:bZ}
def aaR(h:L.pure 167=D5 EV){x:Nat}(hx:x<2^64):bQ P L f 167 [uc x]=D5 (aa (64-jb 64 x:Nat)):=by
 rw[lX h];show (bif yF x (2^64) then _ else D6)=_
 rw[mZ hx];rfl
def ajD{t r:Nat}(cE:v2<b)(kG:t<b)(ht:t*v1+r=u)(h:b<=r\/t*v2<=b*r+u2):t*(v1*b+v2)<=u*b+u2:=by
 have h2:t*v2<=b*r+u2:=by
  rcases h with h | h
  .have:=xd (uk kG) (uk cE)
   have:=yR b h
   lia
  .exact h
 rw[xz,<-y5,<-ht,xL,xb r b];lia
def atZ(n:Nat):kM (.toInt .u64) (.int .i64 (n:Int))=D5 (uc (n%2^64)):=by
 show D5 (AV.int .u64 (IntKind.wrap .u64 (n:Int)))=_
 rw[wrapM]
def WQ{q r:Nat}(hy:y=v1*4294967296+v2)(cE:v2<4294967296)(FI:0<v1)(eC:v1<4294967296)(hu:u<y)(AB:u2<4294967296)(hq:q*v1+r=u)(hr:r<4294967296)(hQ:(u*4294967296+u2)/y<=q):
  (4294967296<=q\/4294967296*r+u2<q*v2->0<q/\(q-1)*v1+(r+v1)=u/\(u*4294967296+u2)/y<=q-1/\(4294967296<=r+v1->(u*4294967296+u2)/y=q-1))/\
  (¬4294967296<=q->q*v2<=4294967296*r+u2->(u*4294967296+u2)/y=q):=by
 have jU:0<y:=by lia
 have big:∀t s,t*v1+s=u->4294967296<=t->s<4294967296:=fun t s h1 h2=>by
  have:=yL v1 h2
  grind
 have aaS:∀t s,t*v1+s=u->t<4294967296->(4294967296<=s\/t*v2<=4294967296*s+u2)->(u*4294967296+u2)/y<=t->(u*4294967296+u2)/y=t:=fun t s h1 h2 h3 h4=>by
  have:=ajD cE h2 h1 h3
  rw[<-hy] at this
  have:=(tk jU).2 this
  lia
 constructor
 .intro h;have AD:0<q:=by
   grind
  have h1:(q-1)*v1+(r+v1)=u:=by
   obtain⟨p,rfl⟩:∃p,q=p+1:=⟨q-1,by lia⟩
   grind
  have h2:(u*4294967296+u2)/y<=q-1:=by
   have aB:u*4294967296+u2<q*y:=by
    rcases h with h | h
    .have h3:u*4294967296+u2<4294967296*y:=by lia
     exact yE h3 (yL y h)
    .rw [hy,xz,<-y5,<-hq,xL,xb r];lia
   have:=(xu jU).2 aB
   lia
  exact⟨AD,h1,h2,fun h3=>aaS _ _ h1 (by
   by_cases hb:4294967296<=q-1
   .have:=big _ _ h1 hb;lia
   .lia) (.inl h3) h2⟩
 .intro h1 h2;exact aaS q r hq (by lia) (.inr h2) hQ
def aro{z:Nat}(hy:y=v1*4294967296+v2)(cE:v2<4294967296)(FI:0<v1)(eC:v1<4294967296)(hu:u<y)(AB:u2<4294967296):
  cP P L [2,8,9,10,11,13,14,15,16] Bg (fun k st=>∃q r:Nat,st=⟨[(2,uc y),(8,uc s),(9,uc v1),(10,uc v2),(11,uc u),(13,uc u2),(14,uc z),(15,uc q),(16,uc r)],[],0,0⟩/\q*v1+r=u/\r<4294967296/\(u*4294967296+u2)/y<=q/\q=k) (fun ex st'=>∃tm ct,st'=⟨tm,[],ct,0⟩/\ex=.exit 0/\aj tm 2=uc y/\aj tm 8=uc s/\aj tm 9=uc v1/\aj tm 10=uc v2/\aj tm 11=uc u/\aj tm 13=uc u2/\aj tm 14=uc z/\aj tm 15=uc ((u*4294967296+u2)/y)):=by
 apply cT;rintro k st ⟨q,r,rfl,hq,hr,hQ,rfl⟩;have⟨g1,g2⟩:=WQ hy cE FI eC hu AB hq hr hQ;have hqb:q*1<=q*v1:=yR q FI;have avv:=yL 4294967296 (show v1<=4294967295 by lia);have oI:q<2^64:=by lia
 have UH:=yR 4294967296 (show r<=4294967295 by lia);have e1:=pO 4294967296 r;rw[show uc 4294967296=AV.int .u64 4294967296 from rfl,yK (show 4294967296*r<2^64 by lia)] at e1;have e2:=Bz (4294967296*r) u2;rw[yK (show 4294967296*r+u2<2^64 by lia)] at e2;have e4:=Bz r v1;rw[yK (show r+v1<2^64 by lia)] at e4;by_cases hc:4294967296<=q\/4294967296*r+u2<q*v2
 .have ⟨h0,h1,h2,h3⟩:=g1 hc;have e3:binOp .sub (uc q) (.int .u64 1)=D5 (uc (q-1)):=Du (b:=1) (by lia) (by lia);by_cases hb:4294967296<=r+v1
  .right
   have AE:=h3 hb;rcases (show 4294967296<=q\/(¬4294967296<=q/\4294967296*r+u2<q*v2) by lia) with t1 | ⟨t1,t2⟩
   .simp only [go_sem,ya,Bg,show (4294967296:Int)<=(q:Int) by lia,e3,e4,show (4294967296:Int)<=((r+v1:Nat):Int) by lia];exact⟨_,_,rfl,by simp,_,_,rfl,rfl,rfl,rfl,rfl,rfl,rfl,rfl,rfl,by rw[AE];simp only[go_sem,ya]⟩
   .have Vd:=xd (show q<=4294967295 by lia) (show v2<=4294967295 by lia);have e5:=pO q v2;rw[yK (show q*v2<2^64 by lia)] at e5;simp only[go_sem,ya,Bg,show ¬(4294967296:Int)<=(q:Int) by lia,e5,e1,e2,show ((4294967296*r+u2:Nat):Int)<((q*v2:Nat):Int) by lia,e3,e4,show (4294967296:Int)<=((r+v1:Nat):Int) by lia];exact⟨_,_,rfl,by simp,_,_,rfl,rfl,rfl,rfl,rfl,rfl,rfl,rfl,rfl,by rw[AE];simp only[go_sem,ya]⟩
  .left
   rcases (show 4294967296<=q\/(¬4294967296<=q/\4294967296*r+u2<q*v2) by lia) with t1 | ⟨t1,t2⟩
   .simp only [go_sem,ya,Bg,show (4294967296:Int)<=(q:Int) by lia,e3,e4,show ¬(4294967296:Int)<=((r+v1:Nat):Int) by lia];exact⟨_,q-1,rfl,by lia,q-1,r+v1,by simp only[go_sem,ya,aA],h1,by lia,h2,rfl⟩
   .have Vd:=xd (show q<=4294967295 by lia) (show v2<=4294967295 by lia);have e5:=pO q v2;rw[yK (show q*v2<2^64 by lia)] at e5;simp only[go_sem,ya,Bg,show ¬(4294967296:Int)<=(q:Int) by lia,e5,e1,e2,show ((4294967296*r+u2:Nat):Int)<((q*v2:Nat):Int) by lia,e3,e4,show ¬(4294967296:Int)<=((r+v1:Nat):Int) by lia];exact⟨_,q-1,rfl,by lia,q-1,r+v1,by simp only[go_sem,ya,aA],h1,by lia,h2,rfl⟩
 .right
  have AE:=g2 (by lia) (by lia);have e5:=pO q v2;rw[yK (show q*v2<2^64 by lia)] at e5;simp only[go_sem,ya,Bg,show ¬(4294967296:Int)<=(q:Int) by lia,e5,e1,e2,show ¬((4294967296*r+u2:Nat):Int)<((q*v2:Nat):Int) by lia];exact⟨_,_,rfl,by simp,_,_,rfl,rfl,rfl,rfl,rfl,rfl,rfl,rfl,rfl,by rw[AE];simp only[go_sem,ya]⟩
end
end
section
variable {P:aE}{L:Lib}{f:bZ}
def arp{y s v1 v2 u u2 z:Nat}(hy:y=v1*4294967296+v2)(cE:v2<4294967296)(FI:0<v1)(eC:v1<4294967296)(hu:u<y)(AB:u2<4294967296):
  cP P L [2,8,9,10,14,15,16,17,18] Bh (fun k st=>∃q r:Nat,st=⟨[(2,uc y),(8,uc s),(9,uc v1),(10,uc v2),(14,uc u2),(15,uc z),(16,uc r),(17,uc u),(18,uc q)],[],0,0⟩/\q*v1+r=u/\r<4294967296/\(u*4294967296+u2)/y<=q/\q=k) (fun ex st'=>∃tm ct,st'=⟨tm,[],ct,0⟩/\ex=.exit 2/\aj tm 2=uc y/\aj tm 8=uc s/\aj tm 9=uc v1/\aj tm 10=uc v2/\aj tm 14=uc u2/\aj tm 15=uc z/\aj tm 17=uc u/\aj tm 18=uc ((u*4294967296+u2)/y)):=by
 apply cT;rintro k st ⟨q,r,rfl,hq,hr,hQ,rfl⟩;have⟨g1,g2⟩:=WQ hy cE FI eC hu AB hq hr hQ;have hqb:q*1<=q*v1:=yR q FI;have avv:=yL 4294967296 (show v1<=4294967295 by lia);have oI:q<2^64:=by lia
 have UH:=yR 4294967296 (show r<=4294967295 by lia);have e1:=pO 4294967296 r;rw[show uc 4294967296=AV.int .u64 4294967296 from rfl,yK (show 4294967296*r<2^64 by lia)] at e1;have e2:=Bz (4294967296*r) u2;rw[yK (show 4294967296*r+u2<2^64 by lia)] at e2;have e4:=Bz r v1;rw[yK (show r+v1<2^64 by lia)] at e4;by_cases hc:4294967296<=q\/4294967296*r+u2<q*v2
 .have ⟨h0,h1,h2,h3⟩:=g1 hc;have e3:binOp .sub (uc q) (.int .u64 1)=D5 (uc (q-1)):=Du (b:=1) (by lia) (by lia);by_cases hb:4294967296<=r+v1
  .right
   have AE:=h3 hb;rcases (show 4294967296<=q\/(¬4294967296<=q/\4294967296*r+u2<q*v2) by lia) with t1 | ⟨t1,t2⟩
   .simp only [go_sem,ya,Bh,show (4294967296:Int)<=(q:Int) by lia,e3,e4,show (4294967296:Int)<=((r+v1:Nat):Int) by lia];exact⟨_,_,rfl,by simp,_,_,rfl,rfl,rfl,rfl,rfl,rfl,rfl,rfl,rfl,by rw[AE];simp only[go_sem,ya]⟩
   .have Vd:=xd (show q<=4294967295 by lia) (show v2<=4294967295 by lia);have e5:=pO q v2;rw[yK (show q*v2<2^64 by lia)] at e5;simp only[go_sem,ya,Bh,show ¬(4294967296:Int)<=(q:Int) by lia,e5,e1,e2,show ((4294967296*r+u2:Nat):Int)<((q*v2:Nat):Int) by lia,e3,e4,show (4294967296:Int)<=((r+v1:Nat):Int) by lia];exact⟨_,_,rfl,by simp,_,_,rfl,rfl,rfl,rfl,rfl,rfl,rfl,rfl,rfl,by rw[AE];simp only[go_sem,ya]⟩
  .left
   rcases (show 4294967296<=q\/(¬4294967296<=q/\4294967296*r+u2<q*v2) by lia) with t1 | ⟨t1,t2⟩
   .simp only [go_sem,ya,Bh,show (4294967296:Int)<=(q:Int) by lia,e3,e4,show ¬(4294967296:Int)<=((r+v1:Nat):Int) by lia];exact⟨_,q-1,rfl,by lia,q-1,r+v1,by simp only[go_sem,ya,aA],h1,by lia,h2,rfl⟩
   .have Vd:=xd (show q<=4294967295 by lia) (show v2<=4294967295 by lia);have e5:=pO q v2;rw[yK (show q*v2<2^64 by lia)] at e5;simp only[go_sem,ya,Bh,show ¬(4294967296:Int)<=(q:Int) by lia,e5,e1,e2,show ((4294967296*r+u2:Nat):Int)<((q*v2:Nat):Int) by lia,e3,e4,show ¬(4294967296:Int)<=((r+v1:Nat):Int) by lia];exact⟨_,q-1,rfl,by lia,q-1,r+v1,by simp only[go_sem,ya,aA],h1,by lia,h2,rfl⟩
 .right
  have AE:=g2 (by lia) (by lia);have e5:=pO q v2;rw[yK (show q*v2<2^64 by lia)] at e5;simp only[go_sem,ya,Bh,show ¬(4294967296:Int)<=(q:Int) by lia,e5,e1,e2,show ¬((4294967296*r+u2:Nat):Int)<((q*v2:Nat):Int) by lia];exact⟨_,_,rfl,by simp,_,_,rfl,rfl,rfl,rfl,rfl,rfl,rfl,rfl,rfl,by rw[AE];simp only[go_sem,ya]⟩
def ab4(a:Nat):binOp .shr (.int .u64 (a:Int)) (.int .u64 32)=D5 (uc (a/4294967296)):=Jq .u64 a (s:=32) (by decide)
def adw(a:Nat){b:Nat}(ha:a<2^64)(hb:0<b):binOp .quo (uc a) (uc b)=D5 (uc (a/b)):=by
 rw[dE _ _ _ (by lia),xJ (by lia),<-Int.natCast_ediv,wrapM,yK];exact xY (wU a b) ha
def avw(a:Nat){b:Nat}(hb:0<b):binOp .rem (uc a) (uc b)=D5 (uc (a%b)):=by
 rw[dY _ _ _ (by lia),xI (by lia),<-Int.natCast_emod]
def ajE{hi lo y s u z Y:Nat}(hs:s<64)(aZ:lo<2^64)(hY:Y=y*2^s)(hu:u=hi*2^s+lo/2^(64-s))(hz:z=lo*2^s%2^64):
  (hi*2^64+lo)*2^s=u*2^64+z:=by
 have e:2^64=2^(64-s)*2^s:=by rw[<-xB,show 64-s+s=64 by lia]
 have h1:lo*2^s/2^64=lo/2^(64-s):=by
  rw[e,tn _ _ (y7 s)]
 grind
def Ye{Y q a b:Nat}(h1:a<Y)(h2:b<4294967296)(h3:q=(a*4294967296+b)/Y):q<4294967296:=by
 rw[h3];exact (xu (by lia)).2 (by lia)
def alI{u w x z z0 z1 q0 q1 Y:Nat}(zg:q1*Y+w=u*4294967296+z1)(gU:q0*Y+x=w*4294967296+z0)(hz:z=z1*4294967296+z0):u*2^64+z=(q1*4294967296+q0)*Y+x:=by grind
def aie{q1 q0:Nat}(h1:q1<4294967296)(h0:q0<4294967296):q1*4294967296<2^64/\q1*4294967296+q0<2^64:=by lia
def adx(h:Has P L 165 I0)(Jr:L.pure 167=D5 EV){hi lo y:Nat}(fL:hi<y)(aZ:lo<2^64)(hy:y<2^64):
  af P L 165 [uc hi,uc lo,uc y] (.ay [uc ((hi*2^64+lo)/y),uc ((hi*2^64+lo)%y)]):=by
 have jU:0<y:=by lia
 by_cases h0:hi=0
 .subst h0;have e1:=adw lo aZ jU;have e2:=avw lo jU;rw[wh,yd];unfold af;rw[aH h];simp only[go_sem,ya,I0,show ¬(y:Int)=0 by lia,show ¬(y:Int)<=0 by lia,show ((0:Nat):Int)=0 from rfl,e1,e2];rfl
 .obtain ⟨s,hs⟩:∃s,s=64-jb 64 y:=⟨_,rfl⟩;have hl:=aaR (P:=P) (f:=D P L) Jr hy;have⟨l1,l2,l3⟩:=Za jU hy;rw[<-hs] at hl l1 l2 l3;obtain⟨Y,hY⟩:∃Y,Y=y*2^s:=⟨_,rfl⟩;obtain⟨u,hu⟩:∃u,u=hi*2^s+lo/2^(64-s):=⟨_,rfl⟩;obtain⟨z,hz⟩:∃z,z=lo*2^s%2^64:=⟨_,rfl⟩;have hdiv:=ajE l1 aZ hY hu hz;rw[<-hY] at l2 l3;have hp:=y7 s;obtain⟨v1,eC⟩:∃v,v=Y/4294967296:=⟨_,rfl⟩;obtain⟨v2,cE⟩:∃v,v=Y%4294967296:=⟨_,rfl⟩;have hYv:Y=v1*4294967296+v2:=by lia
  obtain⟨z1,lQ⟩:∃v,v=z/4294967296:=⟨_,rfl⟩;obtain⟨z0,lR⟩:∃v,v=z%4294967296:=⟨_,rfl⟩;have FJ:z<2^64:=by lia
  have hhY:hi*2^s<Y:=by rw[hY];exact xP fL hp
  have fG:lo/2^(64-s)<2^s:=by
   refine (xu (y7 _)).2 ?_;rw[<-xB,show s+(64-s)=64 by lia];exact aZ
  have oA:hi*2^s|||lo/2^(64-s)=u:=by rw[RN fG,hu]
  have hN:hi*2^64+lo<y*2^64:=by
   have:=yL (2^64) (show hi+1<=y from fL)
   lia
  have Ve:u<Y:=by
   have h1:=xP hN hp;rw[hdiv,Nat.mul_right_comm,<-hY] at h1
   lia
  obtain⟨q1,fc⟩:∃q,q=(u*4294967296+z1)/Y:=⟨_,rfl⟩;obtain⟨w,hw⟩:∃q,q=(u*4294967296+z1)%Y:=⟨_,rfl⟩;obtain⟨q0,AD⟩:∃q,q=(w*4294967296+z0)/Y:=⟨_,rfl⟩;obtain⟨x,hx⟩:∃q,q=(w*4294967296+z0)%Y:=⟨_,rfl⟩;have OX:w<Y:=by rw[hw];exact xp _ (by lia)
  have Vf:x<Y:=by rw[hx];exact xp _ (by lia)
  have zg:=xK (u*4294967296+z1) Y;rw[<-fc,<-hw,xb] at zg;have gU:=xK (w*4294967296+z0) Y;rw[<-AD,<-hx,xb] at gU;have avx:=Ye Ve (show z1<4294967296 by lia) fc;have avy:=Ye OX (show z0<4294967296 by lia) AD;have⟨td1,td2⟩:=aie avx avy;have ady:(hi*2^64+lo)*2^s=(q1*4294967296+q0)*Y+x:=by
   rw[hdiv];exact alI zg gU (by lia)
  have r1:(hi*2^64+lo)/y=q1*4294967296+q0:=by
   rw[<-tn _ _ hp,ady,<-hY,xb _ Y,uL (by lia),xH Vf,yS]
  have r2:x/2^s=(hi*2^64+lo)%y:=by
   have h1:x=(hi*2^64+lo)*2^s%(y*2^s):=by
    rw[ady,<-hY,xb _ Y,uM,yK Vf]
   rw[h1,vR,Nat.mul_div_cancel _ hp]
  have o1:=Jp .u64 y (s:=s) (by lia);rw[<-hY,yK l3] at o1;have o2:=ab4 Y;rw[<-eC] at o2;have o3:=adv Y;rw[<-cE] at o3;have o4:=Jp .u64 hi (s:=s) (by lia);rw[yK (show hi*2^s<2^64 by lia)] at o4;have o5:binOp .sub (.int .u64 64) (uc s)=D5 (uc (64-s)):=Du (a:=64) (by lia) (by lia);have o6:=Jq .u64 lo (s:=64-s) (by lia);have o7:=Vc (a:=hi*2^s) (b:=lo/2^(64-s)) (by lia) (xY (wU _ _) aZ);rw[oA] at o7;have o8:=Jp .u64 lo (s:=s) (by lia);rw[<-hz] at o8;have o9:=ab4 z;rw[<-lQ] at o9;have o10:=adv z;rw[<-lR] at o10;have Fc:0<v1:=by lia
  have ab5:∀{a:Nat},a<Y->binOp .quo (uc a) (uc v1)=D5 (uc (a/v1))/\binOp .mul (uc (a/v1)) (uc v1)=D5 (uc (a/v1*v1))/\binOp .sub (uc a) (uc (a/v1*v1))=D5 (uc (a%v1)):=fun {a} ha=>by
   have h1:=xK a v1;rw[xb] at h1;have h2:=pO (a/v1) v1;generalize a/v1*v1=m at*
   rw[yK (show m<2^64 by lia)] at h2;exact⟨adw a (by lia) Fc,h2,Du (by lia) (by lia)⟩
  have⟨g1,g2,g3⟩:=ab5 Ve;have⟨g4,g5,g6⟩:=ab5 OX;have first:∀{a b:Nat},b<4294967296->(a*4294967296+b)/Y<=a/v1:=fun {a b} hb=>by
   have:=Py (b:=4294967296) (V:=Y) (v1:=v1) (v2:=v2) (vr:=0) (U:=a*4294967296+b) (u0:=0) (u1:=a) (u2:=b) (ur:=0) (p:=1) (by lia) (by lia) (by decide) hb Fc
   simpa using this
  have back:∀{a b q x:Nat},a*4294967296+b=q*Y+x->x<Y->binOp .mul (uc a) (.int .u64 4294967296)=D5 (uc (a*4294967296%2^64))/\binOp .add (uc (a*4294967296%2^64)) (uc b)=D5 (uc ((a*4294967296%2^64+b)%2^64))/\
    binOp .mul (uc q) (uc Y)=D5 (uc (q*Y%2^64))/\binOp .sub (uc ((a*4294967296%2^64+b)%2^64)) (uc (q*Y%2^64))=D5 (uc x):=fun {a b q x} h1 h2=>by
   refine⟨pO a 4294967296,Bz _ _,pO q Y,Du ?_ (by lia)⟩;generalize q*Y=m at*
   lia
  have⟨k1,k2,k3,k4⟩:=back zg.symm OX;have⟨k5,k6,k7,k8⟩:=back gU.symm Vf;have m1:=pO q1 4294967296;rw[yK td1,show uc 4294967296=AV.int .u64 4294967296 from rfl] at m1;have m2:=Bz (q1*4294967296) q0;rw[yK td2] at m2;have m3:=Jq .u64 x (s:=s) (by lia);rw[r1,<-r2];unfold af;rw[aH h];simp only[go_sem,ya,I0,show ¬(y:Int)=0 by lia,show ¬(y:Int)<=(hi:Int) by lia,show ¬(hi:Int)=0 by lia,hl,atZ,yK (show s<2^64 by lia),o1,o2,o3,o4,o5,o6,o7,o8,o9,o10,g1,g2,g3];generalize mH:D P L (.loop _ Bg) _=qq
  obtain⟨ex,st,rfl,tm,ct,rfl,rfl,t2,t8,t9,t10,t11,t13,t14,t15⟩:=bF mH (aro (P:=P) (L:=L) (s:=s) (z:=z0) hYv (by lia) Fc (by lia) Ve (show z1<4294967296 by lia) (u/v1)) ⟨u/v1,u%v1,by simp only[go_sem,ya,aA],by rw[xb];exact xK u v1,by have:=xp u Fc;lia,first (by lia),rfl⟩
  rw[<-fc] at t15;simp only[go_sem,ya,aA,t2,t8,t9,t10,t11,t13,t14,t15,k1,k2,k3,k4,g4,g5,g6];generalize Dv:D P L (.loop _ Bh) _=Vg;obtain⟨ex,st,rfl,om,ct2,rfl,rfl,t2,t8,t9,t10,t14,t15,t17,t18⟩:=bF Dv (arp (P:=P) (L:=L) (s:=s) (z:=q1) hYv (by lia) Fc (by lia) OX (show z0<4294967296 by lia) (w/v1)) ⟨w/v1,w%v1,by simp only[go_sem,ya,aA],by rw[xb];exact xK w v1,by have:=xp w Fc;lia,first (by lia),rfl⟩
  rw[<-AD] at t18;simp only[go_sem,ya,aA,t2,t8,t14,t15,t17,t18,m1,m2,k5,k6,k7,k8,m3];rfl
end
mutual
def below(n:Nat):AV->Prop
 | .ptr id _=>id<n
 | .av id _ _=>id<n
 | .map id=>id<n
 | .it id=>id<n
 | .fn (.f _) first cap=>j0 n first/\j0 n cap
 | .fn (.y l) first cap=>l<n/\first=[]/\cap=[]
 | .agg cs=>j0 n cs
 | .ay cs=>j0 n cs
 | _=>True
def j0(n:Nat):List AV->Prop
 | []=>True
 | v::r=>below n v/\j0 n r
end
def hZ(n:Nat):Env->Prop
 | []=>True
 | (_,v)::r=>below n v/\hZ n r
def mU(n:Nat):Obj->Prop
 | .cells _ pu _ _ cs=>pu=ycG\/j0 n cs
 | .mp _ ks vs=>j0 n ks/\j0 n vs
 | .si _ _=>True
 | .lp tm _ _ _ _ _=>hZ n tm
def ef(b n:Nat):Hp->Prop
 | []=>True
 | (id,o)::r=>id<b/\mU n o/\ef b n r
mutual
def Yf{f:Nat->Option Nat}{n:Nat}(hf:∀x,x<n->f x=D5 x):∀{v:AV},below n v->bi f v=v
 | .int _ _,_ | .bool _,_ | .au _ _,_ | .cK _ _ _,_ | .str _,_ | .jq,_ | .bJ _,_ | .ah,_ | .aq _ _ _,_ | .fR,_ | .iw,_ | .iz _ _,_ | .undef,_ | .cu _ _ _ _,_=>rfl
 | .ptr id o,h=>by simp only[bi,hf id h]
 | .av id o k,h=>by simp only[bi,hf id h]
 | .map id,h=>by simp only[bi,hf id h]
 | .it id,h=>by simp only[bi,hf id h]
 | .fn (.y l) first cap,h=>by
  obtain⟨h1,rfl,rfl⟩:=h;simp only[bi,hf l h1,dd]
 | .fn (.f _) first cap,h=>by
  simp only[bi,AT hf h.1,AT hf h.2]
 | .agg cs,h=>by simp only[below] at h;simp only[bi,AT hf h]
 | .ay cs,h=>by simp only[below] at h;simp only[bi,AT hf h]
def AT{f:Nat->Option Nat}{n:Nat}(hf:∀x,x<n->f x=D5 x):∀{vs:List AV},j0 n vs->dd f vs=vs
 | [],_=>rfl
 | v::r,h=>by simp only[dd,Yf hf h.1,AT hf h.2]
end
def K9{f:Nat->Option Nat}{n:Nat}(hf:∀x,x<n->f x=D5 x):∀{tm:Env},hZ n tm->dt f tm=tm
 | [],_=>rfl
 | (_,v)::r,h=>by simp only[dt,Yf hf h.1,K9 hf h.2]
def Xp{f:Nat->Option Nat}{n:Nat}(hf:∀x,x<n->f x=D5 x):∀{o:Obj},mU n o->fC f o=o
 | .cells _ pu _ _ cs,h=>by
  cases pu with
  | true=>rfl
  | false=>simp only[mU,yA,false_or] at h;simp only[fC,yJ,AT hf h]
 | .mp _ ks vs,h=>by simp only[fC,AT hf h.1,AT hf h.2]
 | .si _ _,_=>rfl
 | .lp tm _ _ _ _ _,h=>by simp only[mU] at h;simp only[fC,K9 hf h]
mutual
def Xq{n:Nat}:∀{v:AV},below n v->∀x,x∈refs v->x<n
 | .int _ _,_,x,h | .bool _,_,x,h | .au _ _,_,x,h | .cK _ _ _,_,x,h | .str _,_,x,h | .jq,_,x,h | .bJ _,_,x,h | .ah,_,x,h | .aq _ _ _,_,x,h | .fR,_,x,h | .iw,_,x,h | .iz _ _,_,x,h | .undef,_,x,h | .cu _ _ _ _,_,x,h=>by simp[refs] at h
 | .ptr id o,h,x,hx=>by simp only[refs,xy] at hx;subst hx;exact h
 | .av id o k,h,x,hx=>by simp only[refs,xy] at hx;subst hx;exact h
 | .map id,h,x,hx=>by simp only[refs,xy] at hx;subst hx;exact h
 | .it id,h,x,hx=>by simp only[refs,xy] at hx;subst hx;exact h
 | .fn (.y l) first cap,h,x,hx=>by simp only[refs,xy] at hx;subst hx;exact h.1
 | .fn (.f _) first cap,h,x,hx=>by
  simp only[refs,xD] at hx;exact hx.elim (AR h.1 x) (AR h.2 x)
 | .agg cs,h,x,hx=>by simp only[below] at h;simp only[refs] at hx;exact AR h x hx
 | .ay cs,h,x,hx=>by simp only[below] at h;simp only[refs] at hx;exact AR h x hx
def AR{n:Nat}:∀{vs:List AV},j0 n vs->∀x,x∈eG vs->x<n
 | [],_,x,h=>by simp[eG] at h
 | v::r,h,x,hx=>by
  simp only[eG,xD] at hx;exact hx.elim (Xq h.1 x) (AR h.2 x)
end
def KS{n:Nat}:∀{tm:Env},hZ n tm->∀x,x∈ck tm->x<n
 | [],_,x,h=>by simp[ck] at h
 | (_,v)::r,h,x,hx=>by
  simp only[ck,xD] at hx;exact hx.elim (Xq h.1 x) (KS h.2 x)
def ahv{n:Nat}:∀{o:Obj},mU n o->∀x,x∈gD o->x<n
 | .cells _ pu _ _ cs,h,x,hx=>by
  cases pu with
  | true=>simp[gD] at hx
  | false=>simp only[mU,yA,false_or] at h;exact AR h x hx
 | .mp _ ks vs,h,x,hx=>by
  simp only[gD,xD] at hx;exact hx.elim (AR h.1 x) (AR h.2 x)
 | .si _ _,_,x,hx=>by simp[gD] at hx
 | .lp tm _ _ _ _ _,h,x,hx=>by simp only[mU] at h;exact KS h x hx
def fm(B:Nat):List (List AV)->Hp
 | []=>[]
 | cs::r=>(B+r.length,.cells ycG ycG ycG 1 cs)::fm B r
def Dc(B:Nat):List (List AV)->Hp->Hp
 | [],acc=>acc
 | cs::r,acc=>Dc (B+1) r ((B,.cells ycG ycG ycG 1 cs)::acc)
def Xr:∀(l:List (List AV)) (B:Nat) (x:List AV) (acc:Hp),Dc B (l++[x]) acc=(B+l.length,.cells ycG ycG ycG 1 x)::Dc B l acc
 | [],B,x,acc=>rfl
 | c::l,B,x,acc=>by
  simp only[ym,Dc,Xr l,yH]
  grind
def Qb(B:Nat)(acc:Hp):∀rs:List (List AV),Dc B rs.reverse acc=fm B rs++acc
 | []=>rfl
 | c::r=>by
  simp only[yaX,Xr,Qb B acc r,yaN,fm,ym]
def Qc{B:Nat}{old:Hp}:∀{rs:List (List AV)} {i:Nat} (h:i<rs.length),ai (fm B rs++old) (B+i)=D5 (.cells ycG ycG ycG 1 (rs.reverse[i]'(by simpa using h)))
 | c::r,i,h=>by
  simp only[fm,ym,yaX];by_cases hi:i=r.length
  .subst hi;rw[ai,wC,yr]
   simp
  .have aB:i<r.length:=by grind
   rw[ai,iR (by lia),yJ,Qc aB]
   grind
def mV{a b:Nat}(h:a<b):yF a b=ycG:=by simp_all
def qO{a b:Nat}(h:b<=a):yF a b=ycH:=by
 cases hq:yF a b with
 | false=>rfl
 | true=>have:=yv hq;lia
def G2{B:Nat}{old:Hp}:∀rs:List (List AV),bH B (fm B rs++old)=bH B old
 | []=>rfl
 | c::r=>by
  simp only[fm,ym];rw[bH,qO (by lia),yJ,G2 r]
def PN{B:Nat}{old:Hp}{f:Nat->Option Nat}:∀rs:List (List AV),eM B f (fm B rs++old)=eM B f old
 | []=>rfl
 | c::r=>by
  simp only[fm,ym];rw[eM,qO (by lia),yJ,PN r]
def KT{B n:Nat}{f:Nat->Option Nat}(hf:∀x,x<n->f x=D5 x):∀{old:Hp},ef B n old->eM B f old=old
 | [],_=>rfl
 | (id,o)::r,h=>by
  rw[eM,mV h.1,yr,Xp hf h.2.1,KT hf h.2.2]
def aif{B s x:Nat}(h:B+s<=x):iA x (xS B s)=ycH:=by
 induction s generalizing B with
 | zero=>rfl
 | succ s ih=>rw[vA,iA,iR (by lia),yJ,ih (by lia)]
def La{hp:Hp}{B R:Nat}(n9:∀i,i<R->∃rw ex sz cs,ai hp (B+i)=D5 (.cells rw ycG ex sz cs)):
  ∀(W:List Nat) (bh s:Nat),W.length<bh->s<=R->W.filter (fun x=> !yF x B)=xS (B+s) (R-s)->reach hp B bh W (xS B s)=xS B R
 | [],0,s,hf,_,_=>by simp at hf
 | [],bh+1,s,hf,hs,h=>by
  have:R-s=0:=by
   grind
  rw[reach,show R=s by lia]
 | id::W,0,s,hf,_,_=>by simp at hf
 | id::W,bh+1,s,hf,hs,h=>by
  have BX:W.length<bh:=by simp_all
  rw[reach];by_cases hid:id<B
  .rw [mV hid,Bool.true_or,yr];rw[ybf,mV hid] at h;exact La n9 W bh s BX hs (by simpa using h)
  .rw [ybf,qO (by lia)] at h;have hRs:R-s=(R-s-1)+1:=by
    have:=congrArg xW h
    grind
   rw[hRs,vA] at h;injection h with h1 h2
   subst h1;rw[qO (by lia),yaU,aif (yq _),yJ];have⟨rw,ex,sz,cs,ho⟩:=n9 s (by lia);simp only[ho,gD,yr,yD];have e:xS B s++[B+s]=xS B (s+1):=by rw[List.range'_concat];simp
   rw[e];exact La n9 W bh (s+1) BX (by lia) (by rw[h2,show R-s-1=R-(s+1) by lia,show B+s+1=B+(s+1) by lia])
def aih{B s i k:Nat}(h:i<s):fS (B+i) (xS B s) k=D5 (k+i):=by
 induction s generalizing B i k with
 | zero=>lia
 | succ s ih=>
  rw[vA,fS];by_cases hi:i=0
  .simp_all
  .rw [iR (by lia),yJ]
   have:=ih (B:=B+1) (i:=i-1) (k:=k+1) (by lia)
   grind
def WR{B R x:Nat}(h:x<B+R):fA B (xS B R) x=D5 x:=by
 unfold fA;by_cases hx:x<B
 .rw [mV hx,yr]
 .rw [qO (by lia),yJ]
  have:=aih (B:=B) (s:=R) (i:=x-B) (k:=B) (by lia)
  grind
def PO{hp:Hp}{f:Nat->Option Nat}:∀(ro:List (List AV)) (B:Nat) (acc:Hp),(∀i (h:i<ro.length),ai hp (B+i)=D5 (.cells ycG ycG ycG 1 ro[i]))->dP hp f (xS B ro.length) B acc=Dc B ro acc
 | [],B,acc,_=>rfl
 | c::r,B,acc,h=>by
  have h0:=h 0 (by simp);simp only[yS,List.getElem_cons_zero] at h0;rw[yH,vA,dP];simp only[h0,fC,yr,Dc]
  exact PO r (B+1) _ (fun i hi=>by
   have:=h (i+1) (by simpa using hi)
   rw[show B+1+i=B+(i+1) by lia,this]
   simp)
def ag0{live:List Nat}{tm:Env}{B ct:Nat}{old:Hp}{rs:List (List AV)}(ht:hZ B (aY tm live))(ho:ef B (B+rs.length) old)(hl:(ck (aY tm live)).length+(bH B old).length<100000)(hr:(bH B old).filter (fun x=> !yF x B)=xS B rs.length):bg live ⟨tm,fm B rs++old,ct,B⟩=⟨aY tm live,fm B rs++old,B+rs.length,B⟩:=by
 have n9:∀i (h:i<rs.length),ai (fm B rs++old) (B+i)=D5 (.cells ycG ycG ycG 1 (rs.reverse[i]'(by simpa using h))):=fun i h=>Qc h
 have MG:reach (fm B rs++old) B 100000 (ck (aY tm live)++bH B (fm B rs++old)) []=xS B rs.length:=by
  have:=La (hp:=fm B rs++old) (B:=B) (R:=rs.length) (fun i hi=>⟨_,_,_,_,n9 i hi⟩) (ck (aY tm live)++bH B (fm B rs++old)) 100000 0 (by rw[G2,yC];exact hl) (uV _) (by
   rw[List.filter_append,G2,hr,tA.2 (fun x hx=>by
    have:=KS ht x hx
    simp[mV this])]
   simp)
  grind
 have hid:∀x,x<B+rs.length->fA B (xS B rs.length) x=D5 x:=fun x hx=>WR hx
 have hn:=PO (hp:=fm B rs++old) (f:=fA B (xS B rs.length)) rs.reverse B old (fun i hi=>n9 i (by simpa using hi));rw[yaN] at hn;simp only[bg,MG,PN,KT hid ho,hn,Qb,List.length_range']
 rw[K9 (n:=B) (fun x hx=>hid x (by lia)) ht]
def Eb{B b n:Nat}(hb:b<=B):∀{H:Hp},ef b n H->∀x,x∈bH B H->x<n
 | [],_,x,hx=>by simp[bH] at hx
 | (id,o)::r,h,x,hx=>by
  rw[bH,mV (by have:=h.1;lia),yr,xD] at hx
  exact hx.elim (ahv h.2.1 x) (Eb hb h.2.2 x)
def Pz{live:List Nat}{tm:Env}{B ct:Nat}{old:Hp}(ht:hZ B (aY tm live))(ho:ef B B old)(hl:(ck (aY tm live)).length+(bH B old).length<100000):
  bg live ⟨tm,old,ct,B⟩=⟨aY tm live,old,B,B⟩:=by
 have:=ag0 (rs:=[]) (ct:=ct) ht (by simpa using ho) hl (by
  rw[tA.2 (fun x hx=>by have:=Eb (yq B) ho x hx;simp[mV this])]
  rfl)
 simpa[fm] using this
section
variable {hp:Hp}{ps:List Nat}{ct:Nat}
def HG{n:Nat}{F:az}(h:Has P L n F){ap:List AV}{ex:Ex}{s:St}{v:AV}(hD:D P L F.body ⟨eL 0 ap,hp,ct,ct⟩=D5 (ex,s))(he:ex=.normal\/ex=.ret)(hr:ig s F.eA=D5 v):
  ir P L (D P L) hp ct n ap=D5 (v,s.hp,s.ct):=by
 simp only[ir,h.heap,h.code,hD]
 grind
def LC{l:Nat}{xs:List AV}{tm tm' gO om:Env}{sR Ap:List Nat}{a b a1 b1 a2 b2:VC}{pe p7 pe2:sn}{s1 s2:St}(h1:ai hp l=D5 (.lp tm ps a b 0 pe))(h2:qK tm ps xs=D5 tm')(h3:D P L a ⟨tm',hp,ct,ct⟩=D5 (.normal,s1))(h4:ai s1.hp l=D5 (.lp gO sR a1 b1 0 p7))(h5:D P L b ⟨s1.tm,aV s1.hp l (.lp gO sR a1 b1 1 p7),s1.ct,s1.ct⟩=D5 (.normal,s2))(h6:ai s2.hp l=D5 (.lp om Ap a2 b2 1 pe2)):
  iP (D P L) hp ct l xs=D5 (.bool ycG,aV s2.hp l (.lp om Ap a2 b2 0 .none),s2.ct):=by
 simp only[iP,h1,h2,h3,h4,h5,h6]
def ab6{f:X}{as_ body:VC}{s:St}{n:Nat}{first cap:List AV}{v:AV}{tm:Env}{ps':List Nat}{a b:VC}{st:Nat}(h1:aw s.tm f=.fn (.f n) first cap)(h2:L.heap n=D6)(h3:ir P L (D P L) ((s.ct,.lp s.tm ps as_ body 0 .none)::s.hp) (s.ct+1) n (first++(.fn (.y s.ct) [] []::cap))=D5 (v,hp,ct))(h4:ai hp s.ct=D5 (.lp tm ps' a b st .none))(h5:st≠1):D P L (.rf f ps as_ body) s=D5 (.normal,⟨s.tm,cl hp s.ct,ct,s.base⟩):=by
 rw[km];simp only[br,h1,h2,h3,h4,iR h5,yJ]
def WS{b b' n n':Nat}(hb:b<=b')(hn:∀o,mU n o->mU n' o):∀{H:Hp},ef b n H->ef b' n' H
 | [],_=>trivial
 | (id,o)::r,h=>⟨yE h.1 hb,hn o h.2.1,WS hb hn h.2.2⟩
mutual
def Xs{n n':Nat}(h:n<=n'):∀{v:AV},below n v->below n' v
 | .int _ _,_ | .bool _,_ | .au _ _,_ | .cK _ _ _,_ | .str _,_ | .jq,_ | .bJ _,_ | .ah,_ | .aq _ _ _,_ | .fR,_ | .iw,_ | .iz _ _,_ | .undef,_ | .cu _ _ _ _,_=>trivial
 | .ptr _ _,k=>yE k h
 | .av _ _ _,k=>yE k h
 | .map _,k=>yE k h
 | .it _,k=>yE k h
 | .fn (.f _) _ _,k=>⟨AS h k.1,AS h k.2⟩
 | .fn (.y _) _ _,k=>⟨yE k.1 h,k.2⟩
 | .agg cs,k=>by simp only[below] at k ⊢;exact AS h k
 | .ay cs,k=>by simp only[below] at k ⊢;exact AS h k
def AS{n n':Nat}(h:n<=n'):∀{vs:List AV},j0 n vs->j0 n' vs
 | [],_=>trivial
 | _::_,k=>⟨Xs h k.1,AS h k.2⟩
end
def PA{n n':Nat}(h:n<=n'):∀{tm:Env},hZ n tm->hZ n' tm
 | [],_=>trivial
 | (_,_)::_,k=>⟨Xs h k.1,PA h k.2⟩
def ahw{n n':Nat}(h:n<=n'):∀{o:Obj},mU n o->mU n' o
 | .cells _ pu _ _ cs,k=>k.imp id (AS h)
 | .mp _ ks vs,k=>⟨AS h k.1,AS h k.2⟩
 | .si _ _,_=>trivial
 | .lp tm _ _ _ _ _,k=>by simp only[mU] at k ⊢;exact PA h k
mutual
def fO{n:Nat}:∀{v:AV},aS v=ycG->below n v
 | .int _ _,_ | .bool _,_ | .au _ _,_ | .cK _ _ _,_ | .str _,_ | .jq,_ | .bJ _,_ | .ah,_ | .aq _ _ _,_ | .fR,_ | .iw,_ | .iz _ _,_ | .undef,_=>trivial
 | .cu _ _ _ _,_=>trivial
 | .ptr _ _,h | .av _ _ _,h | .map _,h | .it _,h=>by simp[aS] at h
 | .fn (.y _) _ _,h=>by simp[aS] at h
 | .fn (.f _) _ _,h=>by
  simp only[aS,ye] at h;exact⟨G6 h.1,G6 h.2⟩
 | .agg cs,h=>by simp only[aS] at h;simp only[below];exact G6 h
 | .ay cs,h=>by simp only[aS] at h;simp only[below];exact G6 h
def G6{n:Nat}:∀{vs:List AV},aD vs=ycG->j0 n vs
 | [],_=>trivial
 | _::_,h=>by
  simp only[aD,ye] at h;exact⟨fO h.1,G6 h.2⟩
end
end
section
variable {pre x post:List Nat}{i:Nat}
def pk:(pre++x++post).length=pre.length+x.length+post.length:=by grind
def CK(h:i<x.length):(pre++x++post).getD (pre.length+i) 0=x.getD i 0:=by grind
def LZ(a:Nat)(h:i<x.length):(pre++x++post).set (pre.length+i) a=pre++x.set i a++post:=by simp_all
end
def mg(n:Nat)(k:yZ)(a:Int):below n (.int k a)=True:=rfl
def mW(n id o k:Nat):below n (.av id o k)=(id<n):=rfl
def mb(n:Nat):hZ n []=True:=rfl
def lY(n i:Nat)(v:AV)(r:Env):hZ n ((i,v)::r)=(below n v/\hZ n r):=rfl
def qJ{live:List Nat}{tm:Env}{ct:Nat}{a b:List AV}(ht:hZ 2 (aY tm live))(hl:(ck (aY tm live)).length<100000):
  bg live ⟨tm,[(1,.cells ycG ycG ycG 1 a),(0,.cells ycG ycG ycG 1 b)],ct,2⟩=⟨aY tm live,[(1,.cells ycG ycG ycG 1 a),(0,.cells ycG ycG ycG 1 b)],2,2⟩:=
 Pz ht ⟨by lia,.inl rfl,by lia,.inl rfl,trivial⟩ (by
  have:bH 2 [(1,Obj.cells ycG ycG ycG 1 a),(0,Obj.cells ycG ycG ycG 1 b)]=[]:=rfl
  rw[this,yM,yS];exact hl)
def aii{x s c:Nat}(hs:s<64)(hx:x<2^64)(hc:c<2^s):
  c|||(x*2^s%2^64)<2^64/\c<2^64/\x/2^(64-s)<2^s/\(c|||(x*2^s%2^64))+2^64*(x/2^(64-s))=x*2^s+c:=by
 have e:2^64=2^(64-s)*2^s:=by rw[<-xB,show 64-s+s=64 by lia]
 have h1:x*2^s%2^64=(x%2^(64-s))*2^s:=by rw[e,vR]
 have h2:x/2^(64-s)<2^s:=by
  refine (xu (y7 _)).2 ?_
  grind
 have h3:c|||(x*2^s%2^64)=(x%2^(64-s))*2^s+c:=by rw[h1,ycq,RN hc]
 have h4:(x%2^(64-s))*2^s+c<2^64:=by
  have:=yL (2^s) (show x%2^(64-s)+1<=2^(64-s) from xp _ (y7 _))
  grind
 have h5:=vP x (2^(64-s))
 grind
def arq{v:AV}{w:List Nat}(hv:bG v w)(hw:lo (2^64) w)(lw:w.length<=99999999999){s n:Nat}(hs:s<64)(hn:n=w.length+1):
  cP P L [1,5,12,13,14] ED (fun k st=>∃(i:Nat) (out:List Nat),st=⟨[(1,aa s),(5,.av 0 0 n),(12,v),(13,aa w.length),(14,aa i)],[(0,.cells ycG ycG ycG 1 (out.map uc))],1,0⟩/\i+k=w.length/\out.length=n/\lo (2^64) out/\bv (2^64) out=bv (2^64) (w.take i)*2^s/\out.getD i 0<2^s/\(∀m,i<m->out.getD m 0=0)) (fun ex st'=>∃tm out,st'=⟨tm,[(0,.cells ycG ycG ycG 1 (out.map uc))],1,0⟩/\ex=.exit 0/\aj tm 5=.av 0 0 n/\out.length=n/\lo (2^64) out/\bv (2^64) out=bv (2^64) w*2^s):=by
 apply cT;rintro k st ⟨i,out,rfl,hk,hlen,aZ,aJ,hc,fL⟩;by_cases hi:i<w.length
 .left
  have gx:=gZ (show 0<2^64 by decide) hw i;have ex:=hv.bD hi;have ec:=zX (l:=out) (o:=i) (by lia);have aV:=nU (b:=2^64) (l:=out) (i:=i) (x:=out.getD i 0|||(w.getD i 0*2^s%2^64)) (by lia);have hz:out.getD (i+1) 0=0:=fL _ (by lia);have eV:=jD (b:=2^64) (l:=w) i;generalize out.getD i 0=c at*
  generalize w.getD i 0=x at*
  have⟨s1,s2,s3,s4⟩:=aii hs gx hc;have o1:=Jp .i64 x (s:=s) (by lia);have o2:=Vc s2 (xp (x*2^s) (by decide));have o3:binOp .sub (.int .i64 64) (aa s)=D5 (aa (64-s:Nat)):=by
   rw[LU,wrap64 (by lia) (by lia)];congr 2;lia
  have o4:=Jq .i64 x (s:=64-s) (by lia);generalize jw:c|||(x*2^s%2^64)=c' at*
  by_cases h0:0<s
  .have MY:=nU (b:=2^64) (l:=out.set i c') (i:=i+1) (x:=x/2^(64-s)) (by simp;lia)
   rw[pg (by lia),hz,xv,yS] at MY;have avz:x/2^(64-s)<2^64:=xY (wU _ _) gx;generalize x/2^(64-s)=y at*
   simp only[go_sem,ya,yk,ED,show (i:Int)<w.length by lia,ex,cS 0 0 (show i<n by lia),yd,ec,o1,o2,kI (l:=out) (o:=i) (by lia),show (0:Int)<(s:Int) by lia,show (i:Int)+1=((i+1:Nat):Int) from rfl,wrapN (n:=i+1) (by lia),o3,o4,cS 0 0 (show i+1<n by lia),kI (l:=out.set i c') (o:=i+1) (by simp;lia)]
   refine⟨_,k-1,rfl,by lia,i+1,(out.set i c').set (i+1) y,by simp only[go_sem,ya,yc,aA,aF hv.pu]<;>rfl,by lia,by simp[hlen],mf (mf aZ s1) avz,?_,by rw[ahV (by simp;lia)];exact s3,fun m hm=>by rw[pg (by lia),pg (by lia)];exact fL m (by lia)⟩
   rw[eV,xL,MY,<-aJ,sC,y5,y5 ((2^64)^i)];have e:=congrArg (fun t=>(2^64)^i*t) s4;simp only[xz] at e;generalize (2^64)^i*(2^64*y)=p1 at*
   generalize (2^64)^i*(x*2^s)=p2 at*
   generalize (2^64)^i*c'=p3 at*
   lia
  .have Ar:s=0:=by lia
   subst Ar;have kT:c=0:=by simpa using hc
   have AF:x/2^(64-0)=0:=xH gx;rw[AF,xv,yS,vz,yk] at s4
   simp only[go_sem,ya,yk,ED,show (i:Int)<w.length by lia,ex,cS 0 0 (show i<n by lia),yd,ec,o1,o2,kI (l:=out) (o:=i) (by lia),show ¬(0:Int)<((0:Nat):Int) by lia,show (i:Int)+1=((i+1:Nat):Int) from rfl,wrapN (n:=i+1) (by lia)];refine⟨_,k-1,rfl,by lia,i+1,out.set i c',by simp only[go_sem,ya,yc,aA,aF hv.pu]<;>rfl,by lia,by simp[hlen],mf aZ s1,?_,by rw[pg (by lia),hz];exact y7 _,fun m hm=>by rw[pg (by lia)];exact fL m (by lia)⟩
   rw[vz,yk] at aJ ⊢;rw[eV,<-aJ];rw[kT,xv,yS] at aV;rw[aV,s4,kT,yS]
 .right
  have:i=w.length:=by lia
  subst this;rw[xQ] at aJ;simp only[go_sem,ya,ED,show ¬(w.length:Int)<w.length by lia];exact⟨_,_,rfl,by simp,_,out,rfl,rfl,rfl,hlen,aZ,aJ⟩
def adz(h:Has P L 168 Nq){v:AV}{w:List Nat}(hv:bG v w)(hw:lo (2^64) w)(lw:w.length<=99999999999){s:Nat}(hs:s<64):
  ∃out,af P L 168 [v,aa s] (.cu ycG 1 (w.length+1) (out.map uc))/\out.length=w.length+1/\lo (2^64) out/\bv (2^64) out=bv (2^64) w*2^s:=by
 obtain⟨n,hn⟩:∃n,n=w.length+1:=⟨_,rfl⟩;unfold af;rw[aH h]
 simp only[go_sem,ya,yc,Nq,hv.len,wrapN (n:=n) (by lia),show (w.length:Int)+1=((w.length+1:Nat):Int) from rfl,<-hn,Dt (n:=n) _ (by lia)];generalize hq:D P L (.loop _ ED) _=q;obtain⟨ex,st,rfl,tm,o,rfl,rfl,t5,hlen,aZ,aJ⟩:=bF hq (arq (P:=P) (L:=L) hv hw lw hs hn w.length)
  ⟨0,yy n 0,by simp only[go_sem,ya,yc,aA,aF hv.pu]<;>rfl,by lia,by simp,EO (by decide) n,by rw[EP];simp[bv],by rw[CJ];exact y7 _,fun m _=>CJ n m⟩
 refine⟨o,?_,hlen,aZ,aJ⟩;simp only[go_sem,yc,aA,t5];exact PM (ff _ _ _) (by simp[hlen]) (by decide)
abbrev H2(a b:List Nat):Hp:=[(1,.cells ycG ycG ycG 1 (a.map uc)),(0,.cells ycG ycG ycG 1 (b.map uc))]
structure gJ(x vs:List Nat)(n v1 v2 u0 u1 u2:Nat):Prop where
 n2:2<=n
 nb:n<=99999999999
 lx:x.length=n+1
 lv:vs.length=n
 gx:lo (2^64) x
 gv:lo (2^64) vs
 eC:vs.getD (n-1) 0=v1
 cE:vs.getD (n-2) 0=v2
 h0:x.getD n 0=u0
 h1:x.getD (n-1) 0=u1
 h2:x.getD (n-2) 0=u2
 pos:0<v1
 lt:bv (2^64) x<2^64*bv (2^64) vs
def at0(b p a v1 v2:Nat):a+p*v2+p*b*v1=(v1*b+v2)*p+a:=by grind
def at1(b p a v0 v1 v2:Nat):a+p*v2+p*b*v1+p*b*b*v0=((v0*b+v1)*b+v2)*p+a:=by grind
section
variable {x vs:List Nat}{n v1 v2 u0 u1 u2:Nat}
def gJ.Kl(h:gJ x vs n v1 v2 u0 u1 u2):v1<2^64:=h.eC▸gZ (by decide) h.gv _
def gJ.DT(h:gJ x vs n v1 v2 u0 u1 u2):v2<2^64:=h.cE▸gZ (by decide) h.gv _
def gJ.Km(h:gJ x vs n v1 v2 u0 u1 u2):u1<2^64:=h.h1▸gZ (by decide) h.gx _
def gJ.Kn(h:gJ x vs n v1 v2 u0 u1 u2):u2<2^64:=h.h2▸gZ (by decide) h.gx _
def gJ.parts(h:gJ x vs n v1 v2 u0 u1 u2):∃p vr ur,bv (2^64) vs=(v1*2^64+v2)*p+vr/\vr<p/\bv (2^64) x=((u0*2^64+u1)*2^64+u2)*p+ur/\ur<p:=by
 obtain⟨m,hm⟩:∃m,n=m+2:=⟨n-2,by have:=h.n2;lia⟩
 subst hm;have e1:=jD (b:=2^64) (l:=vs) (m+1);have e2:=jD (b:=2^64) (l:=vs) m;have f0:=jD (b:=2^64) (l:=x) (m+2);have f1:=jD (b:=2^64) (l:=x) (m+1);have f2:=jD (b:=2^64) (l:=x) m;have eC:vs.getD (m+1) 0=v1:=h.eC;have cE:vs.getD m 0=v2:=h.cE;have h0:x.getD (m+2) 0=u0:=h.h0;have h1:x.getD (m+1) 0=u1:=h.h1;have h2:x.getD m 0=u2:=h.h2
 rw[yO (by have:=h.lv;lia),eC,e2,cE] at e1
 rw[yO (by have:=h.lx;lia),h0,f1,h1,f2,h2] at f0
 have g1:=mX (CI h.gv m)
 rw[yT,xt (by have:=h.lv;lia)] at g1
 have g2:=mX (CI h.gx m)
 rw[yT,xt (by have:=h.lx;lia)] at g2
 refine⟨(2^64)^m,_,_,?_,g1,?_,g2⟩
 .grind
 .grind
def gJ.down(h:gJ x vs n v1 v2 u0 u1 u2){t r:Nat}(ht:t*v1+r=u0*2^64+u1)(hr:r*2^64+u2<t*v2):bv (2^64) x/bv (2^64) vs<=t-1:=by
 have⟨p,vr,ur,h1,h2,h3,h4⟩:=h.parts;exact Xk h1 h3 h4 ht hr
def gJ.stop(h:gJ x vs n v1 v2 u0 u1 u2){t r:Nat}(kG:t<2^64)(ht:t*v1+r=u0*2^64+u1)(hr:2^64<=r\/t*v2<=r*2^64+u2):t<=bv (2^64) x/bv (2^64) vs+1:=by
 have⟨p,vr,ur,h1,h2,h3,h4⟩:=h.parts;exact X7 (by decide) h1 h2 h3 h.pos h.DT kG ht hr
def gJ.first(h:gJ x vs n v1 v2 u0 u1 u2):bv (2^64) x/bv (2^64) vs<=(u0*2^64+u1)/v1:=by
 have⟨p,vr,ur,h1,h2,h3,h4⟩:=h.parts;exact Py h1 h3 h4 h.Kn h.pos
def gJ.top(h:gJ x vs n v1 v2 u0 u1 u2):u0<=v1:=by
 have⟨p,vr,ur,h1,h2,h3,h4⟩:=h.parts;exact X8 h1 h3 h2 h.DT h.lt
def gJ.digit(h:gJ x vs n v1 v2 u0 u1 u2):bv (2^64) x/bv (2^64) vs<2^64:=by
 refine (xu ?_).2 h.lt;rcases xg (bv (2^64) vs) with h0 | h0
 .have:=h.lt;rw[h0] at this;simp at this
 .exact h0
end
def aaT(mw:L.pure 143=D5 rW)(fU:L.pure 171=D5 nQ){w:AV}{x vs pre post qs:List Nat}(hw:bG w vs){n v1 v2 u0 u1 u2:Nat}(hl:gJ x vs n v1 v2 u0 u1 u2):
  cP P L [0,1,5,6,7,8] zK (fun k s=>∃q r:Nat,s=⟨[(0,.av 0 pre.length (n+1)),(1,w),(5,aa n),(6,uc q),(7,uc (r%2^64)),(8,uc (r/2^64))],H2 qs (pre++x++post),2,2⟩/\q*v1+r=u0*2^64+u1/\r<2*2^64/\q<2^64/\bv (2^64) x/bv (2^64) vs<=q/\q=k) (fun ex s'=>∃tm q,s'=⟨tm,H2 qs (pre++x++post),2,2⟩/\ex=.exit 0/\aj tm 0=.av 0 pre.length (n+1)/\aj tm 1=w/\aj tm 5=aa n/\aj tm 6=uc q/\q<2^64/\bv (2^64) x/bv (2^64) vs<=q/\q<=bv (2^64) x/bv (2^64) vs+1):=by
 apply cT;rintro k s ⟨q,r,rfl,hq,hr,oI,hQ,rfl⟩;have dn:=hl.n2;have zd:=hl.nb;by_cases jS:r<2^64
 .have FK:r%2^64=r:=yK jS;have Cb:r/2^64=0:=xH jS;rw[FK,Cb];have Fe:=hl.Kl;have To:=hl.DT;have adA:=hl.Kn;have qh:=hw.bD (i:=n-2) (by have:=hl.lv;lia)
  have eD:=hw.bD (i:=n-1) (by have:=hl.lv;lia)
  rw[hl.cE] at qh;rw[hl.eC] at eD;have zh:=zX (l:=pre++x++post) (o:=pre.length+(n-2)) (by rw[pk];have:=hl.lx;lia)
  rw[CK (by have:=hl.lx;lia),hl.h2] at zh
  have f1:=Ms (P:=P) (f:=D P L) mw oI To;have f2:=CY (P:=P) (f:=D P L) fU (x:=r) (y:=v1) (c:=0) jS Fe (by lia);rw[show (uc 0)=AV.int .u64 0 from rfl] at f2;have ej:=xK (q*v2) (2^64);have aZ:=xp (q*v2) (show 0<2^64 by decide);obtain⟨H,hH⟩:∃H,H=q*v2/2^64:=⟨_,rfl⟩;obtain⟨G,hG⟩:∃G,G=q*v2%2^64:=⟨_,rfl⟩;rw[<-hH,<-hG] at f1 ej;rw[<-hG] at aZ;have AG:(n:Int)-2=((n-2:Nat):Int):=by lia
  have qj:(n:Int)-1=((n-1:Nat):Int):=by lia
  by_cases c1:H<r
  .right
   simp only[go_sem,ya,zK,H2,show ((0:Nat):Int)=0 from rfl,AG,wrapN (n:=n-2) (by lia),qh,f1,show (H:Int)<(r:Int) by lia];exact⟨_,_,rfl,by simp,_,q,rfl,rfl,rfl,rfl,rfl,rfl,oI,hQ,hl.stop oI hq (.inr (by lia))⟩
  .by_cases c2:H=r/\G<=u2
   .right
    have⟨c2,c3⟩:=c2
    simp only[go_sem,ya,zK,H2,show ((0:Nat):Int)=0 from rfl,AG,wrapN (n:=n-2) (by lia),qh,f1,show (H:Int)=(r:Int) by lia];simp only[show ¬(r:Int)<(r:Int) by lia,xf]
    simp only[go_sem,ya,yk,AG,wrapN (n:=n-2) (by lia),cS 0 pre.length (show n-2<n+1 by lia),zh,show (G:Int)<=(u2:Int) by lia];exact⟨_,_,rfl,by simp,_,q,rfl,rfl,rfl,rfl,rfl,rfl,oI,hQ,hl.stop oI hq (.inr (by lia))⟩
   .left
    have qd:r*2^64+u2<q*v2:=by lia
    have AD:0<q:=by
     rcases xg q with h0 | h0
     .subst h0;lia
     .exact h0
    have e3:binOp .sub (uc q) (.int .u64 1)=D5 (uc (q-1)):=Du (b:=1) (by lia) (by lia);have h1:(q-1)*v1+(r+v1)=u0*2^64+u1:=by
     obtain⟨p,rfl⟩:∃p,q=p+1:=⟨q-1,by lia⟩;rw[xL,yag] at hq;rw[uz];lia
    have DU:=hl.down hq qd;rw[yS] at f2;by_cases c3:H=r
    .have c4:¬G<=u2:=fun h=>c2 ⟨c3,h⟩
     subst c3
     simp only[go_sem,ya,xA,yk,zK,H2,show ((0:Nat):Int)=0 from rfl,AG,qj,wrapN (n:=n-2) (by lia),wrapN (n:=n-1) (by lia),qh,eD,f1,f2,show ¬(H:Int)<(H:Int) by lia,cS 0 pre.length (show n-2<n+1 by lia),zh,show ¬(G:Int)<=(u2:Int) by lia,e3];refine⟨_,q-1,rfl,by lia,q-1,H+v1,?_,h1,by lia,by lia,DU,rfl⟩;rw[qJ (by simp only[go_sem,ya,yB,mg,mW,mb,lY,fO hw.pu,vC]) (by simp only[go_sem,ya,yc,yB,dj hw.pu])];simp only[go_sem,ya]
    .simp only [go_sem,ya,xA,zK,H2,show ((0:Nat):Int)=0 from rfl,AG,qj,wrapN (n:=n-2) (by lia),wrapN (n:=n-1) (by lia),qh,eD,f1,f2,show ¬(H:Int)<(r:Int) by lia,show ¬(H:Int)=(r:Int) by lia,e3];refine⟨_,q-1,rfl,by lia,q-1,r+v1,?_,h1,by lia,by lia,DU,rfl⟩;rw[qJ (by simp only[go_sem,ya,yB,mg,mW,mb,lY,fO hw.pu,vC]) (by simp only[go_sem,ya,yc,yB,dj hw.pu])];simp only[go_sem,ya]
 .right
  have Cb:r/2^64=1:=by lia
  rw[Cb];simp only[go_sem,ya,zK,H2,show ((1:Nat):Int)=1 from rfl,yan];exact⟨_,_,rfl,by simp,_,q,rfl,rfl,rfl,rfl,rfl,rfl,oI,hQ,hl.stop oI hq (.inl (by lia))⟩
def ajF{b p x y z nC c bo AH ca q v X Y:Nat}(h1:q*v+c=b*ca+nC)(h2:z+nC+bo=x+b*AH)(h3:Y+q*X=y+p*(c+bo))(W:Nat)(hW:W+p*x=Y+p*z):
  W+q*(X+p*v)=y+p*b*(ca+AH):=by grind
def ajG{q v c:Nat}(hq:q<2^64)(hv:v<2^64)(hc:c<2^64):
  q*v+c=2^64*(q*v/2^64+(q*v%2^64+c+0)/2^64)+(q*v%2^64+c+0)%2^64/\
  q*v/2^64+(q*v%2^64+c+0)/2^64<2^64:=by
 have h:=xd (show q<=18446744073709551615 by lia) (show v<=18446744073709551615 by lia)
 grind
def ars(mw:L.pure 143=D5 rW)(fU:L.pure 171=D5 nQ)(sD:L.pure 173=D5 Bf){w:AV}{x vs pre post qs:List Nat}(hw:bG w vs){n:Nat}(zd:n<=99999999999)(lv:vs.length=n)(gv:lo (2^64) vs){q:Nat}(hq:q<2^64):
  cP P L [0,1,5,6,11,12,104,105] HU (fun k s=>∃(i c bo:Nat) (y:List Nat),s=⟨[(0,.av 0 pre.length (n+1)),(1,w),(5,aa n),(6,uc q),(11,uc bo),(12,uc c),(104,aa n),(105,aa i)],H2 qs (pre++y++post),2,2⟩/\i+k=n/\y.length=n+1/\lo (2^64) y/\c<2^64/\bo<=1/\
    bv (2^64) y+q*bv (2^64) (vs.take i)=bv (2^64) x+(2^64)^i*(c+bo)) (fun ex s'=>∃tm c bo y,s'=⟨tm,H2 qs (pre++y++post),2,2⟩/\ex=.exit 2/\aj tm 0=.av 0 pre.length (n+1)/\aj tm 1=w/\aj tm 5=aa n/\aj tm 6=uc q/\aj tm 11=uc bo/\aj tm 12=uc c/\y.length=n+1/\lo (2^64) y/\c<2^64/\bo<=1/\
    bv (2^64) y+q*bv (2^64) vs=bv (2^64) x+(2^64)^n*(c+bo)):=by
 apply cT;rintro k s ⟨i,c,bo,y,rfl,hk,ly,gy,hc,jh,aJ⟩;by_cases hi:i<n
 .left
  have dC:(0:Nat)<2^64:=by decide
  have rD:=gZ dC gv i;have qt:=gZ dC gy i;have ev:=hw.bD (i:=i) (by lia);have ey:=zX (l:=pre++y++post) (o:=pre.length+i) (by rw[pk];lia)
  rw[CK (by lia)] at ey;have eV:=jD (b:=2^64) (l:=vs) i;obtain⟨a,ha⟩:∃a,a=vs.getD i 0:=⟨_,rfl⟩;obtain⟨d,hd⟩:∃d,d=y.getD i 0:=⟨_,rfl⟩;rw[<-ha] at rD ev eV;rw[<-hd] at qt ey;have⟨m1,m2⟩:=ajG hq rD hc;have f1:=Ms (P:=P) (f:=D P L) mw hq rD;have f2:=CY (P:=P) (f:=D P L) fU (x:=q*a%2^64) (y:=c) (c:=0) (xp _ dC) hc (by lia);obtain⟨nC,adB⟩:∃t,t=(q*a%2^64+c+0)%2^64:=⟨_,rfl⟩;obtain⟨c1,dW⟩:∃t,t=(q*a%2^64+c+0)/2^64:=⟨_,rfl⟩;have adC:nC<2^64:=by rw[adB];exact xp _ dC
  rw[<-adB,<-dW] at f2 m1;rw[<-dW] at m2;obtain⟨h1,gS⟩:∃t,t=q*a/2^64:=⟨_,rfl⟩;rw[<-gS] at f1 m1 m2;rw[show (uc 0)=AV.int .u64 0 from rfl] at f2;have f3:=RM (P:=P) (f:=D P L) sD qt adC jh;have kW:=QI qt adC jh;obtain⟨z,hz⟩:∃t,t=(d+2^64*2-nC-bo)%2^64:=⟨_,rfl⟩;obtain⟨b',bm⟩:∃t,t=(if nC+bo<=d then 0 else 1):=⟨_,rfl⟩;have gh:b'<=1:=by rw[bm];split<;>lia
  have FJ:z<2^64:=by rw[hz];exact xp _ dC
  rw[<-hz,<-bm] at f3 kW;have f4:binOp .add (uc h1) (uc c1)=D5 (uc (h1+c1)):=by
   rw[Bz,yK m2]
  have aV:=nU (b:=2^64) (l:=y) (i:=i) (x:=z) (by lia);rw[<-hd] at aV;have aQ:=fun (hp:Hp) (ct:Nat)=>kI (hp:=hp) (ct:=ct) (id:=0) (v:=z) (ex:=ycG) (l:=pre++y++post) (o:=pre.length+i) (by rw[pk];lia)
  have oc:=LZ (pre:=pre) (x:=y) (post:=post) (i:=i) z (by lia);simp only[go_sem,ya,yk,HU,H2,show (i:Int)<(n:Int) by lia,ev,f1,f2,f4,cS 0 pre.length (show i<n+1 by lia),ey,f3,aQ,oc];refine⟨_,k-1,rfl,by lia,i+1,h1+c1,b',y.set i z,?_,by lia,by simp[ly],mf gy FJ,m2,gh,?_⟩
  .rw [qJ (by simp only[go_sem,ya,yB,mg,mW,mb,lY,fO hw.pu,vC]) (by simp only[go_sem,ya,yc,yB,dj hw.pu])];rw[wrap64 (by lia) (by lia)];simp only[go_sem,ya]<;>rfl
  .rw [eV,sC];exact ajF m1 kW aJ _ aV
 .right
  have:i=n:=by lia
  subst this;rw[yO (by lia)] at aJ;simp only[go_sem,ya,HU,H2,show ¬(i:Int)<(i:Int) by lia];exact⟨_,_,rfl,by simp,_,c,bo,y,rfl,rfl,rfl,rfl,rfl,rfl,rfl,rfl,ly,gy,hc,jh,aJ⟩
def art(fU:L.pure 171=D5 nQ){w:AV}{y0 vs pre post qs:List Nat}(hw:bG w vs){n:Nat}(zd:n<=99999999999)(lv:vs.length=n)(gv:lo (2^64) vs){q:Nat}:
  cP P L [0,1,5,6,17,156,157] HV (fun k s=>∃(i c:Nat) (y:List Nat),s=⟨[(0,.av 0 pre.length (n+1)),(1,w),(5,aa n),(6,uc q),(17,uc c),(156,aa n),(157,aa i)],H2 qs (pre++y++post),2,2⟩/\i+k=n/\y.length=n+1/\lo (2^64) y/\c<=1/\
    bv (2^64) y+(2^64)^i*c=bv (2^64) y0+bv (2^64) (vs.take i)) (fun ex s'=>∃tm c y,s'=⟨tm,H2 qs (pre++y++post),2,2⟩/\ex=.exit 4/\aj tm 0=.av 0 pre.length (n+1)/\aj tm 5=aa n/\aj tm 6=uc q/\aj tm 17=uc c/\y.length=n+1/\lo (2^64) y/\c<=1/\
    bv (2^64) y+(2^64)^n*c=bv (2^64) y0+bv (2^64) vs):=by
 apply cT;rintro k s ⟨i,c,y,rfl,hk,ly,gy,hc,aJ⟩;by_cases hi:i<n
 .left
  have dC:(0:Nat)<2^64:=by decide
  have rD:=gZ dC gv i;have qt:=gZ dC gy i;have ev:=hw.bD (i:=i) (by lia);have ey:=zX (l:=pre++y++post) (o:=pre.length+i) (by rw[pk];lia)
  rw[CK (by lia)] at ey;have eV:=jD (b:=2^64) (l:=vs) i;obtain⟨a,ha⟩:∃a,a=vs.getD i 0:=⟨_,rfl⟩;obtain⟨d,hd⟩:∃d,d=y.getD i 0:=⟨_,rfl⟩;rw[<-ha] at rD ev eV;rw[<-hd] at qt ey;have f1:=CY (P:=P) (f:=D P L) fU qt rD hc;have aV:=nU (b:=2^64) (l:=y) (i:=i) (x:=(d+a+c)%2^64) (by lia);rw[<-hd] at aV;have jf:=K8 ((2^64)^i) (2^64) (d+a+c);have jw:(d+a+c)/2^64<=1:=by lia
  have FJ:(d+a+c)%2^64<2^64:=xp _ dC;generalize (d+a+c)%2^64=z at*
  generalize (d+a+c)/2^64=c' at*
  have aQ:=fun (hp:Hp) (ct:Nat)=>kI (hp:=hp) (ct:=ct) (id:=0) (v:=z) (ex:=ycG) (l:=pre++y++post) (o:=pre.length+i) (by rw[pk];lia)
  have oc:=LZ (pre:=pre) (x:=y) (post:=post) (i:=i) z (by lia);simp only[go_sem,ya,yk,HV,H2,show (i:Int)<(n:Int) by lia,ev,f1,cS 0 pre.length (show i<n+1 by lia),ey,aQ,oc];refine⟨_,k-1,rfl,by lia,i+1,c',y.set i z,?_,by lia,by simp[ly],mf gy FJ,jw,?_⟩
  .rw [qJ (by simp only[go_sem,ya,yB,mg,mW,mb,lY,fO hw.pu,vC]) (by simp only[go_sem,ya,yc,yB,dj hw.pu])];rw[wrap64 (by lia) (by lia)];simp only[go_sem,ya]<;>rfl
  .rw [eV,sC];rw[xz,xz] at jf
   lia
 .right
  have:i=n:=by lia
  subst this;rw[yO (by lia)] at aJ;simp only[go_sem,ya,HV,H2,show ¬(i:Int)<(i:Int) by lia];exact⟨_,_,rfl,by simp,_,c,y,rfl,rfl,rfl,rfl,rfl,rfl,ly,gy,hc,aJ⟩
def step_end{A V q Y B bo:Nat}(hV:0<V)(h:Y+q*V=A+B*bo)(h1:A/V<=q)(h2:q<=A/V+1)(hY:Y<B)(hVB:V<=B)(jh:bo<=1):
  (bo=0->q=A/V/\Y=A%V)/\(bo=1->q=A/V+1/\Y+V=B+A%V):=by
 have ej:=xK A V;have hm:=xp A hV;generalize A/V=Q at*
 have hq:q=Q\/q=Q+1:=by lia
 constructor
 .rintro rfl;rcases hq with rfl | rfl
  .grind
  .grind
 .grind
structure Wd(P:aE)(L:Lib):Prop where
 mw:L.pure 143=D5 rW
 fU:L.pure 171=D5 nQ
 sD:L.pure 173=D5 Bf
 Jr:L.pure 167=D5 EV
 adD:Has P L 165 I0
 mv:Has P L 166 BD
 adE:Has P L 168 Nq
 avA:Has P L 169 sq
 adF:Has P L 158 E3
 avB:Has P L 157 IZ
 adG:Has P L 159 No
 avC:Has P L 144 Nn
 Tp:Has P L 137 IX
def a8:VC->VC
 | .seq _ b=>b
 | c=>c
def aru(h:Wd P L){w:AV}{x vs pre post qs:List Nat}(hw:bG w vs){n v1 v2 u0 u1 u2:Nat}(hl:gJ x vs n v1 v2 u0 u1 u2){q:Nat}(hq:q<2^64)(fc:bv (2^64) x/bv (2^64) vs<=q)(oJ:q<=bv (2^64) x/bv (2^64) vs+1):
  ∃tm x',D P L (a8 (a8 (a8 (a8 (a8 (a8 sq.body)))))) ⟨[(0,.av 0 pre.length (n+1)),(1,w),(5,aa n),(6,uc q)],H2 qs (pre++x++post),2,2⟩=D5 (.ret,⟨tm,H2 qs (pre++x'++post),2,2⟩)/\aj tm 4=uc (bv (2^64) x/bv (2^64) vs)/\x'.length=n+1/\lo (2^64) x'/\bv (2^64) x'=bv (2^64) x%bv (2^64) vs:=by
 have dn:=hl.n2;have zd:=hl.nb;have dC:(0:Nat)<2^64:=by decide
 have hV:0<bv (2^64) vs:=by
  rcases xg (bv (2^64) vs) with h0 | h0
  .have:=hl.lt;rw[h0] at this;simp at this
  .exact h0
 have mI:below 2 w:=fO hw.pu;have Ko:=mX hl.gv;rw[hl.lv] at Ko;have aAv:(2^64)^n<=(2^64)^(n+1):=xc (by decide) (by lia);have aAw:a8 (a8 (a8 (a8 (a8 (a8 sq.body)))))=a8 (a8 (a8 (a8 (a8 (a8 sq.body))))):=rfl;simp only[go_sem,ya,sq,a8,H2];generalize mH:D P L (.loop _ HU) _=qq;obtain⟨ex,s,rfl,tm,c,bo,y,rfl,rfl,t0,t1,t5,t6,t11,t12,ly,gy,hc,jh,aJ⟩:=bF mH (ars (P:=P) (L:=L) h.mw h.fU h.sD hw zd hl.lv hl.gv hq (x:=x) (pre:=pre) (post:=post) (qs:=qs) n) ⟨0,0,0,x,by
  rw[qJ (by simp only[go_sem,ya,yB,mg,mW,mb,lY,mI,vC]) (by simp only[go_sem,ya,yc,yB,dj hw.pu])]
  simp only[go_sem,ya]<;>rfl,by lia,hl.lx,hl.gx,dC,by lia,by simp[bv]⟩
 have Vh:=gZ dC gy n;have ey:=zX (l:=pre++y++post) (o:=pre.length+n) (by rw[pk];lia)
 rw[CK (by lia)] at ey;obtain⟨d,hd⟩:∃d,d=y.getD n 0:=⟨_,rfl⟩;rw[<-hd] at Vh ey;have f3:=RM (P:=P) (f:=D P L) h.sD Vh hc jh;have kW:=QI Vh hc jh;obtain⟨z,hz⟩:∃t,t=(d+2^64*2-c-bo)%2^64:=⟨_,rfl⟩;obtain⟨b',bm⟩:∃t,t=(if c+bo<=d then 0 else 1):=⟨_,rfl⟩;have gh:b'<=1:=by rw[bm];split<;>lia
 have FJ:z<2^64:=by rw[hz];exact xp _ dC
 rw[<-hz,<-bm] at f3 kW;have aV:=nU (b:=2^64) (l:=y) (i:=n) (x:=z) (by lia);rw[<-hd] at aV;have aQ:=fun (hp:Hp) (ct:Nat)=>kI (hp:=hp) (ct:=ct) (id:=0) (v:=z) (ex:=ycG) (l:=pre++y++post) (o:=pre.length+n) (by rw[pk];lia)
 have oc:=LZ (pre:=pre) (x:=y) (post:=post) (i:=n) z (by lia);have DV:lo (2^64) (y.set n z):=mf gy FJ;have Cc:(y.set n z).length=n+1:=by simp[ly]
 have hY:=mX DV;rw[Cc] at hY;have avD:bv (2^64) (y.set n z)+q*bv (2^64) vs=bv (2^64) x+(2^64)^(n+1)*b':=by
  have e2:=congrArg (fun t=>(2^64)^n*t) kW;rw[sC,y5];simp only[xz] at e2 aJ;generalize (2^64)^n*(2^64*b')=p1 at*
  generalize (2^64)^n*z=p2 at*
  generalize (2^64)^n*d=p3 at*
  generalize (2^64)^n*c=p4 at*
  generalize (2^64)^n*bo=p5 at*
  lia
 have⟨s0,s1⟩:=step_end hV avD fc oJ hY (by lia) gh;simp only[go_sem,ya,yc,yB,yk,qJ,mg,mW,mb,lY,mI,vC,dj hw.pu,t0,t1,t5,t6,t11,t12,cS 0 pre.length (show n<n+1 by lia),ey,f3,aQ,oc];by_cases lR:b'=0
 .have ⟨e1,e2⟩:=s0 lR;simp only[go_sem,ya,show (b':Int)=0 by lia];exact⟨_,y.set n z,rfl,by rw[<-e1];simp only[go_sem],Cc,DV,e2⟩
 .have ⟨e1,e2⟩:=s1 (by lia);simp only[go_sem,ya,show ¬(b':Int)=0 by lia];generalize Dv:D P L (.loop _ HV) _=Vg;obtain⟨ex,s,rfl,om,c2,y2,rfl,rfl,t0,t5,t6,t17,Vi,OY,rn,at2⟩:=bF Dv (art (P:=P) (L:=L) h.fU hw zd hl.lv hl.gv (y0:=y.set n z) (pre:=pre) (post:=post) (qs:=qs) (q:=q) n) ⟨0,0,y.set n z,by
   rw[qJ (by simp only[go_sem,ya,yB,mg,mW,mb,lY,mI,vC]) (by simp only[go_sem,ya,yc,yB,dj hw.pu])]
   simp only[go_sem,ya]<;>rfl,by lia,Cc,DV,by lia,by simp[bv]⟩
  have avE:=gZ dC OY n;have Vj:=zX (l:=pre++y2++post) (o:=pre.length+n) (by rw[pk];lia)
  rw[CK (by lia)] at Vj;obtain⟨d2,iM⟩:∃d,d=y2.getD n 0:=⟨_,rfl⟩;rw[<-iM] at avE Vj;have f4:=Bz d2 c2;have MY:=nU (b:=2^64) (l:=y2) (i:=n) (x:=(d2+c2)%2^64) (by lia);rw[<-iM] at MY;have jf:=K8 ((2^64)^n) (2^64) (d2+c2);have avF:(d2+c2)%2^64<2^64:=xp _ dC;have hc3:(d2+c2)/2^64<=1:=by lia
  generalize (d2+c2)%2^64=z2 at*
  generalize (d2+c2)/2^64=c3 at*
  have NV:=fun (hp:Hp) (ct:Nat)=>kI (hp:=hp) (ct:=ct) (id:=0) (v:=z2) (ex:=ycG) (l:=pre++y2++post) (o:=pre.length+n) (by rw[pk];lia)
  have MZ:=LZ (pre:=pre) (x:=y2) (post:=post) (i:=n) z2 (by lia);have OZ:lo (2^64) (y2.set n z2):=mf OY avF;have Kp:(y2.set n z2).length=n+1:=by simp[Vi]
  have hY3:=mX OZ;rw[Kp] at hY3;have AD:0<q:=by rw[e1];exact Nat.succ_pos _
  have hq3:bv (2^64) x/bv (2^64) vs=q-1:=by rw[e1,uz]
  have f5:binOp .sub (uc q) (.int .u64 1)=D5 (uc (q-1)):=Du (b:=1) (by lia) (by lia);simp only[go_sem,ya,yc,yB,yk,qJ,mg,mW,mb,lY,vC,t0,t5,t6,t17,cS 0 pre.length (show n<n+1 by lia),Vj,f4,NV,MZ,f5];refine⟨_,y2.set n z2,rfl,by rw[hq3];simp only[go_sem],Kp,OZ,?_⟩;have e3:bv (2^64) (y2.set n z2)+(2^64)^(n+1)*c3=(2^64)^(n+1)+bv (2^64) x%bv (2^64) vs:=by
   rw[<-e2,<-at2,sC];rw[xz] at jf;omega
  rcases (show c3=0\/c3=1 by lia) with rfl | rfl
  .omega
  .lia
def avG(h:Wd P L){w:AV}{x vs pre post qs:List Nat}(hw:bG w vs){n v1 v2 u0 u1 u2:Nat}(hl:gJ x vs n v1 v2 u0 u1 u2):
  ∃x',ir P L (D P L) (H2 qs (pre++x++post)) 2 169 [.av 0 pre.length (n+1),w]=D5 (uc (bv (2^64) x/bv (2^64) vs),H2 qs (pre++x'++post),2)/\x'.length=n+1/\lo (2^64) x'/\bv (2^64) x'=bv (2^64) x%bv (2^64) vs:=by
 have dn:=hl.n2;have zd:=hl.nb;have mI:below 2 w:=fO hw.pu;have qj:(n:Int)-1=((n-1:Nat):Int):=by lia
 have eD:=hw.bD (i:=n-1) (by have:=hl.lv;lia)
 rw[hl.eC] at eD;have Cd:=zX (l:=pre++x++post) (o:=pre.length+n) (by rw[pk];have:=hl.lx;lia)
 rw[CK (by have:=hl.lx;lia),hl.h0] at Cd
 have Ce:=zX (l:=pre++x++post) (o:=pre.length+(n-1)) (by rw[pk];have:=hl.lx;lia)
 rw[CK (by have:=hl.lx;lia),hl.h1] at Ce
 have Fe:=hl.Kl;have NW:=hl.Km;have od:=hl.top;have jc:∃tm x',D P L sq.body ⟨eL 0 [.av 0 pre.length (n+1),w],H2 qs (pre++x++post),2,2⟩=D5 (.ret,⟨tm,H2 qs (pre++x'++post),2,2⟩)/\aj tm 4=uc (bv (2^64) x/bv (2^64) vs)/\x'.length=n+1/\lo (2^64) x'/\bv (2^64) x'=bv (2^64) x%bv (2^64) vs:=by
  have behind:∀(gO:Env) (q:Nat),aj gO 0=.av 0 pre.length (n+1)->aj gO 1=w->aj gO 5=aa n->aj gO 6=uc q->q<2^64->bv (2^64) x/bv (2^64) vs<=q->q<=bv (2^64) x/bv (2^64) vs+1->
    ∃tm x',zU P L (zU P L (zV 0 (D5 (Ex.exit 0,⟨gO,H2 qs (pre++x++post),2,2⟩))) (.kp [0,1,5,6])) (a8 (a8 (a8 (a8 (a8 (a8 sq.body))))))=D5 (.ret,⟨tm,H2 qs (pre++x'++post),2,2⟩)/\aj tm 4=uc (bv (2^64) x/bv (2^64) vs)/\x'.length=n+1/\lo (2^64) x'/\bv (2^64) x'=bv (2^64) x%bv (2^64) vs:=by
   intro gO q t0 t1 t5 t6 g1 g2 g3;have hk:aY gO [0,1,5,6]=[(0,.av 0 pre.length (n+1)),(1,w),(5,aa n),(6,uc q)]:=by simp only[go_sem,t0,t1,t5,t6]
   rw[Z5,ph,adn,qJ (by rw[hk];simp only[go_sem,yB,mg,mW,mb,lY,mI,vC]) (by rw[hk];simp only[go_sem,yc,yB,dj hw.pu]),ph,hk];exact aru h hw hl g1 g2 g3
  by_cases hc:u0<v1
  .have f1:=adx h.adD h.Jr (P:=P) (L:=L) hc NW Fe;have ej:=xK (u0*2^64+u1) v1;have kP:=xp (u0*2^64+u1) hl.pos;have oI:(u0*2^64+u1)/v1<2^64:=by
    refine (xu hl.pos).2 ?_
    have:=yL (2^64) (show u0+1<=v1 from hc)
    rw[xb (2^64) v1]
    lia
   have Mt:=hl.first;rw[xb] at ej;generalize (u0*2^64+u1)/v1=q0 at*
   generalize (u0*2^64+u1)%v1=r0 at*
   simp only[go_sem,ya,yk,sq,H2,hw.len,hl.lv,qj,wrapN (n:=n-1) (by lia),eD,cS 0 pre.length (show n<n+1 by lia),cS 0 pre.length (show n-1<n+1 by lia),Cd,Ce,show ¬(v1:Int)<=(u0:Int) by lia,f1];generalize mH:D P L (.loop _ zK) _=qq;obtain⟨ex,s,rfl,gO,q,rfl,rfl,t0,t1,t5,t6,g1,g2,g3⟩:=bF mH (aaT (P:=P) (L:=L) h.mw h.fU hw hl (pre:=pre) (post:=post) (qs:=qs) q0) ⟨q0,r0,by
    rw[qJ (by simp only[go_sem,ya,yB,mg,mW,mb,lY,mI,vC]) (by simp only[go_sem,ya,yc,yB,dj hw.pu])];rw[yK (show r0<2^64 by lia),xH (show r0<2^64 by lia)]
    simp only[go_sem,ya]<;>rfl,ej,by lia,oI,Mt,rfl⟩
   exact behind gO q t0 t1 t5 t6 g1 g2 g3
  .have ru:u0=v1:=by lia
   have f1:=CY (P:=P) (f:=D P L) h.fU NW Fe (c:=0) (by lia);rw[yS,show (uc 0)=AV.int .u64 0 from rfl] at f1;have NX:=hl.digit
   simp only[go_sem,ya,yk,sq,H2,hw.len,hl.lv,qj,wrapN (n:=n-1) (by lia),eD,cS 0 pre.length (show n<n+1 by lia),cS 0 pre.length (show n-1<n+1 by lia),Cd,Ce,show (v1:Int)<=(u0:Int) by lia,f1];generalize mH:D P L (.loop _ zK) _=qq;obtain⟨ex,s,rfl,gO,q,rfl,rfl,t0,t1,t5,t6,g1,g2,g3⟩:=bF mH (aaT (P:=P) (L:=L) h.mw h.fU hw hl (pre:=pre) (post:=post) (qs:=qs) 18446744073709551615) ⟨18446744073709551615,u1+v1,by
    rw[qJ (by simp only[go_sem,ya,yB,mg,mW,mb,lY,mI,vC]) (by simp only[go_sem,ya,yc,yB,dj hw.pu])]
    simp only[go_sem,ya]<;>rfl,by rw[ru];lia,by lia,by decide,by lia,rfl⟩
   exact behind gO q t0 t1 t5 t6 g1 g2 g3
 have⟨tm,x',g1,g2,g3,g4,g5⟩:=jc;refine⟨x',?_,g3,g4,g5⟩;exact HG h.avA g1 (.inr rfl) (by show ig _ [RV.t 4]=_;rw[Tg,So,g2])
def WN(v:AV)(m:Nat):Prop:=∃l,bG v l/\lo (2^64) l/\gj l/\bv (2^64) l=m
def alJ(i:Nat)(q:List Nat)(x:Nat):(yy (i+1) 0++q).set i x=yy i 0++x::q:=by
 rw[List.replicate_succ',xr]
 simp_all
def L2{b:Nat}{l:List Nat}{i:Nat}(h:i<l.length):bv b (l.drop i)=l.getD i 0+b*bv b (l.drop (i+1)):=by
 rw[yQ h,gd h];rfl
def RO{v w:AV}{x y:List Nat}(hv:bG v x)(hw:bG w y)(hp:Hp):result hp (.ay [v,w])=D5 (.ay [v,w]):=by
 rcases hv with ⟨rfl,_⟩ | ⟨e,rfl⟩<;>rcases hw with ⟨rfl,_⟩ | ⟨e',rfl⟩<;>rfl
def an1{hp:Hp}{id n l h:Nat}{pu ex:Bool}{cs:List AV}{tm:Env}{x y:X}(hg:ai hp id=D5 (.cells ycG pu ex 1 cs))(hx:cC tm 0 (D5 x)=D5 l)(hy:cC tm n (D5 y)=D5 h)(h1:l<h)(h2:h<=n):
  eP hp (.sl 1) (.av id 0 n) tm (D5 x) (D5 y)=D5 (.av id l (h-l)):=by
 simp only[eP,hg,hx,hy,yt (uk h1),yt h2,wC,wx,yr,iR (Nat.ne_of_lt h1),uP,yJ,yd,yk]
def Zb{hp:Hp}{id n h:Nat}{pu ex:Bool}{cs:List AV}{tm:Env}{y:X}(hg:ai hp id=D5 (.cells ycG pu ex 1 cs))(hy:cC tm n (D5 y)=D5 h)(h1:0<h)(h2:h<=n):
  eP hp (.sl 1) (.av id 0 n) tm D6 (D5 y)=D5 (.av id 0 h):=by
 have hx:cC tm 0 D6=D5 0:=rfl;simp only[eP,hg,hx,hy,yt (uV h),yt h2,wC,wx,yr,iR (show (0:Nat)≠h by lia),uP,yJ,wh,yS,ycb]
def ab7(P:aE)(L:Lib)(f:bZ)(hp:Hp)(ct n:Nat)(xs:List AV):eb P L f hp ct .heap (.fn (.f n) [] []) xs=ir P L f hp ct n xs:=by
 simp only[eb,yD,wj]
def arv(h:Wd P L){v w:AV}{x:List Nat}(hv:bG v x)(hx:lo (2^64) x)(lx:x.length<=99999999999){d:Nat}(hw:bG w [d])(gU:0<d)(Vk:d<2^64){n:Nat}(hn:n=x.length):
  cP P L [0,1,6,7,8] HQ (fun k s=>∃(i r:Nat) (q:List Nat),s=⟨[(0,v),(1,w),(6,.av 0 0 n),(7,uc r),(8,aa ((i:Int)-1))],[(0,.cells ycG ycG ycG 1 ((yy i 0++q).map uc))],1,0⟩/\i=k/\i+q.length=n/\lo (2^64) q/\r<d/\bv (2^64) (x.drop i)=bv (2^64) q*d+r) (fun ex s'=>∃tm r q,s'=⟨tm,[(0,.cells ycG ycG ycG 1 (q.map uc))],1,0⟩/\ex=.exit 0/\aj tm 6=.av 0 0 n/\aj tm 7=uc r/\q.length=n/\lo (2^64) q/\r<d/\bv (2^64) x=bv (2^64) q*d+r):=by
 apply cT;rintro k s ⟨i,r,q,rfl,rfl,hlen,aZ,hr,aJ⟩
 cases i with
 | zero=>
  right
  simp only[go_sem,ya,HQ,show ¬(0:Int)<=((0:Nat):Int)-1 by lia];exact⟨_,_,rfl,by simp,_,r,q,rfl,rfl,rfl,rfl,by lia,aZ,hr,by simpa using aJ⟩
 | succ i=>
  left
  have gx:=gZ (show 0<2^64 by decide) hx i;have e1:=hv.bD (i:=i) (by lia);have e2:=hw.bD (i:=0) (by simp);have jT:=L2 (b:=2^64) (l:=x) (i:=i) (by lia);rw[show ([d]:List Nat).getD 0 0=d from rfl] at e2;generalize x.getD i 0=a at*
  have e3:=adx (P:=P) (L:=L) h.adD h.Jr hr gx Vk;have ej:=xK (r*2^64+a) d;have kP:=xp (r*2^64+a) gU;have oI:(r*2^64+a)/d<2^64:=by
   refine (xu gU).2 ?_
   lia
  generalize (r*2^64+a)/d=q1 at*
  generalize (r*2^64+a)%d=r1 at*
  have aQ:=fun (hp:Hp) (ct:Nat)=>kI (hp:=hp) (ct:=ct) (id:=0) (v:=q1) (ex:=ycG) (l:=yy (i+1) 0++q) (o:=i) (by simp;lia)
  simp only[go_sem,ya,yk,HQ,show ((i+1:Nat):Int)-1=(i:Int) by lia,show (0:Int)<=(i:Int) by lia,e1,e2,e3,cS 0 0 (show i<n by lia),yd,aQ,alJ];refine⟨_,i,rfl,by lia,i,r1,q1::q,?_,rfl,by simp;lia,Lm.2 ⟨EN.2 oI,aZ⟩,kP,?_⟩
  .rw [wrap64 (by lia) (by lia)];simp only[go_sem,ya,yc,aA,aF hv.pu,aF hw.pu]<;>rfl
  .rw [jT,aJ];simp only[bv];rw[xL,xz,<-y5 (2^64)];rw[xb d q1] at ej
   lia
def ajH{s u u1:Nat}(hs:s<64)(hu:u<2^64):u/2^s<2^64/\(0<s->u/2^s|||(u1*2^(64-s)%2^64)<2^64)/\
  (if 0<s then (u/2^s|||(u1*2^(64-s)%2^64)) else u/2^s)*2^s+u%2^s=u+2^64*(u1%2^s):=by
 have e:2^64=2^s*2^(64-s):=by rw[<-xB,show s+(64-s)=64 by lia]
 have h1:u1*2^(64-s)%2^64=(u1%2^s)*2^(64-s):=by rw[e,vR]
 have hp:=y7 s;have h2:u/2^s<2^(64-s):=by
  refine (xu hp).2 ?_
  grind
 have h3:u/2^s|||(u1*2^(64-s)%2^64)=(u1%2^s)*2^(64-s)+u/2^s:=by rw[h1,ycq,RN h2]
 have h4:(u1%2^s)*2^(64-s)+u/2^s<2^64:=by
  have:=yL (2^(64-s)) (show u1%2^s+1<=2^s from xp _ hp)
  grind
 have h5:=vP u (2^s)
 grind
def arw{us qs:List Nat}{n la m s:Nat}(hs:s<64)(lu:us.length=la)(gu:lo (2^64) us)(hn:n<la)(jV:la<=100000000000):
  cP P L [9,11,12,13,96,97] EB (fun k st=>∃(i:Nat) (rs:List Nat),st=⟨[(9,aa s),(11,.av 0 0 la),(12,aa n),(13,.av 1 0 m),(96,aa n),(97,aa i)],H2 qs (rs++us.drop i),2,0⟩/\i+k=n/\rs.length=i/\lo (2^64) rs/\bv (2^64) rs*2^s+us.getD 0 0%2^s=bv (2^64) (us.take i)+(2^64)^i*(us.getD i 0%2^s)) (fun ex st'=>∃tm rs,st'=⟨tm,H2 qs (rs++us.drop n),2,0⟩/\ex=.exit 4/\aj tm 11=.av 0 0 la/\aj tm 12=aa n/\aj tm 13=.av 1 0 m/\rs.length=n/\lo (2^64) rs/\bv (2^64) rs*2^s+us.getD 0 0%2^s=bv (2^64) (us.take n)+(2^64)^n*(us.getD n 0%2^s)):=by
 apply cT;rintro k st ⟨i,rs,rfl,hk,lr,gr,aJ⟩;by_cases hi:i<n
 .left
  have dC:(0:Nat)<2^64:=by decide
  have g0:=gZ dC gu i;have g1:=gZ dC gu (i+1);have d0:us.drop i=us.getD i 0::us.getD (i+1) 0::us.drop (i+2):=by
   rw[yQ (show i<us.length by lia),yQ (show i+1<us.length by lia),gd,gd]
  have eV:=jD (b:=2^64) (l:=us) i;have iZ:∀r,r<2^64->r*2^s+us.getD i 0%2^s=us.getD i 0+2^64*(us.getD (i+1) 0%2^s)->lo (2^64) (rs++[r])/\bv (2^64) (rs++[r])*2^s+us.getD 0 0%2^s=bv (2^64) (us.take (i+1))+(2^64)^(i+1)*(us.getD (i+1) 0%2^s):=fun r h1 h2=>by
   refine⟨Lm.2 ⟨gr,EN.2 h1⟩,?_⟩;rw[rO,Bj,lr,eV,xL,sC,y5,y5];have e2:=congrArg (fun t=>(2^64)^i*t) h2;simp only[xz] at e2;generalize (2^64)^i*(r*2^s)=p1 at*
   generalize (2^64)^i*(us.getD i 0%2^s)=p2 at*
   generalize (2^64)^i*us.getD i 0=p3 at*
   generalize (2^64)^i*(2^64*(us.getD (i+1) 0%2^s))=p4 at*
   lia
  have Tq:us.drop (i+1)=us.getD (i+1) 0::us.drop (i+2):=by
   rw[yQ (show i+1<us.length by lia),gd]
  generalize us.getD i 0=a at*
  obtain⟨c,hc⟩:∃c,c=us.getD (i+1) 0:=⟨_,rfl⟩;rw[<-hc] at g1 d0 Tq iZ;generalize us.drop (i+2)=dr at*
  rw[d0];have⟨n1,n2,n3⟩:=ajH (u1:=c) hs g0;have o1:=Jq .i64 a (s:=s) (by lia);have o2:=Jp .i64 c (s:=64-s) (by lia);have o3:binOp .sub (.int .i64 64) (aa s)=D5 (aa (64-s:Nat)):=by
   rw[LU,wrap64 (by lia) (by lia)];congr 2;lia
  have o4:=Vc n1 (xp (c*2^(64-s)) dC);have sa:∀z y,(rs++z::y).set i a=rs++a::y:=fun z y=>by rw[yaA _ _ (by lia),lr];simp
  have e0:∀z y,ui i ((rs++z::y).map uc)=uc z::y.map uc:=fun z y=>by
   rw[xk,uY (by simp[lr])];rfl
  have e1:∀z y u,ui (i+1) ((rs++z::y::u).map uc)=uc y::u.map uc:=fun z y u=>by
   rw[show rs++z::y::u=(rs++[z])++y::u by simp,xk,uY (by simp[lr])];rfl
  have FD:∀(hp:Hp) (ct x z:Nat) (y:List Nat),kH hp ct 0 i 1 [.int .u64 (x:Int)] (D5 (.cells ycG ycG ycG 1 ((rs++z::y).map uc)))=D5 (.ay [],aV hp 0 (.cells ycG ycG ycG 1 ((rs++x::y).map uc)),ct):=fun hp ct x z y=>by
   rw[kI (by simp;lia),yaA _ _ (by lia),lr];simp
  by_cases h0:0<s
  .rw [yN h0] at n3;have⟨f1,f2⟩:=iZ _ (n2 h0) n3;generalize a/2^s=a1 at*
   generalize a1|||(c*2^(64-s)%2^64)=r at*
   simp only[go_sem,ya,yk,EB,H2,show (i:Int)<(n:Int) by lia,cS 0 0 (show i<la by lia),yd,e0,o1,FD,show (0:Int)<(s:Int) by lia,show (i:Int)+1=((i+1:Nat):Int) from rfl,wrapN (n:=i+1) (by lia),show ((i+1:Nat):Int)<(la:Int) by lia,cS 0 0 (show i+1<la by lia),e1,o3,o2,o4];refine⟨_,k-1,rfl,by lia,i+1,rs++[r],by simp only[go_sem,ya,yc,aA];rw[Tq];simp,by lia,by simp[lr],f1,by rw[<-hc];exact f2⟩
  .rw [yx h0] at n3;have⟨f1,f2⟩:=iZ _ n1 n3;generalize a/2^s=a1 at*
   simp only[go_sem,ya,yk,EB,H2,show (i:Int)<(n:Int) by lia,cS 0 0 (show i<la by lia),yd,e0,o1,FD,show ¬(0:Int)<(s:Int) by lia,show (i:Int)+1=((i+1:Nat):Int) from rfl,wrapN (n:=i+1) (by lia)];refine⟨_,k-1,rfl,by lia,i+1,rs++[a1],by simp only[go_sem,ya,yc,aA];rw[Tq];simp,by lia,by simp[lr],f1,by rw[<-hc];exact f2⟩
 .right
  have:i=n:=by lia
  subst this;simp only[go_sem,ya,EB,H2,show ¬(i:Int)<(i:Int) by lia];exact⟨_,_,rfl,by simp,_,rs,rfl,rfl,rfl,rfl,rfl,lr,gr,aJ⟩
section
variable {v w:AV}{l x:List Nat}
def Yg{b p A V bu bq0 U0 pre:Nat}(h1:bu=pre+p*A)(h2:bu+bq0*V=U0):(pre+p*(A%V))+(bq0+p*(A/V))*V=U0:=by
 have ej:=xK A V
 grind
def at3(hp:Hp)(ct:Nat)(ex:Bool)(sz n:Nat)(cs:List AV):own hp ct (.cu ex sz n cs)=(.av ct 0 n,(ct,.cells ycG ycG ex sz cs)::hp,ct+1):=rfl
def arx(h:Wd P L){vs:List Nat}(hw:bG w vs)(gv:lo (2^64) vs){n la m:Nat}(lv:vs.length=n)(dn:2<=n)(JZ:n<=la)(jV:la<=99999999999)(hm:m=la-n+1)(eC:0<vs.getD (n-1) 0){s U0:Nat}:
  cP P L [9,10,11,12,13,14] HR (fun k st=>∃(j:Nat) (us qs:List Nat),st=⟨[(9,aa s),(10,w),(11,.av 0 0 (la+1)),(12,aa n),(13,.av 1 0 m),(14,aa ((j:Int)-1))],H2 qs us,2,0⟩/\j=k/\j<=m/\us.length=la+1/\qs.length=m/\lo (2^64) us/\lo (2^64) qs/\(∀i,i<j->qs.getD i 0=0)/\
    bv (2^64) us+bv (2^64) qs*bv (2^64) vs=U0/\bv (2^64) (us.drop j)<bv (2^64) vs) (fun ex st'=>∃tm us qs,st'=⟨tm,H2 qs us,2,0⟩/\ex=.exit 2/\aj tm 9=aa s/\aj tm 11=.av 0 0 (la+1)/\aj tm 12=aa n/\aj tm 13=.av 1 0 m/\us.length=la+1/\qs.length=m/\lo (2^64) us/\lo (2^64) qs/\
    bv (2^64) us+bv (2^64) qs*bv (2^64) vs=U0/\bv (2^64) us<bv (2^64) vs):=by
 apply cT;rintro k st ⟨j,us,qs,rfl,rfl,hj,lu,lq,gu,gq,hz,aJ,od⟩
 cases j with
 | zero=>
  right
  simp only[go_sem,ya,HR,H2,show ¬(0:Int)<=((0:Nat):Int)-1 by lia];exact⟨_,_,rfl,by simp,_,us,qs,rfl,rfl,rfl,rfl,rfl,rfl,lu,lq,gu,gq,aJ,by simpa using od⟩
 | succ j=>
  left
  have dC:(0:Nat)<2^64:=by decide
  obtain⟨pre,dT⟩:∃p,p=us.take j:=⟨_,rfl⟩;obtain⟨x,hx⟩:∃p,p=(us.drop j).take (n+1):=⟨_,rfl⟩;obtain⟨post,eY⟩:∃p,p=us.drop (j+(n+1)):=⟨_,rfl⟩;have lp:pre.length=j:=by rw[dT,yT];lia
  have lx:x.length=n+1:=by rw[hx,yT,wH];lia
  have pz:us=pre++x++post:=by
   rw[dT,hx,eY,<-wZ,xr,xU,xU]
  have gx:lo (2^64) x:=by rw[hx];exact CI (Z2 gu _) _
  have Tt:lo (2^64) pre:=by rw[dT];exact CI gu _
  have at4:lo (2^64) post:=by rw[eY];exact Z2 gu _
  have hA:bv (2^64) (us.drop j)=us.getD j 0+2^64*bv (2^64) (us.drop (j+1)):=L2 (by lia);have hgj:=gZ dC gu j;have Vl:us.drop j=x++post:=by rw[eY,hx,<-wZ,xU]
  have AI:bv (2^64) (us.drop j)=bv (2^64) x+(2^64)^(n+1)*bv (2^64) post:=by rw[Vl,rO,lx]
  have Ko:=mX gv;rw[lv] at Ko;have aB:bv (2^64) (us.drop j)<2^64*bv (2^64) vs:=by lia
  have hp0:bv (2^64) post=0:=by
   rcases xg (bv (2^64) post) with e | e
   .exact e
   .have h1:=yR ((2^64)^(n+1)) e;rw[yk,sC] at h1;rw[sC] at AI
    lia
  rw[hp0,xv,yS] at AI;have hl:gJ x vs n (vs.getD (n-1) 0) (vs.getD (n-2) 0) (x.getD n 0) (x.getD (n-1) 0) (x.getD (n-2) 0):=
   ⟨dn,by lia,lx,lv,gx,gv,rfl,rfl,rfl,rfl,rfl,eC,by rw[<-AI];exact aB⟩
  have NX:=hl.digit;have⟨x',e1,Vm,O0,Kq⟩:=avG h hw hl (pre:=pre) (post:=post) (qs:=qs);rw[lp,<-pz] at e1;have Vn:bv (2^64) us=bv (2^64) pre+(2^64)^j*bv (2^64) x:=by
   have:=Ho (b:=2^64) us j (by lia)
   rw[AI,<-dT] at this;exact this
  have Tu:bv (2^64) (pre++x'++post)=bv (2^64) pre+(2^64)^j*bv (2^64) x':=by
   rw[xr,rO,rO,hp0,xv,yS,lp]
  have aV:=nU (b:=2^64) (l:=qs) (i:=j) (x:=bv (2^64) x/bv (2^64) vs) (by lia);rw[hz j (by lia),xv,yS] at aV;have iZ:=Yg (b:=0) Vn aJ;have aQ:=fun (hp:Hp) (ct:Nat)=>kI (hp:=hp) (ct:=ct) (id:=1) (v:=bv (2^64) x/bv (2^64) vs) (ex:=ycG) (l:=qs) (o:=j) (by lia)
  have rC:0<bv (2^64) vs:=by lia
  have kP:=xp (bv (2^64) x) rC;have nj:∀tm (x y:X),cC tm 0 (D5 x)=D5 j->cC tm (la+1) (D5 y)=D5 (j+n+1)->eP (H2 qs us) (.sl 1) (.av 0 0 (la+1)) tm (D5 x) (D5 y)=D5 (.av 0 j (n+1)):=fun tm x y h1 h2=>by
   rw[an1 (cs:=us.map uc) (pu:=ycG) (ex:=ycG) rfl h1 h2 (by lia) (by lia),show j+n+1-j=n+1 by lia]
  simp only[go_sem,ya,yk,HR,H2,show ((j+1:Nat):Int)-1=(j:Int) by lia,show (0:Int)<=(j:Int) by lia,show (j:Int)+(n:Int)=((j+n:Nat):Int) from rfl,wrapN (n:=j+n) (by lia),show ((j+n:Nat):Int)+1=((j+n+1:Nat):Int) from rfl,wrapN (n:=j+n+1) (by lia),nj,gX,ab7,e1,cS 1 0 (show j<m by lia),yd,aQ];refine⟨_,j,rfl,by lia,j,pre++x'++post,qs.set j (bv (2^64) x/bv (2^64) vs),?_,rfl,by lia,by rw[pk,lp,Vm,eY,wH];lia,by simp[lq],Lm.2 ⟨Lm.2 ⟨Tt,O0⟩,at4⟩,mf gq NX,fun i hi=>by rw[pg (by lia)];exact hz i (by lia),?_,?_⟩
  .rw [wrap64 (by lia) (by lia)];simp only[go_sem,ya,yc,aA,aF hw.pu]<;>rfl
  .rw [Tu,Kq,aV];exact iZ
  .rw [xr,uY lp,rO,hp0,xv,yS,Kq];exact kP
def at5{n:Nat}(h:l.length=n+1):(2^64)^n*l.getD n 0<=bv (2^64) l:=by
 have:=jD (b:=2^64) (l:=l) n
 grind
def pP{m K:Nat}(hn:gj l)(hv:bv (2^64) l=m)(h:m<(2^64)^K):l.length<=K:=ai3 (b:=2^64) (by decide) hn (by rw[hv];exact h)
def ary(h:Wd P L){d:Nat}(hv:bG v x)(hw:bG w [d])(gx:lo (2^64) x)(lx:x.length<=90000000000)(gU:0<d)(Vk:d<2^64)(ec:af P L 158 [v,w] (aa (dw (bv (2^64) x) d)))(hc:d<=bv (2^64) x):
  ∃q r,af P L 137 [v,w] (.ay [q,r])/\WN q (bv (2^64) x/d)/\WN r (bv (2^64) x%d):=by
 have dW:¬dw (bv (2^64) x) d<0:=by unfold dw;rw[yx (by lia)];split<;>decide
 obtain⟨n,hn⟩:∃n,n=x.length:=⟨_,rfl⟩;have main:∃r l,(∀c:Nat->AV->AV->Option AV,True)/\r<d/\l.length=n/\lo (2^64) l/\bv (2^64) x=bv (2^64) l*d+r/\
   ∃q1 r1,bG q1 (dG l)/\bG r1 (dG [r])/\af P L 137 [v,w] (.ay [q1,r1]):=by
  unfold af;rw[aH h.Tp]
  simp only[go_sem,ya,IX,hv.len,hv.ak,hw.len,hw.ak,ec,dW,yH,yM,yd,show ((1:Nat):Int)=(1:Int) from rfl,<-hn,Dt (n:=n) _ (by lia)];generalize hq:D P L (.loop _ HQ) _=q;obtain⟨ex,s,rfl,tm,r,l,rfl,rfl,t6,t7,za,aZ,hr,aJ⟩:=bF hq (arv (P:=P) (L:=L) h hv gx (by lia) hw gU Vk hn n) ⟨n,0,[],by
   rw[wrap64 (by lia) (by lia),wj]
   simp only[go_sem,ya,yc,aA,aF hv.pu,aF hw.pu]<;>rfl,rfl,rfl,Mn,gU,by rw[xj (by lia)];simp[bv]⟩
  have hf:=mP ycG l;rw[za] at hf;have⟨q1,e1,fc⟩:=BL h.mv hf (by lia);have⟨r1,e2,eJ⟩:=BL h.mv (mP ycG [r]) (by simp);simp only[yH,yM,yd,yV,List.map_nil] at e2;refine⟨r,l,fun _=>trivial,hr,za,aZ,aJ,q1,r1,fc,eJ,?_⟩
  simp only[go_sem,ya,yc,yB,yp,yk,aA,t6,t7,BK _ (n:=n) (l:=l) za ycG,e1,fc.shut,e2,eJ.shut];exact RO fc eJ _
 have⟨r,l,_,hr,za,aZ,aJ,q1,r1,fc,eJ,e⟩:=main;have hq:bv (2^64) l=bv (2^64) x/d:=by
  rw[aJ,xb,uL gU,xH hr,yS]
 have hm:r=bv (2^64) x%d:=by
  rw[aJ,xb,uM,yK hr]
 exact⟨q1,r1,e,⟨_,fc,A4 aZ,A3 _,by rw[A2,hq]⟩,⟨_,eJ,A4 (EN.2 (by lia)),A3 _,by rw[A2,Bj,hm]⟩⟩
def arz(h:Wd P L){y:List Nat}(hv:bG v x)(hw:bG w y)(gx:lo (2^64) x)(gy:lo (2^64) y)(nx:gj x)(ny:gj y)(lx:x.length<=90000000000)(ly:2<=y.length)(ec:af P L 158 [v,w] (aa (dw (bv (2^64) x) (bv (2^64) y))))(hc:bv (2^64) y<=bv (2^64) x):
  ∃q r,af P L 137 [v,w] (.ay [q,r])/\WN q (bv (2^64) x/bv (2^64) y)/\WN r (bv (2^64) x%bv (2^64) y):=by
 have dC:(0:Nat)<2^64:=by decide
 have dW:¬dw (bv (2^64) x) (bv (2^64) y)<0:=by unfold dw;rw[yx (by lia)];split<;>decide
 have hyx:y.length<=x.length:=by
  by_cases hh:x.length<y.length
  .have:=LS (b:=2^64) (by decide) gx ny hh;lia
  .lia
 obtain⟨n,hn⟩:∃n,n=y.length:=⟨_,rfl⟩;obtain⟨la,jV⟩:∃la,la=x.length:=⟨_,rfl⟩;have sh:=QC ny (fun e=>by subst e;simp at ly);have O1:=gZ dC gy (y.length-1);have Vo:=hw.bD (i:=y.length-1) (by lia);have jQ:=at5 (l:=y) (n:=n-1) (by lia);rw[<-hn] at sh O1 Vo;obtain⟨top,od⟩:∃top,y.getD (n-1) 0=top:=⟨_,rfl⟩;rw[od] at sh O1 Vo jQ;have elz:=aaR (P:=P) (f:=D P L) h.Jr O1;have⟨z1,z2,z3⟩:=Za (uU sh) O1;generalize 64-jb 64 top=s at*
 have⟨ov,ev,lov,gov,vov⟩:=adz h.adE hw gy (by lia) z1;have⟨ou,eu,lou,gou,vou⟩:=adz h.adE hv gx (by lia) z1;have⟨v',Vp,eX⟩:=BL h.mv (mP ycG ov) (by lia);rw[lov,<-hn] at Vp;rw[<-hn] at ev;rw[<-jV] at eu lou;have jf:=y7 s;obtain⟨vs,At⟩:∃vs,vs=dG ov:=⟨_,rfl⟩;rw[<-At] at eX;have DW:lo (2^64) vs:=by rw[At];exact A4 gov
 have Kr:gj vs:=by rw[At];exact A3 _
 have zi:bv (2^64) vs=bv (2^64) y*2^s:=by rw[At,A2,vov]
 have hyW:bv (2^64) y*2^s<(2^64)^n:=by
  have e:2^64=2^(64-s)*2^s:=by rw[<-xB,show 64-s+s=64 by lia]
  have e1:=jD (b:=2^64) (l:=y) (n-1);rw[show n-1+1=n by lia,yO (by lia),od] at e1;have e2:=mX (CI gy (n-1));rw[yT,xt (by lia)] at e2;have e3:top<2^(64-s):=uA (a:=2^s) (Nat.lt_of_lt_of_eq z3 e);have e4:=yL (2^s) (show top+1<=2^(64-s) from e3);rw[<-e] at e4;have e5:bv (2^64) y<(2^64)^(n-1)*(top+1):=by rw[xz,yk];lia
  have e6:=xP e5 jf;rw[y5] at e6;have e7:=yR ((2^64)^(n-1)) e4;rw[<-sC,show n-1+1=n by lia] at e7;exact yE e6 e7
 have avH:(2^64)^(n-1)*2^s<=bv (2^64) vs:=by
  rw[zi];refine yL _ (y9 ?_ jQ)
  have:=yR ((2^64)^(n-1)) (show 1<=top by lia)
  lia
 have AJ:vs.length=n:=by
  have h1:vs.length<=n:=by
   refine pP Kr zi ?_;exact hyW
  have h2:¬vs.length<n:=fun hh=>by
   have e1:=mX DW;have e2:(2^64)^vs.length<=(2^64)^(n-1):=xc dC (by lia);have e3:=yL (2^s) jQ;rw[y5,<-zi] at e3;have e4:=yR ((2^64)^(n-1)) (show 1<=top*2^s by lia)
   lia
  lia
 have eC:0<vs.getD (n-1) 0:=by
  have:=QC Kr (fun e=>by rw[e] at AJ;simp at AJ;lia)
  rw[AJ] at this;exact uU this
 obtain⟨m,hm⟩:∃m,m=la-n+1:=⟨_,rfl⟩;have Sr:bv (2^64) (ou.drop m)<bv (2^64) vs:=by
  have e1:=Ho (b:=2^64) ou m (by lia);have e2:=mX gx;rw[<-jV] at e2;have e3:=xP e2 jf;rw[<-vou] at e3;have e4:(2^64)^la=(2^64)^m*(2^64)^(n-1):=by rw[<-xB];congr 1;lia
  rw[e4,y5] at e3;have e5:(2^64)^m*bv (2^64) (ou.drop m)<(2^64)^m*((2^64)^(n-1)*2^s):=by lia
  exact yE (Nat.lt_of_mul_lt_mul_left e5) avH
 have e1y:(y.length:Int)-1=((n-1:Nat):Int):=by lia
 have avI:((la:Nat):Int)-(n:Int)=((m-1:Nat):Int):=by lia
 have jc:∃tm us qs rs,(us.length=la+1/\qs.length=m/\lo (2^64) us/\lo (2^64) qs/\bv (2^64) us+bv (2^64) qs*bv (2^64) vs=bv (2^64) x*2^s/\bv (2^64) us<bv (2^64) vs/\
   rs.length=n/\lo (2^64) rs/\bv (2^64) rs*2^s+us.getD 0 0%2^s=bv (2^64) (us.take n)+(2^64)^n*(us.getD n 0%2^s))/\aj tm 0=v/\
   ∃q1 r1,bG q1 (dG qs)/\bG r1 (dG rs)/\af P L 137 [v,w] (.ay [q1,r1]):=by
  unfold af at ec ev eu Vp;unfold af;rw[aH h.Tp];have hfo:=BK (n:=n+1) (l:=ov) (hp:=[]) (by lia) ycG
  simp only[go_sem,ya,yc,IX,hv.len,hv.ak,hw.len,hw.ak,ec,dW,show ¬(y.length:Int)=1 by lia,e1y,wrapN (n:=n-1) (by lia),Vo,elz,ev,at3,BK _ (n:=n+1) (l:=ov) (by lia) ycG,Vp,eX.len,eX.shut,eu,AJ,<-jV,avI,wrapN (n:=m-1) (by lia),show ((m-1:Nat):Int)+1=(m:Int) by lia,wrapN (n:=m) (by lia),Dt (n:=m) _ (by lia)];generalize mH:D P L (.loop _ HR) _=qq;obtain⟨ex,st,rfl,tm,us,qs,rfl,rfl,t9,t11,t12,t13,O2,O3,FL,Vq,aJ,aB⟩:=bF mH (arx (P:=P) (L:=L) h eX DW AJ (by lia) (by lia) (by lia) hm eC (s:=s) (U0:=bv (2^64) x*2^s) m) ⟨m,ou,yy m 0,by
   rw[show ((m-1:Nat):Int)=(m:Int)-1 by lia]
   simp only[go_sem,ya,yc,aA,aF eX.pu]<;>rfl,rfl,yq _,lou,by simp,gou,EO dC m,fun i _=>CJ m i,by rw[EP,wh,yS,vou],Sr⟩
  simp only[go_sem,ya,yc,aA,t9,t11,t12,t13];generalize Dv:D P L (.loop _ EB) _=Vg;obtain⟨ex,st,rfl,om,rs,rfl,rfl,t11,t12,t13,Vr,Vs,NY⟩:=bF Dv (arw (P:=P) (L:=L) (qs:=qs) (m:=m) (la:=la+1) (n:=n) z1 O2 FL (by lia) (by lia) n) ⟨0,[],by simp only[go_sem,ya,yc,aA]<;>rfl,by lia,rfl,Mn,by simp[bv]⟩
  have nj:∀(hp:Hp) tm (y:X),ai hp 0=D5 (.cells ycG ycG ycG 1 ((rs++us.drop n).map uc))->cC tm (la+1) (D5 y)=D5 n->eP hp (.sl 1) (.av 0 0 (la+1)) tm D6 (D5 y)=D5 (.av 0 0 n):=fun hp tm y h1 h2=>Zb h1 h2 (by lia) (by lia)
  have Ks:=mP ycG qs;rw[O3] at Ks;have⟨q1,f1,fc⟩:=BL h.mv Ks (by lia);have eV:(rs++us.drop n).take n=rs:=by rw[List.take_append_of_le_length (by lia),yO (by lia)]
  have Kt:∃e,∀hp:Hp,lH 0 n (D5 (ycG,1,(rs++us.drop n).map uc,hp))=D5 (.aq e n (rs.map uc),hp):=by
   refine⟨ycG&&yF 0 1&&yo n ((rs++us.drop n).map uc).length,fun hp=>?_⟩;simp only[lH,yd,yk,slice,yh,<-yaj,eV];rw[yt (by simp;lia)]
   rfl
  have⟨e,Kt⟩:=Kt;have gQ:=mP e rs;rw[Vr] at gQ;have⟨r1,f2,eJ⟩:=BL h.mv gQ (by lia);unfold af at f1 f2;refine⟨[(0,v)],us,qs,rs,⟨O2,O3,FL,Vq,aJ,aB,Vr,Vs,NY⟩,rfl,q1,r1,fc,eJ,?_⟩
  simp only[go_sem,ya,yc,aA,t11,t12,t13,BK _ (n:=m) (l:=qs) O3 ycG,f1,fc.shut,nj,gX,Kt,f2,eJ.shut];exact RO fc eJ _
 have⟨tm,us,qs,rs,⟨O2,O3,FL,Vq,aJ,aB,Vr,Vs,NY⟩,_,q1,r1,fc,eJ,e⟩:=jc;have jU:0<bv (2^64) y:=by
  have:=yR ((2^64)^(n-1)) (show 1<=top by lia)
  have:=ybv (n:=n-1) dC
  lia
 rw[zi] at aJ aB;have Js:bv (2^64) qs=bv (2^64) x/bv (2^64) y:=by
  rw[<-tn _ _ jf,<-aJ,ybr,xb,uL (wN jU jf),xH aB,yS]
 have O4:bv (2^64) us=(bv (2^64) x%bv (2^64) y)*2^s:=by
  rw[<-vR,<-aJ,ybr,xb (bv _ qs),uM,yK aB]
 have pz:=Ho (b:=2^64) us n (by lia);have gU:bv (2^64) (us.drop n)=0:=by
  rcases xg (bv (2^64) (us.drop n)) with h0 | h0
  .exact h0
  .have:=yR ((2^64)^n) h0
   lia
 have hun:us.getD n 0=0:=by
  have:=L2 (b:=2^64) (l:=us) (i:=n) (by lia)
  lia
 rw[gU,xv,yS] at pz;have B9:us.getD 0 0%2^s=0:=by
  have e1:=L2 (b:=2^64) (l:=us) (i:=0) (by lia);rw[yh,O4] at e1;have e2:2^64=2^s*2^(64-s):=by rw[<-xB,show s+(64-s)=64 by lia]
  have e3:(us.getD 0 0+2^64*bv (2^64) (us.drop (0+1)))%2^s=us.getD 0 0%2^s:=by
   conv=>lhs;rw[e2,y5]
   exact Nat.add_mul_mod_self_left _ _ _
  rw[<-e3,<-e1,Nat.mul_mod_left]
 rw[hun,B9,Nat.zero_mod,xv,yS,yS,<-pz,O4] at NY;have ab8:bv (2^64) rs=bv (2^64) x%bv (2^64) y:=Nat.eq_of_mul_eq_mul_right jf NY;exact⟨q1,r1,e,⟨_,fc,A4 Vq,A3 _,by rw[A2,Js]⟩,⟨_,eJ,A4 Vs,A3 _,by rw[A2,ab8]⟩⟩
def adH(h:Wd P L){a b K:Nat}(hv:WN v a)(hw:WN w b)(hb:0<b)(ha:a<(2^64)^K)(hbK:b<(2^64)^K)(hK:K<=90000000000):
  ∃q r,af P L 137 [v,w] (.ay [q,r])/\WN q (a/b)/\WN r (a%b):=by
 have⟨x,FM,gx,nx,vx⟩:=hv;have⟨y,O5,gy,ny,vy⟩:=hw;have lx:x.length<=90000000000:=y9 (pP nx vx ha) hK;have ly:y.length<=90000000000:=y9 (pP ny vy hbK) hK;have ec:=adt h.adF FM O5 gx gy nx ny (by lia) (by lia);subst vx;subst vy;by_cases hc:bv (2^64) x<bv (2^64) y
 .have dW:dw (bv (2^64) x) (bv (2^64) y)= -1:=by unfold dw;rw[yN hc]
  rw[dW] at ec;refine⟨.ah,v,?_,⟨[],rS,Mn,rfl,by rw[xH hc];rfl⟩,⟨x,FM,gx,nx,by rw[yK hc]⟩⟩
  unfold af;rw[aH h.Tp];simp only[go_sem,ya,IX,FM.ak,O5.ak,ec,show (-1:Int)<0 by decide];exact RO rS FM _
 .rcases (show y.length=0\/y.length=1\/2<=y.length by lia) with h0 | h1 | h2
  .rw [yG h0] at hb;simp[bv] at hb
  .obtain ⟨d,rfl⟩:∃d,y=[d]:=by
    cases y with
    | nil=>simp at h1
    | cons d r=>cases r with
     | nil=>exact⟨d,rfl⟩
     | cons e r=>simp at h1
   exact ary h FM O5 gx lx hb (EN.1 gy) ec (by lia)
  .exact arz h FM O5 gx gy nx ny lx h2 ec (by lia)
end
def jW(v:AV)(n:Int):Prop:=∃w l,v=.agg [.bool (decide (n<0)),w]/\bn w l/\dg l/\nz l/\dv l=n.natAbs
def j8{l:List Int}{k:Nat}(hd:dg l)(hn:nz l)(h:dv l<1000000000^k):l.length<=k:=by
 by_cases h0:l=[]
 .grind
 .have h1:=MQ hn hd h0;have h2:1000000000^(l.length-1)<1000000000^k:=xY h1 h;have h3:=(vM (show 1<1000000000 by decide)).1 h2
  lia
def gE{hp:Hp}{ct id:Nat}{a b x y:AV}(h1:dD a=ycG)(h2:dD b=ycG)(p1:aS a=ycG)(p2:aS b=ycG):
  kH hp ct id 0 2 [a,b] (D5 (.cells ycG ycG ycG 2 [x,y]))=D5 (.ay [],aV hp id (.cells ycG ycG ycG 2 [a,b]),ct):=by
 rw[MT (by rfl) (by simp) (by simp[b5,h1,h2])];simp[aD,p1,p2,over]
def bY(neg:Bool)(m:Nat):Int:=if neg=ycG then -(m:Int) else m
def qU(h:Has P L 294 BF)(cy:Has P L 300 lE)(neg:Bool){v:AV}{l:List Int}(hv:bn v l)(hd:dg l)(hl:l.length<=20000000000):
  ∃r,af P L 294 [.bool neg,v] r/\jW r (bY neg (dv l)):=by
 have⟨w,e1,hw,fM⟩:=BJ cy hv hl;have qu:=zA l;have Cf:=Eo l;have rE:=A1 hd;have hc:(neg&&decide ((0:Int)<((dF l).length:Nat)))=decide (bY neg (dv l)<0):=by
  unfold bY
  cases neg with
  | false=>simp
  | true=>
   simp only[uj,xN];by_cases h0:dF l=[]
   .rw [h0] at qu ⊢;simp only[dv] at qu;simp[<-qu]
   .have h1:0<(dF l).length:=tL.2 h0;have h2:0<dv l:=by
     rw[<-qu];rcases xg (dv (dF l)) with h | h
     .exact absurd (Z0 Cf rE h) h0
     .exact h
    rw[yU (by lia),yU (by lia)]
 refine⟨.agg [.bool (decide (bY neg (dv l)<0)),w],?_,w,dF l,rfl,hw,rE,Cf,?_⟩
 .rw [<-hc];unfold af at e1 ⊢;rw[aH h]
  cases neg with
  | false=>
   simp only[go_sem,ya,yc,yp,BF,aU,hv.ak,e1,hw.pu,hw.shut,hw.one,hw.cells,gE];rcases hw with ⟨rfl,_⟩ | ⟨e,rfl⟩<;>rfl
  | true=>
   simp only[go_sem,ya,yc,yp,BF,aU,hv.ak,e1,hw.len,hw.pu,hw.shut,hw.one,hw.cells,gE];rcases hw with ⟨rfl,_⟩ | ⟨e,rfl⟩<;>rfl
 .rw [qu];unfold bY;split<;>lia
def adI(h:Has P L 298 Nz)(iF:Has P L 294 BF)(cy:Has P L 300 lE){v:AV}{n:Int}{K:Nat}(hK:K<=20000000000)(hv:jW v n)(hn:n.natAbs<1000000000^K):∃r,af P L 298 [v] r/\jW r (-n):=by
 obtain⟨w,l,rfl,hw,hd,hz,qu⟩:=hv;have⟨r,e1,hr⟩:=qU iF cy (!decide (n<0)) hw hd (y9 (j8 hd hz (by rw[qu];exact hn)) hK)
 have e:bY (!decide (n<0)) (dv l)= -n:=by
  rw[qu];unfold bY;by_cases h0:n<0
  .simp [h0];lia
  .simp [h0];lia
 rw[e] at hr;obtain⟨w2,l2,rfl,fj,iM,jO,Ak⟩:=hr;refine⟨_,?_,w2,l2,rfl,fj,iM,jO,Ak⟩;unfold af at e1 ⊢;rw[aH h];simp only[go_sem,ya,yc,Nz,aU,hw.pu,hw.ak,hw.one,fj.pu,fj.one,a6,yd,dc,e1,gE,bM];rcases fj with ⟨rfl,_⟩ | ⟨e,rfl⟩<;>rfl
section
variable {w:AV}{a b z:Int}{k m:Nat}
def cZ(s:Int)(w:AV)(z:Int):Prop:=
 (w=.ah/\s=z/\-9223372036854775808<=z/\z<9223372036854775808)\/
 (∃e l,w=.aq e l.length (l.map uc)/\lo (2^64) l/\gj l/\bv (2^64) l=z.natAbs/\s=(if z<0 then -1 else 1)/\9223372036854775808<=z.natAbs)
def cp(v:AV)(z:Int):Prop:=∃s w,v=.agg [aa s,w]/\cZ s w z
def Bd(k:Nat)(z:Int):Prop:=z.natAbs<2^k
def Bk(k:Nat):2^k<=(2^64)^k:=Nat.pow_le_pow_left (by decide) k
def Bd.mono(h:Bd k z)(hk:k<=m):Bd m z:=yE h (xc (by decide) hk)
def Bd.neg(h:Bd k z):Bd k (-z):=by unfold Bd at h ⊢;rwa[Int.natAbs_neg]
def Bd.add(ha:Bd k a)(hb:Bd m b):Bd (max k m+1) (a+b):=by
 have h1:Bd (max k m) a:=ha.mono (by lia);have h2:Bd (max k m) b:=hb.mono (by lia);unfold Bd at h1 h2 ⊢
 grind
def Bd.mul(ha:Bd k a)(hb:Bd m b):Bd (k+m) (a*b):=by
 unfold Bd at*
 rw[Int.natAbs_mul,xB];exact Nat.mul_lt_mul'' ha hb
def Bd.le(hb:Bd k b)(h:a.natAbs<=b.natAbs):Bd k a:=xY h hb
def WN.pos{v:AV}(h:WN v m)(h0:0<m):∃e l,v=.aq e l.length (l.map uc)/\l≠[]/\lo (2^64) l/\gj l/\bv (2^64) l=m:=by
 have⟨l,hv,g,n,hb⟩:=h;have hl:l≠[]:=fun e=>by subst e;simp[bv] at hb;lia
 rcases hv with ⟨_,e⟩ | ⟨e,rfl⟩
 .simp_all
 .exact ⟨e,l,by simp,hl,g,n,hb⟩
def WN.aR{v:AV}(h:WN v m):∃l,bG v l/\lo (2^64) l/\gj l/\bv (2^64) l=m:=h
def nV(e:Bool)(n:Nat)(cs:List AV):jr .sl (.aq e n cs) .ah=D5 ycH:=rfl
def gF:jr .sl .ah .ah=D5 ycG:=rfl
def L3(hp:Hp)(ct id:Nat)(a:Int)(e:Bool)(n:Nat)(cs:List AV)(x y:AV):kH hp ct id 0 2 [.int .i64 a,.aq e n cs] (D5 (.cells ycG ycG ycG 2 [x,y]))=D5 (.ay [],aV hp id (.cells ycG ycG ycG 2 [.int .i64 a,.aq e n cs]),ct):=gE rfl rfl rfl rfl
def rT{tm:Env}{a x y:AV}{r:List (Nat×Nat×X)}(h:dD a=ycG):mY tm [x,y] 0 1 [a] r=fill tm [a,y] r:=Ep (by simp) h
def cZ.oT(h1: -9223372036854775808<=z)(h2:z<9223372036854775808):cp (.agg [aa z,.ah]) z:=⟨z,.ah,rfl,.inl ⟨rfl,rfl,h1,h2⟩⟩
def cZ.cY{s:Int}(h:cZ s w z):(s<0↔z<0)/\(s=0↔z=0)/\-9223372036854775808<=s/\s<9223372036854775808:=by
 rcases h with ⟨_,rfl,h1,h2⟩ | ⟨e,l,_,_,_,_,rfl,h1⟩
 .grind
 .grind
structure Nu(P:aE)(L:Lib):Prop extends Wd P L where
 avJ:Has P L 117 Nk
 avK:Has P L 142 Nl
 Tv:Has P L 136 IW
 Jt:Has P L 145 Ag
 avL:Has P L 146 SW
 Tw:Has P L 147 IY
 adJ:Has P L 163 Np
 avM:Has P L 118 Dn
 adK:Has P L 119 c119
 avN:Has P L 156 SY
 NZ:Has P L 100 mq
 Tz:Has P L 164 mr
 avO:Has P L 148 SX
 avP:Has P L 130 SV
def Ff(h:Nu P L)(h1: -9223372036854775808<=z)(h2:z<9223372036854775808):af P L 117 [aa z] (.agg [aa z,.ah])/\cp (.agg [aa z,.ah]) z:=⟨n117 h.avJ z,cZ.oT h1 h2⟩
def TA(h:Nu P L){n:Int}(h1: -9223372036854775808<=n)(h2:n<9223372036854775808):af P L 142 [aa n] (uc n.natAbs):=by
 unfold af;rw[aH h.avK];by_cases h0:n<0
 .have e:IntKind.wrap .u64 (IntKind.wrap .i64 (0-n))=(n.natAbs:Int):=by
   by_cases hm:n= -9223372036854775808
   .subst hm;rfl
   .rw [wrap64 (by lia) (by lia),MX];lia
  simp only[go_sem,ya,Nl,h0,aaP,e]
 .have e:IntKind.wrap .u64 n=(n.natAbs:Int):=by rw[MX];lia
  simp only[go_sem,ya,Nl,h0,aaP,e]
def BM(h:Nu P L){s:Int}(hz:cZ s w z):∃r,af P L 136 [.agg [aa s,w]] (.ay [.bool (decide (z<0)),r])/\WN (bX r) z.natAbs:=by
 rcases hz with ⟨rfl,rfl,h1,h2⟩ | ⟨e,l,rfl,g,n,hb,hs,h1⟩
 .by_cases h0:s=0
  .subst h0;refine⟨.ah,?_,[],rS,Mn,rfl,rfl⟩;unfold af;rw[aH h.Tv];simp only[go_sem,ya,yc,IW,aU,a6,yd,dc,gF,Io,Int.reduceLT];rfl
  .have e1:=TA h h1 h2;refine⟨.cu ycG 1 1 [uc s.natAbs],?_,[s.natAbs],mP ycG [s.natAbs],EN.2 (by lia),Ea (by lia) [],Bj _⟩;unfold af;rw[aH h.Tv];simp only[go_sem,ya,yc,yp,yk,IW,aU,a6,yd,dc,gF,Io,h0,e1];rfl
 .have Ar:decide (s<0)=decide (z<0):=by rw[hs];split<;>simp<;>lia
  refine⟨.aq e l.length (l.map uc),?_,l,mP e l,g,n,hb⟩;unfold af;rw[aH h.Tv];simp only[go_sem,ya,yc,IW,aU,a6,yd,dc,nV,Io,Ar];rfl
def Yh{d:Nat}(h:d<=9223372036854775807):IntKind.wrap .i64 (d:Int)=d:=wrapN (by lia)
def Dw(h:Nu P L)(neg:Bool){K:Nat}(hw:WN w m)(hm:m<(2^64)^K)(hK:K<=90000000000):∃r,af P L 145 [.bool neg,w] r/\cp r (bY neg m):=by
 have⟨l,hu,g,n,hb⟩:=hw;have za:l.length<=90000000000:=y9 (pP n hb hm) hK;by_cases h0:l=[]
 .subst h0
  have:m=0:=by rw[<-hb];rfl
  subst this;have e:bY neg 0=0:=by unfold bY;cases neg<;>rfl
  rw[e];refine⟨.agg [aa 0,.ah],?_,cZ.oT (by decide) (by decide)⟩;unfold af;rw[aH h.Jt];simp only[go_sem,ya,yc,Ag,aU,hu.len,yM,show (((0:Nat):Nat):Int)=0 from rfl,rZ];rfl
 .have kA:0<l.length:=tL.2 h0;by_cases h1:l.length=1/\l.getD 0 0<=9223372036854775807
  .have ⟨h1,h2⟩:=h1;obtain⟨d,rfl⟩:∃d,l=[d]:=by
    cases l with
    | nil=>simp at h1
    | cons d r=>cases r with
     | nil=>exact⟨d,rfl⟩
     | cons e r=>simp at h1
   have h2:d<=9223372036854775807:=h2;rw[Bj] at hb;subst hb;have ex:=hu.bD (i:=0) (by simp);rw[show ([d]:List Nat).getD 0 0=d from rfl] at ex;have hlen:∀hp,iT hp 1 w=D5 (.int .i64 1):=fun hp=>hu.len
   cases neg with
   | true=>
    refine⟨.agg [aa (0-(d:Int)),.ah],?_,?_⟩
    .unfold af;rw[aH h.Jt]
     simp only[go_sem,ya,yc,yp,Ag,aU,hlen,yan,ex,show (d:Int)<=9223372036854775807 by lia,Mr,Yh h2,wrap64 (n:=0-(d:Int)) (by lia) (by lia),rZ];rfl
    .have:bY ycG d=0-(d:Int):=by unfold bY;simp
     rw[this];exact cZ.oT (by lia) (by lia)
   | false=>
    refine⟨.agg [aa (d:Int),.ah],?_,?_⟩
    .unfold af;rw[aH h.Jt];simp only[go_sem,ya,yc,yp,Ag,aU,hlen,yan,ex,show (d:Int)<=9223372036854775807 by lia,Mr,Yh h2,rZ];rfl
    .have:bY ycH d=(d:Int):=by unfold bY;simp
     rw[this];exact cZ.oT (by lia) (by lia)
  .have rF:9223372036854775808<=m:=by
    rw[<-hb];by_cases h2:l.length=1
    .obtain ⟨d,rfl⟩:∃d,l=[d]:=by
      cases l with
      | nil=>simp at h2
      | cons d r=>cases r with
       | nil=>exact⟨d,rfl⟩
       | cons e r=>simp at h2
     have:¬d<=9223372036854775807:=fun hd=>h1 ⟨h2,hd⟩
     rw[Bj];lia
    .have h3:=RH (b:=2^64) (by decide) n h0;have h4:(2^64)^1<=(2^64)^(l.length-1):=xc (by decide) (by lia);rw[Nat.pow_one] at h4
     lia
   have cE:∃e,w=.aq e l.length (l.map uc):=by
    rcases hu with ⟨rfl,hh⟩ | ⟨e,rfl⟩
    .simp at hh;exact absurd hh h0
    .exact ⟨e,by simp⟩
   obtain⟨e,rfl⟩:=cE;have ex:=hu.bD (i:=0) kA;have first:(decide ((l.length:Int)=1)=ycG/\¬((l.getD 0 0:Nat):Int)<=9223372036854775807)\/decide ((l.length:Int)=1)=ycH:=by
    by_cases h2:l.length=1
    .left;refine⟨by simp;lia,fun hd=>h1 ⟨h2,by lia⟩⟩
    .right;simp;lia
   cases neg with
   | true=>
    refine⟨.agg [aa (-1),.aq e l.length (l.map uc)],?_,-1,_,rfl,.inr ⟨e,l,rfl,g,n,by rw[hb];unfold bY;simp,by unfold bY;simp;lia,by unfold bY;simp;lia⟩⟩
    unfold af;rw[aH h.Jt];rcases first with ⟨f1,f2⟩ | f1
    .simp only [go_sem,ya,yc,yp,Ag,aU,show ¬(l.length:Int)=0 by lia,f1,f2,ex,rT,L3];rfl
    .simp only [go_sem,ya,yc,yp,Ag,aU,show ¬(l.length:Int)=0 by lia,f1,rT,L3];rfl
   | false=>
    refine⟨.agg [aa 1,.aq e l.length (l.map uc)],?_,1,_,rfl,.inr ⟨e,l,rfl,g,n,by rw[hb];unfold bY;simp,by unfold bY;simp,by unfold bY;simp;lia⟩⟩
    unfold af;rw[aH h.Jt];rcases first with ⟨f1,f2⟩ | f1
    .simp only [go_sem,ya,yc,yp,Ag,aU,show ¬(l.length:Int)=0 by lia,f1,f2,ex,rT,L3];rfl
    .simp only [go_sem,ya,yc,yp,Ag,aU,show ¬(l.length:Int)=0 by lia,f1,rT,L3];rfl
end
section
variable {v w:AV}{a b s z:Int}{l:List Nat}{K:Nat}
def cD:VC->VC
 | .seq a _=>a
 | c=>c
def alK{x y:Nat}(ha:a.natAbs=x)(hb:b.natAbs=y)(h:decide (a<0)=decide (b<0)):bY (decide (a<0)) (x+y)=a+b:=by
 unfold bY
 grind
def Zc{m:Nat}(hm:m+b.natAbs=a.natAbs)(h:¬decide (a<0)=decide (b<0)):bY (decide (a<0)) m=a+b:=by
 unfold bY
 grind
def alL:bY (!decide (a<0)) a.natAbs= -a:=by
 unfold bY
 grind
def Zd:bY (decide (a<0) !=decide (b<0)) (a.natAbs*b.natAbs)=a*b:=by
 unfold bY
 grind
def nc(h:bG w l)(hp:Hp):result hp (.agg [aa s,w])=D5 (.agg [aa s,w]):=by
 rcases h with ⟨rfl,_⟩ | ⟨e,rfl⟩<;>rfl
def dH(h:bG w l)(hp:Hp)(ct id:Nat)(x y:AV):kH hp ct id 0 2 [.int .i64 s,w] (D5 (.cells ycG ycG ycG 2 [x,y]))=D5 (.ay [],aV hp id (.cells ycG ycG ycG 2 [.int .i64 s,w]),ct):=gE rfl h.one rfl h.pu
def cZ.aR(h:cZ s w z):∃l,bG w l:=by
 rcases h with ⟨rfl,_⟩ | ⟨e,l,rfl,_⟩
 .exact ⟨[],rS⟩
 .exact ⟨l,mP e l⟩
def ab9(hp:Hp)(sz:Nat)(ag:Bool):AV->Option AV
 | .ptr id o=>OV sz ag o (ai hp id)
 | .bJ cs=>gN sz ag cs
 | _=>D6
def dX(tm:Env)(hp:Hp)(ct base i sz:Nat)(ag:Bool):results1 ⟨tm,hp,ct,base⟩ (.cell i sz ag)=ab9 hp sz ag (aj tm i):=by
 rfl
def dZ(hp:Hp)(sz:Nat)(ag:Bool)(id o:Nat):ab9 hp sz ag (.ptr id o)=OV sz ag o (ai hp id):=rfl
def Ju(h:Nu P L)(hv:cp v z):af P L 146 [v] (aa (cY z)):=by
 obtain⟨s,w,rfl,hn⟩:=hv;have⟨l,hu⟩:=hn.aR;have e:cY s=cY z:=by
  have⟨h1,h2,_⟩:=hn.cY;unfold cY;by_cases h0:z<0
  .rw [yN h0,yN (h1.2 h0)]
  .by_cases h3:z=0
   .rw [yx (fun h=>h0 (h1.1 h)),yN (h2.2 h3),yx h0,yN h3]
   .rw [yx (fun h=>h0 (h1.1 h)),yx (fun h=>h3 (h2.1 h)),yx h0,yx h3]
 unfold af;rw[aH h.avL];simp only[go_sem,ya,yc,SW,aU,hu.pu,hu.one,a6,yd,Im,zP,Hs,CC,arf,e]
def Jv(h:Nu P L)(hv:cp v z)(hz:Bd K z)(hK:K<=90000000000):∃r,af P L 147 [v] r/\cp r (-z):=by
 obtain⟨s,w,rfl,hn⟩:=hv;have⟨p,e1,hp⟩:=BM h hn;have⟨lp,fZ,_⟩:=hp.aR;have⟨r,e2,hr⟩:=Dw h (!decide (z<0)) hp (yE hz (Bk K)) hK;rw[alL] at hr;have bq:=hr;obtain⟨s',w',rfl,iJ⟩:=hr;have⟨l',ji⟩:=iJ.aR;rcases hn with ⟨rfl,rfl,h1,h2⟩ | ⟨e,l0,rfl,g,n,hb,hs,h1⟩
 .by_cases h0:s= -9223372036854775808
  .refine ⟨_,?_,bq⟩;unfold af;rw[aH h.Tw];simp only[go_sem,ya,yc,IY,aU,a6,yd,dc,gF,dO,h0];rw[h0] at e1 e2;simp only[go_sem,ya,bS,cr,e1,e2,fZ.ak,bM,dX,dZ,bS,yh,nc ji,dH ji]
  .refine ⟨.agg [aa (-s),.ah],?_,cZ.oT (by lia) (by lia)⟩;unfold af;rw[aH h.Tw]
   simp only[go_sem,ya,yc,IY,aU,a6,yd,dc,gF,dO,h0,wrap64 (n:=0-s) (by lia) (by lia),rZ,rT];rw[Int.zero_sub];rfl
 .refine ⟨_,?_,bq⟩;unfold af;rw[aH h.Tw];simp only[go_sem,ya,yc,IY,aU,a6,yd,dc,nV,dO,bS,cr,e1,e2,fZ.ak,bM,dX,dZ,bS,yh,nc ji,dH ji]
def adL(h:Nu P L)(hv:cp v z)(hz:Bd K z)(hK:K<=90000000000):∃r,af P L 163 [v] r/\cp r (z.natAbs:Nat):=by
 have eX:=hv;obtain⟨s,w,rfl,hn⟩:=hv;have⟨l,hu⟩:=hn.aR;have Cg:=hn.cY.1;by_cases h0:z<0
 .have ⟨r,e1,hr⟩:=Jv h eX hz hK;rw[show -z=(z.natAbs:Int) by lia] at hr;have bq:=hr;obtain⟨s',w',rfl,iJ⟩:=hr;have⟨l',ji⟩:=iJ.aR;refine⟨_,?_,bq⟩;unfold af;rw[aH h.adJ];simp only[go_sem,ya,yc,Np,aU,hu.pu,hu.ak,hu.one,a6,yd,Cg.2 h0,bS,cr,e1,bM,dX,dZ,bS,yh,nc ji,dH ji]
 .rw [show ((z.natAbs:Nat):Int)=z by lia];refine⟨_,?_,eX⟩;unfold af;rw[aH h.adJ];simp only[go_sem,ya,yc,Np,aU,hu.pu,hu.one,a6,yd,show ¬s<0 from fun h=>h0 (Cg.1 h),bS,dX,dZ,bS,yh,nc hu,dH hu]
def arA(h:Nu P L){s1 s2:Int}{w1 w2:AV}(ha:cZ s1 w1 a)(hb:cZ s2 w2 b)(ka:Bd K a)(kb:Bd K b)(hK:K<=40000000000):
  ∃r,cp r (a+b)/\∀tm,aj tm 2=.ptr 0 0->aj tm 3=.ptr 1 0->aj tm 4=.ptr 2 0->lF [.cell 4 2 ycG] (D P L (a8 (a8 c119.body)) ⟨tm,[(2,.cells ycG ycG ycG 2 [.int .i64 0,.ah]),(1,.cells ycG ycG ycG 2 [aa s2,w2]),(0,.cells ycG ycG ycG 2 [aa s1,w1])],3,0⟩)=D5 r:=by
 have⟨l1,u1⟩:=ha.aR;have⟨l2,u2⟩:=hb.aR;have⟨p,e1,hp⟩:=BM h ha;have⟨q,e2,hq⟩:=BM h hb;have⟨lp,fZ,gp,np,vp⟩:=hp.aR;have⟨lq,oK,gq,nq,vq⟩:=hq.aR;have Ch:=yE ka (Bk K);have FN:=yE kb (Bk K);have llp:lp.length<=40000000000:=y9 (pP np vp Ch) hK;have llq:lq.length<=40000000000:=y9 (pP nq vq FN) hK;by_cases hs:decide (a<0)=decide (b<0)
 .have ⟨o,nC,e3,ho,nB,no,vo⟩:=avq h.avB h.mv h.fU fZ oK gp gq (by lia) (by lia);have⟨r,e4,hr⟩:=Dw h (decide (a<0)) ⟨nC,ho,nB,no,vo⟩ (K:=K+1) (by rw[vp,vq,y8];lia) (by lia)
  rw[alK vp.symm vq.symm hs] at hr;have bq:=hr;obtain⟨s',w',rfl,iJ⟩:=hr;have⟨l',ji⟩:=iJ.aR;refine⟨_,bq,fun tm t2 t3 t4=>?_⟩;simp only[go_sem,ya,c119,a8,t2,t3,bS,cr,u1.ak,u2.ak,e1,e2,fZ.ak,oK.ak,dO,pH,hs,tz];rw[hs] at e4;simp only[go_sem,ya,t4,e3,ho.ak,ho.shut,e4,bM,dX,dZ,bS,yh,nc ji,dH ji]
 .have Ku:(decide (a<0)==decide (b<0))=ycH:=by simpa using hs
  have e3:=adt h.adF fZ oK gp gq np nq (by lia) (by lia);rw[vp,vq] at e3;by_cases hc:b.natAbs<=a.natAbs
  .have ⟨o,nC,e4,ho,nB,no,vo⟩:=adu h.adG h.mv h.sD fZ oK gp gq nq (by lia) (by rw[vp,vq];exact hc)
   rw[vp,vq] at vo;have⟨r,e5,hr⟩:=Dw h (decide (a<0)) ⟨nC,ho,nB,no,rfl⟩ (K:=K) (by lia) (by lia);rw[Zc vo hs] at hr;have bq:=hr;obtain⟨s',w',rfl,iJ⟩:=hr;have⟨l',ji⟩:=iJ.aR;have dW:(0:Int)<=dw a.natAbs b.natAbs:=by unfold dw;rw[yx (by lia)];split<;>decide
   refine⟨_,bq,fun tm t2 t3 t4=>?_⟩;simp only[go_sem,ya,c119,a8,t2,t3,t4,bS,cr,u1.ak,u2.ak,e1,e2,fZ.ak,oK.ak,dO,pH,Ku,e3,dW,e4,ho.ak,ho.shut,e5,bM,dX,dZ,bS,yh,nc ji,dH ji]
  .have ⟨o,nC,e4,ho,nB,no,vo⟩:=adu h.adG h.mv h.sD oK fZ gq gp np (by lia) (by rw[vp,vq];lia)
   rw[vp,vq] at vo;have⟨r,e5,hr⟩:=Dw h (decide (b<0)) ⟨nC,ho,nB,no,rfl⟩ (K:=K) (by lia) (by lia);rw[Zc vo (fun e=>hs e.symm),Int.add_comm] at hr;have bq:=hr;obtain⟨s',w',rfl,iJ⟩:=hr;have⟨l',ji⟩:=iJ.aR;have dW:¬(0:Int)<=dw a.natAbs b.natAbs:=by unfold dw;rw[yN (by lia)];decide
   refine⟨_,bq,fun tm t2 t3 t4=>?_⟩;simp only[go_sem,ya,c119,a8,t2,t3,t4,bS,cr,u1.ak,u2.ak,e1,e2,fZ.ak,oK.ak,dO,pH,Ku,e3,dW,e4,ho.ak,ho.shut,e5,bM,dX,dZ,bS,yh,nc ji,dH ji]
def Jw(h:Nu P L)(hv:cp v a)(hw:cp w b)(ka:Bd K a)(kb:Bd K b)(hK:K<=40000000000):∃r,af P L 119 [v,w] r/\cp r (a+b):=by
 obtain⟨s1,w1,rfl,h1⟩:=hv;obtain⟨s2,w2,rfl,h2⟩:=hw;have⟨l2,u2⟩:=h2.aR;have⟨r,hr,tail⟩:=arA h h1 h2 ka kb hK;have fin:∀tm,aj tm 2=.ptr 0 0->aj tm 3=.ptr 1 0->aj tm 4=.ptr 2 0->
   D P L (.seq (cD c119.body) (cD (a8 c119.body))) ⟨[(0,.agg [aa s1,w1]),(1,.agg [aa s2,w2])],[],0,0⟩=D5 (.normal,⟨tm,[(2,.cells ycG ycG ycG 2 [.int .i64 0,.ah]),(1,.cells ycG ycG ycG 2 [aa s2,w2]),(0,.cells ycG ycG ycG 2 [aa s1,w1])],3,0⟩)->af P L 119 [.agg [aa s1,w1],.agg [aa s2,w2]] r:=fun tm t2 t3 t4 e=>by
  unfold af;rw[aH h.adK];show lF [.cell 4 2 ycG] (D P L (.seq (cD c119.body) (.seq (cD (a8 c119.body)) (a8 (a8 c119.body)))) ⟨[(0,.agg [aa s1,w1]),(1,.agg [aa s2,w2])],[],0,0⟩)=_
  have e2:D P L (.seq (cD c119.body) (.seq (cD (a8 c119.body)) (a8 (a8 c119.body)))) ⟨[(0,.agg [aa s1,w1]),(1,.agg [aa s2,w2])],[],0,0⟩=zU P L (D P L (.seq (cD c119.body) (cD (a8 c119.body))) ⟨[(0,.agg [aa s1,w1]),(1,.agg [aa s2,w2])],[],0,0⟩) (a8 (a8 c119.body)):=by
   rw[By,By]
   cases D P L (cD c119.body) ⟨[(0,.agg [aa s1,w1]),(1,.agg [aa s2,w2])],[],0,0⟩ with
   | none=>rfl
   | some q=>
    have⟨ex,st⟩:=q
    cases ex with
    | normal=>rw[ph,ph,By]
    | ret=>rfl
    | exit id=>rfl
  rw[e2,e,ph];exact tail tm t2 t3 t4
 rcases h1 with ⟨rfl,rfl,a1,a2⟩ | ⟨e,l,rfl,ga,na,va,sa,a1⟩
 .rcases h2 with ⟨rfl,rfl,b1,b2⟩ | ⟨e,l,rfl,gb,nb,vb,sb,b1⟩
  .by_cases b9: -9223372036854775808<=s1+s2/\s1+s2<9223372036854775808
   .refine ⟨.agg [aa (s1+s2),.ah],?_,cZ.oT b9.1 b9.2⟩;have e:decide (s1<s1+s2)=decide (0<s2):=by
     by_cases h:0<s2
     .simp only [h,xa];exact yU (by lia)
     .simp only [h,xf];exact yW (by lia)
    unfold af;rw[aH h.adK]
    simp only[go_sem,ya,yc,c119,aU,rZ,gF,dO,pH,a6,yd,dc,wrap64 (n:=s1+s2) b9.1 b9.2,e,tz,rT];rfl
   .have e:(decide (s1<IntKind.wrap .i64 (s1+s2))==decide (0<s2))=ycH:=by
     have hw:(9223372036854775808<=s1+s2/\IntKind.wrap .i64 (s1+s2)=s1+s2-2^64)\/(s1+s2< -9223372036854775808/\IntKind.wrap .i64 (s1+s2)=s1+s2+2^64):=by
      simp only[IntKind.wrap,IntKind.bits,IntKind.signed,uj]
      split<;>rename_i h<;>simp at h<;>lia
     by_cases h0:0<s2
     .rw [yU h0,yW (by lia)];rfl
     .rw [yW h0,yU (by lia)];rfl
    refine⟨r,fin _ ?_ ?_ ?_ (by simp only[go_sem,ya,yc,cD,a8,c119,aU,gF,dO,pH,a6,yd,dc,e]<;>rfl),hr⟩<;>simp only[go_sem,ya]
  .refine ⟨r,fin _ ?_ ?_ ?_ (by simp only[go_sem,ya,yc,cD,a8,c119,aU,gF,nV,dO,a6,yd,dc]<;>rfl),hr⟩<;>simp only[go_sem,ya]
 .refine ⟨r,fin _ ?_ ?_ ?_ (by simp only[go_sem,ya,yc,cD,a8,c119,aU,u2.pu,u2.one,nV,dO,a6,yd,dc]<;>rfl),hr⟩<;>simp only[go_sem,ya]
end
end VE
