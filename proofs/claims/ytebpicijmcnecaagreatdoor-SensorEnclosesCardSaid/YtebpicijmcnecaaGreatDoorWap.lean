import Derived.ChangeSlices
import Derived.ChangeReads
import Derived.ChangeSame
import Derived.OpenShut
import Derived.Lib.AtoiErrMem
import Derived.Laws.Externs
import Derived.Attr
import Derived.Test.YtebpicijmcnecaaGreatDoorWao
set_option linter.all false
set_option maxRecDepth 100000
open Array renaming getElem?_eq_some_iff->xE
open BitVec renaming ofInt->wz,ofInt_natCast->tO,ofNat->tN,toNat_ofNat->ui
open Bool renaming and_eq_true->ye,and_self->wG,and_true->uf,false_and->wW,false_eq_true->yD,false_or->vL,true_and->wM
open Go renaming Addr->uR,ChangeSpec->ycN,DataW->xP,Field->uk,IntKind->xg,MemPlace->wN,Program->xy,TypeId->yA,Value->yh,World->yk
open Int renaming ediv_emod_unique->yay,gcd->vz,gcd_dvd_left->yaD,gcd_dvd_right->yau,mul_ediv_cancel'->ybv,natAbs_ediv_of_dvd->th,natCast_mul->xZ,reduceEq->yba,tdiv_eq_ediv_of_dvd->ybh,tdiv_eq_ediv_of_nonneg->wg,tmod_eq_emod_of_nonneg->we,toNat_natCast->wi
open List renaming all_cons->yaB,append_assoc->xK,append_nil->wL,cons_append->yB,drop->uB,drop_drop->vQ,drop_eq_getElem_cons->yW,drop_eq_nil_of_le->xh,drop_left'->tG,drop_zero->yg,eq_nil_of_length_eq_zero->yQ,filter_cons->ybQ,filter_eq_nil_iff->yai,flatMap_cons->ybF,getD_cons_succ->ybu,getD_eq_getElem?_getD->yS,getElem?_cons_zero->uy,getElem?_eq_getElem->xb,length->uA,length_append->yJ,length_cons->yv,length_drop->xU,length_map->xi,length_nil->yI,length_pos_iff->tj,length_reverse->ybw,length_singleton->tM,length_take->yR,mapM_cons->uU,mapM_nil->yaY,map_append->xG,map_cons->xe,map_take->yaW,mem_append->wD,mem_append_left->tZ,mem_append_right->uz,mem_flatMap->tv,mem_singleton->wR,nil_append->yL,range->xo,range'->wh,range'_succ->vS,range'_zero->ybN,range_eq_range'->ybn,replicate->yE,replicate_succ->wP,reverse_cons->ybG,set_append_right->ybk,set_cons_succ->ybA,set_eq_take_append_cons_drop->uC,take_append_drop->wb,take_length->xQ,take_of_length_le->yK,take_succ_eq_append_getElem->xv
open Nat renaming add_comm->ycb,add_mul->xY,add_sub_cancel->uX,add_zero->yZ,beq->yo,beq_refl->wQ,ble->yC,ble_eq_true_of_le->yy,blt->yM,div_add_mod->xT,div_eq_of_lt->xR,div_le_self->vD,div_lt_iff_lt_mul->xO,eq_of_beq_eq_true->yf,eq_zero_or_pos->xx,gcd->wK,gcd_comm->yao,gcd_rec->ycY,le_div_iff_mul_le->tW,le_max_left->uQ,le_max_right->uF,le_of_ble_eq_true->yt,le_of_lt->uS,le_refl->yx,le_trans->xu,lt_of_le_of_lt->wA,lt_of_lt_of_le->yG,lt_of_mul_lt_mul_right->uY,min_eq_left->xF,mod_add_div->tq,mod_eq_of_lt->yU,mod_lt->xD,mul_add->xL,mul_add_div->yar,mul_add_mod->yas,mul_assoc->xm,mul_comm->xA,mul_div_mul_right->tX,mul_le_mul->xC,mul_le_mul_left->xa,mul_le_mul_right->yT,mul_lt_mul_of_pos_right->xV,mul_mod_mul_right->uD,mul_one->yj,mul_pos->vO,mul_zero->xH,one_mul->yaU,or_comm->ycZ,pos_of_ne_zero->yam,pow_add->xM,pow_le_pow_right->xd,pow_lt_pow_iff_right->uv,pow_pos->ycI,pow_succ->xq,pow_zero->uP,reduceAdd->yb,reduceEqDiff->ya,reduceLT->yq,reduceLeDiff->yi,reduceMul->xk,strongRecOn->vT,sub_zero->ycM,two_pow_pos->xt,zero_add->yd,zero_le->tD,zero_mul->vt
open Option renaming bind_eq_bind->ue,bind_some->wE,map_some->wO,pure_def->vh
open Option.some renaming injEq->yc
open Prod.mk renaming injEq->ym
open Option renaming some->F5,none->F6
open Bool renaming true->ydo,false->ydp
namespace VE
open Go (IntKind)
variable {P:aF}{L:Lib}
section
open Go
section
variable (P:xy)
def F9(self:yA->Bool):List uk->Nat->Nat->Bool
 | [],o,n=>yo o n
 | f::r,o,n=>yo f.offset o&&(self f.type&&F9 self r (o+P.cellsOf f.type) n)
def flat:Nat->yA->Bool
 | 0,_=>ydp
 | n+1,t=>
  match P.underlying t with
  | some .bool | some (.int _) | some (.float _) | some .string=>yo (P.cellsOf t) 1
  | some (.slice e)=>yo (P.cellsOf t) 1&&(yM 0 (P.cellsOf e)&&flat n e)
  | some (.struct fs)=>F9 P (fun u=>flat n u) fs.toList 0 (P.cellsOf t)
  | some (.array k e)=>yo (P.cellsOf t) (k*P.cellsOf e)&&flat n e
  | _=>ydp
def cS{H:Type}:Nat->yA->xP H->List AV
 | 0,_,_=>[]
 | n+1,t,d=>
  match P.underlying t,d with
  | some .bool,.lit (.bool b)=>[.bool b]
  | some (.int k),.lit (.int _ m)=>[.int k m]
  | some (.float k),.lit (.float _ b)=>[.ao k b]
  | some .string,.lit (.string s)=>[.str (s.map UInt8.toNat)]
  | some (.slice _),.nil=>[.af]
  | some (.slice e),.slice kY spare=>[.ap spare.isEmpty kY.length (kY.flatMap fun x=>cS n e x)]
  | some (.struct fs),.agg parts=>(fs.toList.zip parts).flatMap fun x=>cS n x.1.type x.2
  | some (.array _ e),.agg parts=>parts.flatMap fun x=>cS n e x
  | _,_=>[]
end
section
variable {ab:Nat->Nat}{m:Mp}{S:Nat->Prop}{w:yk}
def aaP:∀{a b:List AV} {dE o:Nat},bR ab m S w a dE o->bR ab m S w b dE (o+a.length)->bR ab m S w (a++b) dE o
 | [],b,dE,o,_,h=>by simpa using h
 | x::a,b,dE,o,h1,h2=>by
  exact⟨h1.1,aaP h1.2 (by rw[yv] at h2;rw[show o+1+a.length=o+(a.length+1) by lia];exact h2)⟩
def NG:∀{a b:List AV},aE a=ydo->aE b=ydo->aE (a++b)=ydo
 | [],_,_,h=>h
 | x::a,b,h1,h2=>by
  simp only[aE,yB,ye] at h1 ⊢;exact⟨h1.1,NG h1.2 h2⟩
def aaQ:∀{a:List AV} {us:List yh},aB ab m S w a us->a.length=us.length
 | [],us,h=>by simp only[aB] at h;subst h;rfl
 | x::a,us,h=>by
  obtain⟨u,r,rfl,_,h2⟩:=h;simp[aaQ h2]
end
section
variable {H:Type}{enc:yA×yh->H}{P:xy}{w:yk}{held:Bool}{ab:Nat->Nat}{m:Mp}{S:Nat->Prop}
def ac4{a:uR}{i:Nat}{u:yh}(h:w.cell? (a.add i)=F5 u):w.cell? ⟨a.block,a.off+i,F6⟩=F5 u/\(i=0->a.spot=F6):=by
 by_cases hi:i=0
 .subst hi;have e:a.add 0=a:=by simp[Addr.add]
  rw[e] at h;have hs:a.spot=F6:=by
   cases hq:a.spot with
   | none=>rfl
   | some k=>
    unfold World.cell? at h
    split at h
    .simp [hq] at h
    all_goals simp_all
  have⟨b,o,sp⟩:=a;simp only at hs;subst hs;exact⟨by simpa using h,fun _=>rfl⟩
 .have e:a.add i=⟨a.block,a.off+i,F6⟩:=by simp[Addr.add,hi]
  rw[e] at h;exact⟨h,fun h=>(hi h).elim⟩
def amz(a:uR)(i:Nat):(a.add i).block=a.block:=by unfold Addr.add;split<;>rfl
def aqF(a:uR)(i:Nat):(a.add i).off=a.off+i:=by unfold Addr.add;split<;>simp_all
def NW{α β:Type}{f:α->Option β}:∀{l:List α} {r:List β},l.mapM f=F5 r->r.length=l.length
 | [],r,h=>by simp only[yaY,vh,yc] at h;subst h;rfl
 | x::l,r,h=>by
  rw[uU] at h
  cases h1:f x with
  | none=>simp[h1] at h
  | some y=>
   cases h2:l.mapM f with
   | none=>simp[h1,h2] at h
   | some ys=>
    simp only[h1,h2,wE,ue,vh,yc] at h;subst h;simp[NW h2]
def aox{c:AV}{l:List AV}{b o:Nat}(h:bR ab m S w (c::l) b o):b<w.heap.size:=by
 have⟨⟨u,h1,_⟩,_⟩:=h;unfold World.cell? at h1
 cases hq:w.heap[b]? with
 | none=>simp[hq] at h1
 | some o=>exact (xE.1 hq).1
def Tm{e:yA}{bm sz:Nat}{f:xP H->List AV}{a:uR}(eJ:0<sz)(IH:∀(cs:List yh) (d:xP H) (ps:List wN),DataW.trod enc P w 0 (fun _=>ydo) held bm e cs=F5 (d,ps)->aB ab m S w (f d) cs/\aE (f d)=ydo/\cs.length=sz):
  ∀(k j:Nat) (xs:List (xP H×List wN)),(wh j k).mapM (fun i=>(w.cells? 0 (a.add (i*sz)) sz).bind (DataW.trod enc P w 0 (fun _=>ydo) held bm e))=F5 xs->
   bR ab m S w ((xs.map (·.1)).flatMap f) a.block (a.off+j*sz)/\aE ((xs.map (·.1)).flatMap f)=ydo/\((xs.map (·.1)).flatMap f).length=k*sz/\xs.length=k/\(0<k->a.spot=F6\/0<j)
 | 0,j,xs,h=>by
  simp only[ybN,yaY,vh,yc] at h;subst h;simp[bR,aE]
 | k+1,j,xs,h=>by
  rw[vS,uU] at h
  cases h1:(w.cells? 0 (a.add (j*sz)) sz) with
  | none=>simp[h1] at h
  | some us=>
   cases h2:DataW.trod enc P w 0 (fun _=>ydo) held bm e us with
   | none=>simp[h1,h2] at h
   | some x=>
    cases h3:(wh (j+1) k).mapM (fun i=>(w.cells? 0 (a.add (i*sz)) sz).bind (DataW.trod enc P w 0 (fun _=>ydo) held bm e)) with
    | none=>simp[h1,h2,h3] at h
    | some ys=>
     simp only[h1,h2,h3,wE,ue,vh,yc] at h;subst h;have⟨d,ps⟩:=x;have⟨g1,g2,g3⟩:=IH us d ps h2;have⟨k1,k2,k3,k4,_⟩:=Tm eJ IH k (j+1) ys h3;have⟨_,c2,c3⟩:=World.cells?_some h1;have hl:(f d).length=sz:=by rw[aaQ g1,g3]
     have hc:∀(i:Nat) (u:yh),us[i]? =F5 u->w.cell? ⟨a.block,a.off+j*sz+i,F6⟩=F5 u:=by
      intro i u hi;have zA:i<sz:=by grind
      have h:=c3 i zA;rw[hi] at h
      have:=(ac4 h).1
      rwa[amz,aqF] at this
     refine⟨?_,?_,?_,by simp[k4],?_⟩
     .simp only [xe,ybF];refine aaP (Gf _ us _ g1 hc) ?_
      grind
     .simp only [xe,ybF];exact NG g2 k2
     .grind
     .intro _;rcases xx j with hj | hj
      .left
       have h:=c3 0 eJ;have hu:us[0]? =F5 us[0]:=by simp_all
       rw[hu] at h
       have:=(ac4 h).2 rfl
       subst hj;simpa[Addr.add] using this
      .grind
def Z2{bm N:Nat}{n:Nat}{cs:List yh}(hN:cs.length=N)(IH:∀(t:yA) (cs:List yh) (d:xP H) (ps:List wN),flat P n t=ydo->DataW.trod enc P w 0 (fun _=>ydo) held bm t cs=F5 (d,ps)->aB ab m S w (cS P n t d) cs/\aE (cS P n t d)=ydo/\cs.length=P.cellsOf t):
  ∀(r:List uk) (o:Nat) (xs:List (xP H×List wN)),F9 P (fun u=>flat P n u) r o N=ydo->r.mapM (fun f=>DataW.trod enc P w 0 (fun _=>ydo) held bm f.type ((cs.drop f.offset).take (P.cellsOf f.type)))=F5 xs->
   aB ab m S w ((r.zip (xs.map (·.1))).flatMap fun x=>cS P n x.1.type x.2) (cs.drop o)/\aE ((r.zip (xs.map (·.1))).flatMap fun x=>cS P n x.1.type x.2)=ydo
 | [],o,xs,hf,h=>by
  have:=yf hf
  rw[xh (by lia)];simp[aB,aE]
 | f::r,o,xs,hf,h=>by
  simp only[F9,ye] at hf;have⟨e1,e2,e3⟩:=hf;have e1:=yf e1;rw[uU] at h
  cases h2:DataW.trod enc P w 0 (fun _=>ydo) held bm f.type ((cs.drop f.offset).take (P.cellsOf f.type)) with
  | none=>simp[h2] at h
  | some x=>
   cases h3:r.mapM (fun f=>DataW.trod enc P w 0 (fun _=>ydo) held bm f.type ((cs.drop f.offset).take (P.cellsOf f.type))) with
   | none=>simp[h2,h3] at h
   | some ys=>
    simp only[h2,h3,wE,ue,vh,yc] at h;subst h;have⟨d,ps⟩:=x;have⟨g1,g2,g3⟩:=IH f.type _ d ps e2 h2;have⟨k1,k2⟩:=Z2 hN IH r _ ys e3 h3;rw[e1] at g1;have e:cs.drop o=(cs.drop o).take (P.cellsOf f.type)++cs.drop (o+P.cellsOf f.type):=by rw[<-vQ];exact (wb _ _).symm
    rw[e];exact⟨mL g1 k1,NG g2 k2⟩
def ac5{bm sz:Nat}{e:yA}{f:xP H->List AV}{cs:List yh}(IH:∀(cs:List yh) (d:xP H) (ps:List wN),DataW.trod enc P w 0 (fun _=>ydo) held bm e cs=F5 (d,ps)->aB ab m S w (f d) cs/\aE (f d)=ydo/\cs.length=sz):
  ∀(k j:Nat) (xs:List (xP H×List wN)),(wh j k).mapM (fun i=>DataW.trod enc P w 0 (fun _=>ydo) held bm e ((cs.drop (i*sz)).take sz))=F5 xs->cs.length=(j+k)*sz->
   aB ab m S w ((xs.map (·.1)).flatMap f) (cs.drop (j*sz))/\aE ((xs.map (·.1)).flatMap f)=ydo
 | 0,j,xs,h,hl=>by
  simp only[ybN,yaY,vh,yc] at h;subst h;rw[xh (by rw[hl];simp)]
  simp[aB,aE]
 | k+1,j,xs,h,hl=>by
  rw[vS,uU] at h
  cases h2:DataW.trod enc P w 0 (fun _=>ydo) held bm e ((cs.drop (j*sz)).take sz) with
  | none=>simp[h2] at h
  | some x=>
   cases h3:(wh (j+1) k).mapM (fun i=>DataW.trod enc P w 0 (fun _=>ydo) held bm e ((cs.drop (i*sz)).take sz)) with
   | none=>simp[h2,h3] at h
   | some ys=>
    simp only[h2,h3,wE,ue,vh,yc] at h;subst h;have⟨d,ps⟩:=x;have⟨g1,g2,g3⟩:=IH _ d ps h2;have⟨k1,k2⟩:=ac5 IH k (j+1) ys h3 (by rw[hl];congr 1;lia)
    have e:cs.drop (j*sz)=(cs.drop (j*sz)).take sz++cs.drop ((j+1)*sz):=by rw[xY,yaU,<-vQ];exact (wb _ _).symm
    rw[e];exact⟨mL g1 k1,NG g2 k2⟩
def abM(hS:∀b,b<w.heap.size->S b):∀(n bm:Nat) (t:yA) (cs:List yh) (d:xP H) (ps:List wN),flat P n t=ydo->DataW.trod enc P w 0 (fun _=>ydo) held bm t cs=F5 (d,ps)->
  aB ab m S w (cS P n t d) cs/\aE (cS P n t d)=ydo/\cs.length=P.cellsOf t
 | 0,bm,t,cs,d,ps,hf,h=>by simp[flat] at hf
 | n+1,0,t,cs,d,ps,hf,h=>by simp[DataW.trod] at h
 | n+1,bm+1,t,cs,d,ps,hf,h=>by
  have IH:=abM hS n bm;unfold DataW.trod at h;simp only[flat] at hf
  split at h
  .rename_i hu;simp only[hu] at hf;simp only[yc,ym] at h;obtain⟨rfl,rfl⟩:=h;simp only[cS,hu];exact⟨by simp[aB,ae],by simp[aE,aV],by rw[yf hf];rfl⟩
  .rename_i hu;simp only[hu] at hf
   split at h
   .rename_i hk;simp only[yc,ym] at h;obtain⟨rfl,rfl⟩:=h;simp only[cS,hu];refine⟨?_,by simp[aE,aV],by rw[yf hf];rfl⟩
    rw[hk.1];simp[aB,ae]
   .cases h
  .rename_i hu;simp only[hu] at hf
   split at h
   .rename_i hk;simp only[yc,ym] at h;obtain⟨rfl,rfl⟩:=h;simp only[cS,hu];refine⟨?_,by simp[aE,aV],by rw[yf hf];rfl⟩
    rw[hk.1];simp[aB,ae]
   .cases h
  .rename_i hu;simp only[hu] at hf
   split at h
   .simp only [yc,ym] at h;obtain⟨rfl,rfl⟩:=h;simp only[cS,hu];refine⟨?_,by simp[aE,aV],by rw[yf hf];rfl⟩
    simp only[aB,ae];exact⟨_,_,rfl,⟨_,rfl,rfl⟩,rfl⟩
   .cases h
  .rename_i hu;simp[hu] at hf
  .rename_i hu;simp[hu] at hf
  .rename_i hu;simp only[hu,ye] at hf;simp only[yc,ym] at h;obtain⟨rfl,rfl⟩:=h;simp only[cS,hu];exact⟨by simp[aB,ae],by simp[aE,aV],by rw[yf hf.1];rfl⟩
  .rename_i e a len cap hu;simp only[hu,ye] at hf;have⟨f1,f2,f3⟩:=hf;have eJ:=rz.1 f2;simp only at h
   split at h
   case isFalse=>cases h
   rename_i hc;simp only[xJ] at h
   cases h1:(xo len).mapM fun i=>(w.cells? 0 (a.add (i*P.cellsOf e)) (P.cellsOf e)).bind (DataW.trod enc P w 0 (fun _=>ydo) held bm e) with
   | none=>rw[h1] at h;simp at h
   | some kY=>
    cases h2:(xo (cap-len)).mapM fun j=>(w.cells? 0 (a.add ((len+j)*P.cellsOf e)) (P.cellsOf e)).bind (DataW.trod enc P w 0 (fun _=>ydo) held bm e) with
    | none=>rw[h1] at h;simp[h2] at h
    | some rest=>
     rw[h1] at h;simp only[wE,h2,wO,yc,ym] at h;obtain⟨rfl,rfl⟩:=h;have hIH:=fun cs d ps h=>IH e cs d ps f3 h
     rw[ybn] at h1 h2;have⟨k1,k2,k3,k4,k5⟩:=Tm (ab:=ab) (m:=m) (S:=S) eJ hIH len 0 kY h1;have hrl:rest.length=cap-len:=by rw[NW h2];simp
     have ki:cap≠0->a.spot=F6:=by
      intro LK;rcases xx len with h0 | h0
      .subst h0;simp only[yd,ycM] at h2;have⟨_,_,_,_,q5⟩:=Tm (ab:=ab) (m:=m) (S:=S) eJ hIH cap 0 rest h2;exact (q5 (by lia)).resolve_right (by lia)
      .exact (k5 h0).resolve_right (by lia)
     simp only[cS,hu,xi];refine⟨?_,by simp[aE,aV],by rw[yf f1];rfl⟩
     simp only[aB];refine⟨_,_,rfl,?_,rfl⟩;simp only[ae];by_cases LK:cap=0
     .subst LK;have lR:len=0:=by lia
      subst lR;have he:kY=[]:=yQ k4;subst he;exact .inr ⟨a,rfl,rfl,rfl⟩
     .have ⟨b,o,sp⟩:=a;have ki:=ki LK;simp only at ki;subst ki;refine .inl ⟨b,o,cap,by rw[k4],by lia,fun hx=>?_,?_,k2,by simpa using k1⟩
      .have:rest.length=0:=by simpa using hx
       lia
      .generalize hg:((kY.map (·.1)).flatMap fun x=>cS P n e x)=l at k1
       cases l with
       | nil=>exact .inl rfl
       | cons c l=>exact .inr (hS b (aox k1))
  .rename_i AK x1 MN fs hu;simp only[hu] at hf
   split at h
   case isFalse=>cases h
   rename_i hlen
   cases h1:fs.toList.mapM fun f=>DataW.trod enc P w 0 (fun _=>ydo) held bm f.type ((AK.drop f.offset).take (P.cellsOf f.type)) with
   | none=>rw[h1] at h;simp at h
   | some xs=>
    rw[h1] at h;simp only[wO,yc,ym] at h;obtain⟨rfl,rfl⟩:=h;have⟨k1,k2⟩:=Z2 hlen (fun t cs d ps hf h=>IH t cs d ps hf h) fs.toList 0 xs hf h1;simp only[cS,hu];exact⟨by simpa using k1,k2,hlen⟩
  .rename_i AK x1 MN k e hu;simp only[hu,ye] at hf;have⟨f1,f2⟩:=hf;have f1:=yf f1
   split at h
   case isFalse=>cases h
   rename_i hlen
   cases h1:(xo k).mapM fun i=>DataW.trod enc P w 0 (fun _=>ydo) held bm e ((AK.drop (i*P.cellsOf e)).take (P.cellsOf e)) with
   | none=>rw[h1] at h;simp at h
   | some xs=>
    rw[h1] at h;simp only[wO,yc,ym] at h;obtain⟨rfl,rfl⟩:=h;rw[ybn] at h1;have⟨k1,k2⟩:=ac5 (ab:=ab) (m:=m) (S:=S) (fun cs d ps h=>IH e cs d ps f2 h) k 0 xs h1 (by rw[hlen,f1];simp)
    simp only[cS,hu];exact⟨by simpa using k1,k2,hlen⟩
  all_goals first
   | (cases h;done)
   | (simp_all;done)
def mV(P:xy)(n:Nat)(t:yA)(d:xP H):AV:=
 match P.underlying t with
 | some (.struct _) | some (.array _ _)=>.agg (cS P n t d)
 | _=>(cS P n t d).headD .undef
def aqG(hS:∀b,b<w.heap.size->S b){n base:Nat}{t:yA}{v:yh}{d:xP H}{ps:List wN}(hf:flat P n t=ydo)(h:DataW.Trod enc P w 0 (fun _=>ydo) held t v d ps)(hv:Value.okWide P w .any base t v):ae ab m S w (mV P n t d) v/\aV (mV P n t d)=ydo:=by
 have⟨bm,h⟩:=h;have⟨h1,h2,h3⟩:=abM (ab:=ab) (m:=m) hS n bm t _ d ps hf h;have one:v.cells=#[v]->(∀fs,P.underlying t≠F5 (.struct fs))->(∀k e,P.underlying t≠F5 (.array k e))->ae ab m S w (mV P n t d) v/\aV (mV P n t d)=ydo:=by
  intro hc HP hna;have e:mV P n t d=(cS P n t d).headD .undef:=by
   unfold mV
   grind
  rw[e];rw[hc] at h1;generalize cS P n t d=l at h1 h2
  cases l with
  | nil=>simp[aB] at h1
  | cons x l=>
   simp only[aB] at h1;simp only[aE,ye] at h2
   grind
 cases n with
 | zero=>simp[flat] at hf
 | succ n=>
  unfold Value.okWide at hv;simp only[flat] at hf
  cases hu:P.underlying t with
  | none=>simp[hu] at hf
  | some ty=>
   rw[hu] at hv hf;cases ty<;>simp only[yD] at hf hv
   case struct fs=>
    obtain⟨cs,rfl,_,_⟩:=hv;have e:mV P (n+1) t d=.agg (cS P (n+1) t d):=by simp only[mV,hu]
    rw[e];exact⟨by simp only[ae];exact⟨cs,rfl,h1⟩,by simpa only[aV] using h2⟩
   case array k e=>
    obtain⟨cs,rfl,_,_⟩:=hv;have e:mV P (n+1) t d=.agg (cS P (n+1) t d):=by simp only[mV,hu]
    rw[e];exact⟨by simp only[ae];exact⟨cs,rfl,h1⟩,by simpa only[aV] using h2⟩
   all_goals
    refine one ?_ (by simp[hu]) (by simp[hu])
    cases v with
    | agg cs=>exfalso;simp only[Cell.okWide,Cell.ok,hu] at hv
    | _=>rfl
def Br(P:xy)(n:Nat):List yA->List (xP H)->List AV
 | t::ts,d::ds=>mV P n t d::Br P n ts ds
 | _,_=>[]
def abN(hS:∀b,b<w.heap.size->S b){n base:Nat}:∀{ts:List yA} {vs:List yh} {ds:List (xP H)} {ps:List wN},ts.all (flat P n)=ydo->DataW.TrodAll enc P w 0 (fun _=>ydo) held ts vs ds ps->
  (∀(j:Nat) t v,ts[j]? =F5 t->vs[j]? =F5 v->Value.okWide P w .any base t v)->aB ab m S w (Br P n ts ds) vs/\aE (Br P n ts ds)=ydo
 | [],[],[],_,_,_,_=>by simp[Br,aB,aE]
 | t::ts,v::vs,d::ds,ps,hf,h,hv=>by
  simp only[yaB,ye] at hf;have⟨p,q,h1,h2,_⟩:=h;have⟨a1,a2⟩:=aqG (ab:=ab) (m:=m) hS hf.1 h1 (hv 0 t v rfl rfl);have⟨b1,b2⟩:=abN hS hf.2 h2 (fun j t v h1 h2=>hv (j+1) t v h1 h2);simp only[Br,aB,aE,ye]
  grind
 | [],_::_,_,_,_,h,_=>by simp[DataW.TrodAll] at h
 | [],[],_::_,_,_,h,_=>by simp[DataW.TrodAll] at h
 | _::_,[],_,_,_,h,_=>by simp[DataW.TrodAll] at h
 | _::_,_::_,[],_,_,h,_=>by simp[DataW.TrodAll] at h
end
end
section
open Go
section
variable {H:Type}{enc:yA×yh->H}{P:xy}{w w':yk}{held:Bool}{sp:Nat->Bool}
def alu(hs:∀b,b<w.heap.size->w'.heap[b]? =w.heap[b]?){a:uR}{u:yh}(h:w.cell? a=F5 u):w'.cell? a=F5 u:=by
 unfold World.cell? at h ⊢
 grind
def akW(hs:∀b,b<w.heap.size->w'.heap[b]? =w.heap[b]?){base:Nat}{a:uR}{n:Nat}{us:List yh}(h:w.cells? base a n=F5 us):w'.cells? base a n=F5 us:=by
 unfold World.cells? at h ⊢
 split at h
 .rename_i hb;rw[yz hb];exact mapM_carry h (fun x y _ _ hx=>alu hs hx)
 .cases h
def aqH{a:uR}{n:Nat}(h:0<n):MemPlace.cell a.block (a.off+0)∈MemPlace.row a n:=by
 unfold MemPlace.row
 simp_all
def Z3(hs:∀b,b<w.heap.size->w'.heap[b]? =w.heap[b]?):∀(n bm:Nat) (t:yA) (cs:List yh) (d:xP H) (ps:List wN),flat P n t=ydo->DataW.trod enc P w 0 (fun _=>ydo) held bm t cs=F5 (d,ps)->
  (∀p,p∈ps->sp p.block=ydo)->DataW.trod enc P w' 0 sp held bm t cs=F5 (d,ps)
 | 0,bm,t,cs,d,ps,hf,h,hp=>by simp[flat] at hf
 | n+1,0,t,cs,d,ps,hf,h,hp=>by simp[DataW.trod] at h
 | n+1,bm+1,t,cs,d,ps,hf,h,hp=>by
  have IH:=Z3 hs n bm;have elem:∀{e:yA} {a:uR} {y:xP H×List wN},flat P n e=ydo->(w.cells? 0 a (P.cellsOf e)).bind (DataW.trod enc P w 0 (fun _=>ydo) held bm e)=F5 y->(∀p,p∈y.2->sp p.block=ydo)->
    (w'.cells? 0 a (P.cellsOf e)).bind (DataW.trod enc P w' 0 sp held bm e)=F5 y:=by
   intro e a y he h hq
   cases h1:w.cells? 0 a (P.cellsOf e) with
   | none=>simp[h1] at h
   | some us=>
    rw[h1] at h;rw[akW hs h1]
    grind
  unfold DataW.trod at h ⊢;simp only[flat] at hf
  split at h
  .grind
  .grind
  .grind
  .grind
  .grind
  .grind
  .grind
  .rename_i e a len cap hu;simp only[hu,ye] at hf;obtain⟨f1,f2,f3⟩:=hf;have eJ:=rz.1 f2;simp only at h ⊢
   split at h
   case isFalse=>cases h
   rename_i hc;rw[yz hc];simp only[xJ] at h
   cases h1:(xo len).mapM fun i=>(w.cells? 0 (a.add (i*P.cellsOf e)) (P.cellsOf e)).bind (DataW.trod enc P w 0 (fun _=>ydo) held bm e) with
   | none=>rw[h1] at h;simp at h
   | some kY=>
    cases h2:(xo (cap-len)).mapM fun j=>(w.cells? 0 (a.add ((len+j)*P.cellsOf e)) (P.cellsOf e)).bind (DataW.trod enc P w 0 (fun _=>ydo) held bm e) with
    | none=>rw[h1] at h;simp[h2] at h
    | some rest=>
     rw[h1] at h;simp only[wE,h2,wO,yc,ym] at h;obtain⟨rfl,rfl⟩:=h;have k1:((xo len).mapM fun i=>(w'.cells? 0 (a.add (i*P.cellsOf e)) (P.cellsOf e)).bind (DataW.trod enc P w' 0 sp held bm e))=F5 kY:=
      mapM_carry h1 (fun x y _ hy hx=>elem f3 hx (fun p hq=>hp p (uz _ (tv.2 ⟨y,tZ _ hy,hq⟩))))
     have k2:((xo (cap-len)).mapM fun j=>(w'.cells? 0 (a.add ((len+j)*P.cellsOf e)) (P.cellsOf e)).bind (DataW.trod enc P w' 0 sp held bm e))=F5 rest:=
      mapM_carry h2 (fun x y _ hy hx=>elem f3 hx (fun p hq=>hp p (uz _ (tv.2 ⟨y,uz _ hy,hq⟩))))
     have hr:(if sp a.block=ydo then (xo (cap-len)).mapM fun j=>(w'.cells? 0 (a.add ((len+j)*P.cellsOf e)) (P.cellsOf e)).bind (DataW.trod enc P w' 0 sp held bm e) else F5 [])=F5 rest:=by
      by_cases ki:sp a.block=ydo
      .rw [yz ki];exact k2
      .rw [yp ki];have h0:¬0<(kY.length+rest.length)*P.cellsOf e:=fun h0=>ki (hp _ (tZ _ (aqH h0)))
       have hz:kY.length+rest.length=0:=by
        rcases xx (kY.length+rest.length) with h | h
        .exact h
        .exact (h0 (vO h eJ)).elim
       have:rest=[]:=yQ (by omega)
       rw[this]
     rw[k1];simp only[wE];rw[hr];rfl
  .rename_i AK x1 MN fs hu;simp only[hu] at hf
   split at h
   case isFalse=>cases h
   rename_i hlen;rw[yz hlen]
   cases h1:fs.toList.mapM fun f=>DataW.trod enc P w 0 (fun _=>ydo) held bm f.type ((AK.drop f.offset).take (P.cellsOf f.type)) with
   | none=>rw[h1] at h;simp at h
   | some xs=>
    rw[h1] at h;simp only[wO,yc,ym] at h;obtain⟨rfl,rfl⟩:=h;have qK:∀(r:List uk) (o:Nat),F9 P (fun u=>flat P n u) r o (P.cellsOf t)=ydo->∀f,f∈r->flat P n f.type=ydo:=by
     intro r
     induction r with
     | nil=>intro o _ f hm;cases hm
     | cons g r ih=>
      intro o hq f hm;simp only[F9,ye] at hq;rcases List.mem_cons.1 hm with rfl | hm
      .exact hq.2.1
      .exact ih _ hq.2.2 f hm
    have k1:(fs.toList.mapM fun f=>DataW.trod enc P w' 0 sp held bm f.type ((AK.drop f.offset).take (P.cellsOf f.type)))=F5 xs:=
     mapM_carry h1 (fun f y hm hy hx=>IH _ _ y.1 y.2 (qK _ _ hf f hm) hx (fun p hq=>hp p (tv.2 ⟨y,hy,hq⟩)))
    rw[k1];rfl
  .rename_i AK x1 MN k e hu;simp only[hu,ye] at hf
   split at h
   case isFalse=>cases h
   rename_i hlen;rw[yz hlen]
   cases h1:(xo k).mapM fun i=>DataW.trod enc P w 0 (fun _=>ydo) held bm e ((AK.drop (i*P.cellsOf e)).take (P.cellsOf e)) with
   | none=>rw[h1] at h;simp at h
   | some xs=>
    rw[h1] at h;simp only[wO,yc,ym] at h;obtain⟨rfl,rfl⟩:=h;have k1:((xo k).mapM fun i=>DataW.trod enc P w' 0 sp held bm e ((AK.drop (i*P.cellsOf e)).take (P.cellsOf e)))=F5 xs:=
     mapM_carry h1 (fun i y _ hy hx=>IH _ _ y.1 y.2 hf.2 hx (fun p hq=>hp p (tv.2 ⟨y,hy,hq⟩)))
    rw[k1];rfl
  all_goals first
   | (cases h;done)
   | (simp_all;done)
def Zb(hs:∀b,b<w.heap.size->w'.heap[b]? =w.heap[b]?){n:Nat}:∀{ts:List yA} {vs:List yh} {ds:List (xP H)} {ps:List wN},ts.all (flat P n)=ydo->DataW.TrodAll enc P w 0 (fun _=>ydo) held ts vs ds ps->
  (∀p,p∈ps->sp p.block=ydo)->DataW.TrodAll enc P w' 0 sp held ts vs ds ps
 | [],[],[],ps,_,h,_=>by simpa only[DataW.TrodAll] using h
 | t::ts,v::vs,d::ds,ps,hf,h,hp=>by
  simp only[yaB,ye] at hf;obtain⟨p,q,⟨bm,h1⟩,h2,rfl⟩:=h;exact⟨p,q,⟨bm,Z3 hs n bm t _ d p hf.1 h1 (fun x hx=>hp x (tZ _ hx))⟩,Zb hs hf.2 h2 (fun x hx=>hp x (uz _ hx)),rfl⟩
 | [],_::_,_,_,_,h,_=>by simp[DataW.TrodAll] at h
 | [],[],_::_,_,_,h,_=>by simp[DataW.TrodAll] at h
 | _::_,[],_,_,_,h,_=>by simp[DataW.TrodAll] at h
 | _::_,_::_,[],_,_,h,_=>by simp[DataW.TrodAll] at h
end
end
section
open Go Go.ChangeShapes Go.WideShapes
section
variable {H:Type}{enc:yA×yh->H}{P:xy}{W W':yk}
def amA(hc:Calm W W')(may:wN->Prop):W.keptBut W' may:=by
 refine⟨hc.os,hc.output,fun i hi=>?_⟩;rw[hc.same i hi]
 cases hq:W.heap[i]? with
 | none=>rfl
 | some o=>cases o<;>simp
def akX(hc:Calm W W'){b off:Nat}(hb:b<W.heap.size):W'.frozen? ⟨b,off,F6⟩=W.frozen? ⟨b,off,F6⟩:=by
 unfold World.frozen?;rw[hc.same b hb]
def aoy{fn:Func}{s:ycN}{apart fresh handsOn again:Bool}{args:Array yh}{ds gs:List (xP H)}{before:List wN}{n:Nat}{tb:yA}(hW:DataW.Whole enc P fn.params.toList s.vars apart W args.toList ds gs before)(hv:s.vars=[])(Pt:fn.params.toList.all (flat P n)=ydo)(hc:Calm W W')(mH:s.fn H (ds++gs)={results:=[.lit (.bool ydo)],args:=ds})(zd:fn.resultTypes=#[tb])(ma:P.underlying tb=F5 .bool):
  s.post enc P fn apart fresh handsOn again W args (.bool ydo) W':=by
 have aM:=hW.lt;have hW0:=hW;obtain⟨p,q,hA,hV,hpq,hz,hn⟩:=hW;rw[hv] at hV;have hq:gs=[]/\q=[]:=by
  cases gs with
  | nil=>exact⟨rfl,by simpa only[DataW.TrodVars] using hV⟩
  | cons g gs=>simp[DataW.TrodVars] at hV
 obtain⟨rfl,rfl⟩:=hq;have hbp:before=p:=by simp_all
 subst hbp;have eI:∀sp:Nat->Bool,(∀p∈before,sp p.block=ydo)->DataW.TrodAll enc P W' 0 sp ydo fn.params.toList args.toList ds before:=fun sp h=>Zb hc.same Pt hA h
 have afp:∀(b:Nat) (sp:Nat->Bool) (hd:Bool),DataW.TrodAll enc P W' b sp hd fn.resultTypes.toList ((Value.bool ydo).resultList fn.resultTypes.size) [.lit (.bool ydo)] []:=by
  intro b sp hd;rw[zd];refine⟨[],[],⟨1,?_⟩,rfl,rfl⟩;simp[DataW.trod,ma,Value.cells]
 have hold:∀p∈before,(fun b=>decide (b<W.heap.size)) p.block=ydo:=fun p hp=>by simpa using aM p hp
 have afq:∀sp:Nat->Bool,DataW.TrodVars enc P W' sp s.vars ([]:List (xP H)) []:=fun sp=>by rw[hv];rfl
 refine⟨ds,[],before,[],before,[],hW0,by rw[mH];exact afp _ _ _,by rw[mH];exact eI _ hold,by rw[mH];exact afq _,amA hc _,fun _=>?_⟩
 refine⟨?_,[.lit (.bool ydo)]++ds,[],[]++before++[],⟨[]++before,[],trodAll_append (eI _ (fun _ _=>rfl)) (afp _ _ _),afq _,rfl,?_,?_⟩,?_⟩
 .intro j t r h1 h2;rw[zd] at h1 h2
  cases j with
  | zero=>
   simp only[List.getElem?_toArray,uy,yc] at h1;simp only[Value.resultList,List.size_toArray,yv,yI,xJ,yd,uy,yc] at h2;subst h1;subst h2;simp[Value.okWide,ma,Cell.okWide,Cell.ok]
  | succ j=>simp at h1
 .intro b off hp;have hp:MemPlace.cell b off∈before:=by grind
  rw[akX hc (b:=b) (aM _ hp)];exact hz b off hp
 .grind
 .grind
def amB{O:bq}{n k:Nat}{fn:Func}{s:ycN}{apart fresh handsOn again:Bool}{base:Nat}{args:Array yh}{ds gs:List (xP H)}{before:List wN}{tb:yA}(hp:eD O n (Br O.P k fn.params.toList ds) (.bool ydo))(AQ:O.w0=W)(mH:O.P.funcs[O.ab n]? =F5 fn)(hb:fn.body.isSome=ydo)(AN:fn.name≠ "runtime.NumGoroutine")(aP:∀(j:Nat) t v,fn.params[j]? =F5 t->args[j]? =F5 v->Value.okWide O.P W .any base t v)(hW:DataW.Whole enc O.P fn.params.toList s.vars apart W args.toList ds gs before)(hv:s.vars=[])(Pt:fn.params.toList.all (flat O.P k)=ydo)(hfs:s.fn H (ds++gs)={results:=[.lit (.bool ydo)],args:=ds})(zd:fn.resultTypes=#[tb])(ma:O.P.underlying tb=F5 .bool):
  Calls O.P (O.ab n) args W fun e W'=>∃v,e=.returned v/\s.post enc O.P fn apart fresh handsOn again W args v W':=by
 have hA:=hW;obtain⟨p,q,hA,_⟩:=hA;obtain⟨h1,h2⟩:=abN (ab:=O.ab) (m:=ff) (S:=fun b=>b<W.heap.size) (fun b hb=>hb) Pt hA (fun j t v a b=>aP j t v (by simpa using a) (by simpa using b));have hi:=hp W (fun b=>b<W.heap.size) args ⟨fun b _=>by rw[AQ],by rw[AQ];exact yx _⟩ (fun b hb=>hb) h1 h2
 have key:∀e W',abt O W (fun b=>b<W.heap.size) (.bool ydo) e W'->∃v,e=.returned v/\s.post enc O.P fn apart fresh handsOn again W args v W':=by
  rintro e W' ⟨u,S',rfl,hc,_,_,_,hr⟩;obtain⟨_,_,hu,_⟩:=hr;subst hu;exact⟨_,rfl,aoy hW hv Pt hc hfs zd ma⟩
 rcases hi with ⟨_,hi⟩ | ⟨u,w',hi,_⟩
 .exact callsIn_wide.1 (hi.mono key)
 .rw [JK mH hb AN] at hi;cases hi
end
end
namespace J1
open Go Go.Proofs
noncomputable def O(W:yk):bq:=⟨Tryz.prog,VE.aI,BE mG.ab,VE.prog,Po mG.br mG.hd,W⟩
def aaR{w:yk}{k:Nat}{os:Array Go.Obj}:Calm w (Go.Sort.grow (w.drewN k) os):=Ju (Lib.below_grow w.heap.size w (yx _) k os)
def abO{W w:yk}(h:Lib.TabIs Tryz.prog W "internal/strconv.uint64pow10" .u64 Lib.pow10Tab)(hg:CT (O W) w):Lib.TabIs Tryz.prog w "internal/strconv.uint64pow10" .u64 Lib.pow10Tab:=by
 unfold Lib.TabIs World.var? at h ⊢
 cases hn:Tryz.prog.globalNamed "internal/strconv.uint64pow10" with
 | none=>rw[hn] at h;exact h
 | some g=>
  rw[hn] at h;simp only[wE] at h ⊢;have hb:g<W.heap.size:=by
   cases hq:W.heap[g]? with
   | none=>rw[hq] at h;cases h
   | some o=>exact (xE.1 hq).1
  rw[hg.1 g hb];exact h
def ay8:∀args w,(callFunc 113 args).run Tryz.prog w=.ok (.enter 113 args) w:=enters_of Tryz.func113 (by kernel_rfl) rfl
def ay9:∀args w,(callFunc 180 args).run Tryz.prog w=.ok (.enter 180 args) w:=enters_of Tryz.func180 (by kernel_rfl) rfl
def aza:∀args w,(callFunc 240 args).run Tryz.prog w=.ok (.enter 240 args) w:=enters_of Tryz.func240 (by kernel_rfl) rfl
def azb:∀args w,(callFunc 242 args).run Tryz.prog w=.ok (.enter 242 args) w:=enters_of Tryz.func242 (by kernel_rfl) rfl
def azc:∀args w,(callFunc 243 args).run Tryz.prog w=.ok (.enter 243 args) w:=enters_of Tryz.func243 (by kernel_rfl) rfl
def azd:∀args w,(callFunc 198 args).run Tryz.prog w=.ok (.enter 198 args) w:=enters_of Tryz.func198 (by kernel_rfl) rfl
def aze:∀args w,(callFunc 186 args).run Tryz.prog w=.ok (.enter 186 args) w:=enters_of Tryz.func186 (by kernel_rfl) rfl
def azf:∀args w,(callFunc 187 args).run Tryz.prog w=.ok (.enter 187 args) w:=enters_of Tryz.func187 (by kernel_rfl) rfl
def azg:∀args w,(callFunc 188 args).run Tryz.prog w=.ok (.enter 188 args) w:=enters_of Tryz.func188 (by kernel_rfl) rfl
def azh:∀args w,(callFunc 249 args).run Tryz.prog w=.ok (.enter 249 args) w:=enters_of Tryz.func249 (by kernel_rfl) rfl
def azi:∀args w,(callFunc 273 args).run Tryz.prog w=.ok (.enter 273 args) w:=enters_of Tryz.func273 (by kernel_rfl) rfl
def azj:∀args w,(callFunc 268 args).run Tryz.prog w=.ok (.enter 268 args) w:=enters_of Tryz.func268 (by kernel_rfl) rfl
def aqI(b:Nat)(w:yk):(callFunc 272 #[.float .f64 b]).run Tryz.prog w=.ok (.value (.int .u64 b)) w:=by
 rw[run_callFunc_extern Tryz.func272 (by kernel_rfl) (by kernel_rfl) (by kernel_rfl) (e:=Extern.MathFloatBits.float64bits) (by kernel_rfl)];rfl
def akY(b:Nat)(w:yk):(callFunc 271 #[.int .u64 b]).run Tryz.prog w=.ok (.value (.float .f64 b)) w:=by
 rw[run_callFunc_extern Tryz.func271 (by kernel_rfl) (by kernel_rfl) (by kernel_rfl) (e:=Extern.MathFloatBits.float64frombits) (by kernel_rfl)];rfl
def axp(W:yk)(n:Nat)(sp:List AV->Option AV):Prop:=∀aq r,sp aq=F5 r->eD (O W) n aq r
section
variable {W:yk}{m:Int}(hm:W.cell? ⟨4,0,F6⟩=F5 (.int .i64 m))(ht:Lib.TabIs Tryz.prog W "internal/strconv.uint64pow10" .u64 Lib.pow10Tab)
include hm ht
theorem at3:agA.mF (axp W):=
 (Tr.kX (aop (O:=O W) (f:=188) (by rfl) azg (fun s z w hl h=>(Tryz.strconv_Atoi s z hl h w).mono fun _ _ ⟨h1,t,h2⟩=>⟨h1,h2▸Ju (Lib.bytesWorld_below _ _ _)⟩))
  (Tr.kX (als (O:=O W) (f:=243) (by rfl) azc Tryz.strings_Repeat)
  (Tr.kX (aoo (O:=O W) (f:=240) (by rfl) aza (fun z w h0 h1 hg=>(Tryz.strconv_Itoa z h0 h1 w (abO ht hg)).mono fun _ _ ⟨h1,k,os,h2⟩=>⟨h1,h2▸aaR⟩))
  (Tr.kX (akk (O:=O W) (f:=180) (by rfl) ay9 Tryz.strings_CutPrefix)
  (Tr.kX (aqq (O:=O W) (f:=113) (by rfl) ay8 (a:=⟨4,0,F6⟩) (m:=m) hm (fun s sep w hs hc=>Tryz.strings_Cut s sep m w hs hc))
  Tr.jU Tr.jU) Tr.jU) (Tr.kX (aki (O:=O W) (f:=242) (by rfl) azb (fun z w hz hg=>(Tryz.aj7 z hz w (abO ht hg)).mono fun _ _ ⟨h1,k,os,h2⟩=>⟨h1,h2▸aaR⟩))
  Tr.jU Tr.jU)) (Tr.kX (akl (O:=O W) (f:=186) (by rfl) aze Tryz.strings_HasPrefix)
  (Tr.kX (ams (O:=O W) (f:=198) (by rfl) azd (fun x y w hx hy=>Tryz.bits_Mul64 x y hx hy w))
  Tr.jU Tr.jU) (Tr.kX (akh (O:=O W) (f:=187) (by rfl) azf Tryz.strings_TrimPrefix)
  Tr.jU Tr.jU))) (Tr.kX (amv (O:=O W) (f:=259) (by rfl) (fun x y b w h=>Tryz.bits_Sub64 x y b h w))
  (Tr.kX (aoq (O:=O W) (f:=273) (by rfl) azi (fun x w h0 h1=>Tryz.bits_LeadingZeros64 x w h0 h1))
  (Tr.kX (aon (O:=O W) (f:=249) (by rfl) azh (fun s cs w hs Dq ha=>Tryz.akz s cs w hs Dq ha))
  Tr.jU Tr.jU) (Tr.kX (amu (O:=O W) (f:=257) (by rfl) (fun x y c w h=>Tryz.bits_Add64 x y c h w))
  Tr.jU Tr.jU)) (Tr.kX (akL (O:=O W) (f:=272) (by rfl) aqI)
  (Tr.kX (amt (O:=O W) (f:=268) (by rfl) azj (fun x w h0 h1=>Tryz.bits_Len64 x w h0 h1))
  Tr.jU Tr.jU) (Tr.kX (akd (O:=O W) (f:=271) (by rfl) akY)
  Tr.jU Tr.jU))))
theorem aqJ:iK (O W) where
 hint n f g h:=Tr.Eh (p:=fun f g=>BE mG.ab g=f) (SR mG.ati) h
 mixed:=by kernel_rfl
 prog n F h:=Tr.Eh mG.aqE h
 aI n sp aq r h hs:=Tr.Eh (at3 hm ht) h aq r hs
 G6 n sp hp ct aq v an aH h:=by cases h
end
end J1
def bF:List Int->Int
 | []=>0
 | a::r=>if a=0 then bF r else a
def SD{l:List Int}{i:Nat}(h:i<l.length):bF (l.drop i)=if l[i]=0 then bF (l.drop (i+1)) else l[i]:=by
 rw[yW h,bF]
def oW(lo hi:Int):List Int->Bool
 | []=>ydp
 | a::r=>if a<lo\/hi<a then ydo else oW lo hi r
def afr(n:Nat)(lo hi:Int):List (List Int)->Int
 | []=>0
 | r::s=>if r.length≠n then 2 else if oW lo hi r=ydo then 3 else afr n lo hi s
def amC(s:List (List Int)):Int:=if s.length=0 then 12 else if 16<s.length then 5 else afr s.length (-1000) 1000 s
def abP{lo hi:Int}{l:List Int}(h:oW lo hi l=ydp):∀i (c9:i<l.length),lo<=l[i]/\l[i]<=hi:=by
 induction l with
 | nil=>intro i c9;exact absurd c9 (Nat.not_lt_zero _)
 | cons a r ih=>
  simp only[oW] at h
  grind
def amD{lo hi:Int}{l:List Int}(h:oW lo hi l=ydp):∀i,oW lo hi (l.take i)=ydp:=by
 induction l with
 | nil=>intro i;simp[oW]
 | cons a r ih=>
  intro i;simp only[oW] at h
  split at h
  .grind
  .rename_i hc
   cases i with
   | zero=>simp[oW]
   | succ i=>simp only[List.take_succ_cons,oW,hc,xz,ih h i]
section
variable {x:Int}{a b l:List Int}
def dv:List Int->Nat
 | []=>0
 | a::r=>a.toNat+1000000000*dv r
def oD:∀(a b:List Int),dv (a++b)=dv a+1000000000^a.length*dv b
 | [],b=>by simp[dv]
 | x::a,b=>by
  simp only[yB,dv,oD a b,yv,xq,xL]
  grind
def rA(i:Nat):dv (l.take (i+1))=dv (l.take i)+1000000000^i*(l.getD i 0).toNat:=by
 by_cases h:i<l.length
 .rw [xv h,oD,yR,xF (by lia)];simp[dv,yS,xb h]
 .rw [yK (by lia),yK (by lia)]
  grind
abbrev dg(l:List Int):Prop:=oW 0 999999999 l=ydp
def ja:dg (a++b)↔dg a/\dg b:=by
 induction a with
 | nil=>simp[dg,oW]
 | cons x a ih=>
  simp only[dg,yB,oW] at ih ⊢
  grind
def mR:dg [x]↔0<=x/\x<1000000000:=by
 simp only[dg,oW]
 grind
def je(h:dg l)(i:Nat):0<=l.getD i 0/\l.getD i 0<1000000000:=by
 by_cases hi:i<l.length
 .have:=abP h i hi
  grind
 .grind
def El(h:dg l)(i:Nat):dg (l.take i):=amD h i
def kZ:∀{l:List Int},dg l->dv l<1000000000^l.length
 | [],_=>by simp[dv]
 | x::l,h=>by
  have h':dg ([x]++l):=h;have⟨h1,h2⟩:=ja.1 h';have h1:=mR.1 h1
  have:=kZ h2
  simp only[dv,yv,xq]
  lia
def eh:List Int->List Int
 | []=>[]
 | a::r=>match eh r with | []=>if a=0 then [] else [a] | t::q=>a::t::q
def Jw:∀l:List Int,eh (l++[0])=eh l
 | []=>rfl
 | a::l=>by simp only[yB,eh,Jw l]
def NH{a:Int}(h:a≠0):∀l:List Int,eh (l++[a])=l++[a]
 | []=>by simp[eh,h]
 | b::l=>by
  simp only[yB,eh,NH h l]
  cases hq:l++[a] with
  | nil=>simp at hq
  | cons t q=>rfl
def Bf:∀l:List Int,dv (eh l)=dv l
 | []=>rfl
 | a::l=>by
  have ih:=Bf l;simp only[eh,dv]
  split
  .rename_i h;rw[h] at ih
   split
   .rename_i h0;subst h0;simp[dv,<-ih]
   .simp [dv,<-ih]
  .rename_i t q h;rw[h] at ih;simp only[dv] at ih ⊢
   lia
def Cr:∀{l:List Int},dg l->dg (eh l)
 | [],_=>rfl
 | a::l,h=>by
  have h':dg ([a]++l):=h;have⟨h1,h2⟩:=ja.1 h';have ih:=Cr h2;simp only[eh]
  split
  .grind
  .rename_i t q hq;rw[hq] at ih
   exact (ja (a:=[a]) (b:=t::q)).2 ⟨h1,ih⟩
def NX:∀l:List Int,(eh l).length<=l.length
 | []=>yx _
 | a::l=>by
  have ih:=NX l;simp only[eh]
  grind
def snoc{α:Type}(l:List α):l=[]\/∃m a,l=m++[a]:=by
 rcases List.eq_nil_or_concat l with h | ⟨m,a,h⟩
 .grind
 .grind
def akZ:∀(n:Nat) (l:List Int),l.length=n->eh (eh l)=eh l:=by
 intro n
 induction n with
 | zero=>intro l h;rw[yQ h];rfl
 | succ n ih=>
  intro l h;rcases snoc l with rfl | ⟨m,a,rfl⟩
  .rfl
  .by_cases h0:a=0
   .subst h0;rw[Jw]
    grind
   .rw [NH h0,NH h0]
def alv(l:List Int):eh (eh l)=eh l:=akZ _ l rfl
abbrev nz(l:List Int):Prop:=eh l=l
def Gn(l:List Int):nz (eh l):=alv l
def Pu(h:nz l)(hd:dg l)(h0:l≠[]):1000000000^(l.length-1)<=dv l:=by
 rcases snoc l with rfl | ⟨m,a,rfl⟩
 .grind
 .by_cases ha:a=0
  .subst ha
   have:=NX m
   have e:=congrArg uA h;rw[Jw] at e
   grind
  .rw [oD]
   have:=mR.1 (ja.1 hd).2
   simp only[dv,yJ,tM,uX,xH,yZ];have h1:1<=a.toNat:=by lia
   have:=xa (1000000000^m.length) h1
   lia
def ac6(h:nz l)(hd:dg l)(h0:dv l=0):l=[]:=by
 by_cases hl:l=[]
 .grind
 .have:=Pu h hd hl
  grind
def UO(ha:dg a)(hb:nz b)(bI:dg b)(h:a.length<b.length):dv a<dv b:=by
 have h1:=kZ ha;have h2:=Pu hb bI (fun e=>by subst e;simp at h);have h3:1000000000^a.length<=1000000000^(b.length-1):=xd (by decide) (by lia)
 lia
def dW(m n:Nat):Int:=if m<n then -1 else if n<m then 1 else 0
def adZ{i:Nat}(h:i<l.length):dv l=dv (l.take i)+1000000000^i*(l[i].toNat+1000000000*dv (l.drop (i+1))):=by
 have e:l=l.take i++l[i]::l.drop (i+1):=by simp_all
 have:dv l=dv (l.take i++l[i]::l.drop (i+1)):=congrArg dv e
 rw[this,oD,yR,xF (by lia)];rfl
def ac7{i:Nat}(ha:dg a)(hb:dg b)(h1:i<a.length)(h2:i<b.length)(he:a.drop (i+1)=b.drop (i+1))(h:a[i]<b[i]):dv a<dv b:=by
 rw[adZ h1,adZ h2,he];have hl:=kZ (El ha i);have g1:=abP ha i h1;have h3:a[i].toNat+1000000000*dv (b.drop (i+1))+1<=b[i].toNat+1000000000*dv (b.drop (i+1)):=by lia
 have:=xa (1000000000^i) h3
 grind
def UP:∀{l:List Int} {j:Nat} {x:Int},j<l.length->dv (l.set j x)+1000000000^j*(l.getD j 0).toNat=dv l+1000000000^j*x.toNat
 | [],j,x,h=>by simp at h
 | a::l,0,x,_=>by simp[dv];lia
 | a::l,j+1,x,h=>by
  have ih:=UP (l:=l) (j:=j) (x:=x) (by simpa using h);simp only[ybA,dv,ybu,xq]
  grind
def OX(h:dg l){j:Nat}(hx:0<=x/\x<1000000000):dg (l.set j x):=by
 by_cases hj:j<l.length
 .rw [uC,yz hj];have e:l=l.take (j+1)++l.drop (j+1):=(wb _ _).symm;have hd:dg (l.drop (j+1)):=by rw[e] at h;exact (ja.1 h).2
  exact ja.2 ⟨El h j,(ja (a:=[x]) (b:=l.drop (j+1))).2 ⟨mR.2 hx,hd⟩⟩
 .rw [List.set_eq_of_length_le (by lia)];exact h
def abQ{j m:Nat}(h:m≠j):(l.set j x).getD m 0=l.getD m 0:=by grind
def aoz{V0 V V' p q A X Y o c s:Nat}(hs:s=o+A*X+c)(aU:V'+p*q*o=V+p*q*(s%1000000000))(hv:V+p*q*c=V0+p*(A*Y)):
  V'+p*(q*1000000000)*(s/1000000000)=V0+p*(A*(Y+q*X)):=by
 have e:=tq s 1000000000;have e2:p*q*s=p*q*(s%1000000000)+p*(q*1000000000)*(s/1000000000):=by
  conv=>lhs;rw[<-e]
  rw[xL,<-xm (p*q),<-xm p q]
 have e3:p*q*s=p*q*o+p*q*(A*X)+p*q*c:=by rw[hs,xL,xL]
 have e4:p*(A*(Y+q*X))=p*(A*Y)+p*q*(A*X):=by
  rw[xL,xL,xm p q,<-xm A q X,xA A q,xm q A X]
 lia
def abR(n:Nat):dv (yE n 0)=0:=by
 induction n with
 | zero=>rfl
 | succ n ih=>simp[wP,dv,ih]
def abS(n:Nat):dg (yE n 0):=by
 induction n with
 | zero=>rfl
 | succ n ih=>exact (ja (a:=[0]) (b:=yE n 0)).2 ⟨by decide,ih⟩
end
section
variable {l m:List Nat}{U V i p u0 u1 u2 ur v1 v2 vr x:Nat}
def bv(b:Nat):List Nat->Nat
 | []=>0
 | a::r=>a+b*bv b r
def lo(b:Nat)(l:List Nat):Prop:=∀x,x∈l->x<b
section
variable {b:Nat}
def CH(a:Nat):bv b [a]=a:=by simp[bv]
def zV:∀(l m:List Nat),bv b (l++m)=bv b l+b^l.length*bv b m
 | [],m=>by simp[bv]
 | x::l,m=>by
  simp only[yB,bv,zV l m,yv,xq,xL]
  grind
def gd(h:i<l.length):l[i]=l.getD i 0:=by simp_all
def UQ(h:l.length<=i):l.getD i 0=0:=by simp_all
def kI(i:Nat):bv b (l.take (i+1))=bv b (l.take i)+b^i*l.getD i 0:=by
 by_cases h:i<l.length
 .rw [xv h,zV,yR,xF (by lia),CH,gd h]
 .rw [yK (by lia),yK (by lia),UQ (by lia),xH,yZ]
def OY:lo b []:=fun _ h=>by simp at h
def NY:lo b (l++m)↔lo b l/\lo b m:=by
 constructor
 .intro h;exact⟨fun x hx=>h x (by simp[hx]),fun x hx=>h x (by simp[hx])⟩
 .rintro ⟨h1,h2⟩ x hx;rcases wD.1 hx with h | h
  .exact h1 x h
  .exact h2 x h
def GM:lo b [x]↔x<b:=by simp[lo]
def iL(hb:0<b)(h:lo b l)(i:Nat):l.getD i 0<b:=by
 by_cases hi:i<l.length
 .rw [<-gd hi];exact h _ (List.getElem_mem hi)
 .grind
def Cz(h:lo b l)(i:Nat):lo b (l.take i):=fun x hx=>h x (List.mem_of_mem_take hx)
def ac8(h:lo b l)(i:Nat):lo b (l.drop i):=fun x hx=>h x (List.mem_of_mem_drop hx)
def nN(h:lo b l)(hx:x<b):lo b (l.set i x):=fun y hy=>by
 rcases List.mem_or_eq_of_mem_set hy with h1 | h1
 .exact h y h1
 .lia
def GN(hb:0<b)(n:Nat):lo b (yE n 0):=fun x hx=>by
 grind
def GO(n:Nat):bv b (yE n 0)=0:=by
 induction n with
 | zero=>rfl
 | succ n ih=>simp[wP,bv,ih]
def Em(n m:Nat):(yE n (0:Nat)).getD m 0=0:=by grind
def nR:∀{l:List Nat},lo b l->bv b l<b^l.length
 | [],_=>by simp[bv]
 | x::l,h=>by
  have h1:=h x (by simp);have h2:=nR (l:=l) (fun y hy=>h y (by simp[hy]));simp only[bv,yv,xq,xA _ b]
  have:=xa b (show bv b l+1<=b^l.length from h2)
  grind
def p6:∀{l:List Nat} {i x:Nat},i<l.length->bv b (l.set i x)+b^i*l.getD i 0=bv b l+b^i*x
 | [],i,x,h=>by simp at h
 | a::l,0,x,_=>by simp[bv];lia
 | a::l,i+1,x,h=>by
  have ih:=p6 (l:=l) (i:=i) (x:=x) (by simpa using h)
  have:=congrArg (fun t=>b*t) ih
  simp only[xL] at this;simp only[ybA,bv,ybu,xq,xA _ b,xm] at this ⊢
  lia
def rB{m:Nat}(h:i≠m):(l.set i x).getD m 0=l.getD m 0:=by simp_all
def alw(h:i<l.length):(l.set i x).getD i 0=x:=by simp_all
def JL(l:List Nat)(i:Nat)(h:i<=l.length):bv b l=bv b (l.take i)+b^i*bv b (l.drop i):=by
 have:=zV (b:=b) (l.take i) (l.drop i)
 simp_all
def ej:List Nat->List Nat
 | []=>[]
 | a::r=>match ej r with | []=>if a=0 then [] else [a] | t::q=>a::t::q
def NI:∀l:List Nat,ej (l++[0])=ej l
 | []=>rfl
 | a::l=>by simp only[yB,ej,NI l]
def Ga{a:Nat}(h:a≠0):∀l:List Nat,ej (l++[a])=l++[a]
 | []=>by simp[ej,h]
 | b::l=>by
  simp only[yB,ej,Ga h l]
  cases hq:l++[a] with
  | nil=>simp at hq
  | cons t q=>rfl
abbrev iD(l:List Nat):Prop:=ej l=l
def alx:∀(n:Nat) (l:List Nat),l.length=n->∃i,i<=n/\ej l=l.take i/\iD (l.take i)/\bv b (l.take i)=bv b l:=by
 intro n
 induction n with
 | zero=>intro l h;rw[yQ h];exact⟨0,yx _,rfl,rfl,rfl⟩
 | succ n ih=>
  intro l h;rcases snoc l with rfl | ⟨m,a,rfl⟩
  .grind
  .have hm:m.length=n:=by simp_all
   by_cases h0:a=0
   .subst h0;have⟨i,h1,h2,h3,h4⟩:=ih m hm;have e:(m++[0]).take i=m.take i:=by grind
    refine⟨i,by lia,by rw[NI,h2,e],by rw[e];exact h3,?_⟩
    rw[e,h4,zV];simp[bv]
   .have e:(m++[a]).take (n+1)=m++[a]:=yK (by simp[hm]);exact⟨n+1,yx _,by rw[e,Ga h0],by rw[e];exact Ga h0 m,by rw[e]⟩
def NZ(l:List Nat):∃i,i<=l.length/\ej l=l.take i/\iD (ej l)/\bv b (ej l)=bv b l:=by
 have⟨i,h1,h2,h3,h4⟩:=alx (b:=b) l.length l rfl
 grind
def Cs(l:List Nat):bv b (ej l)=bv b l:=by
 have⟨_,_,_,_,h⟩:=NZ (b:=b) l;exact h
def Ct(l:List Nat):iD (ej l):=by
 have⟨_,_,_,h,_⟩:=NZ (b:=2) l;exact h
def Cu(h:lo b l):lo b (ej l):=by
 have⟨i,_,h2,_⟩:=NZ (b:=b) l;rw[h2];exact Cz h i
def amE(l:List Nat):(ej l).length<=l.length:=by
 have⟨i,_,h2,_⟩:=NZ (b:=2) l
 grind
def Oe(h:iD l)(h0:l≠[]):l.getD (l.length-1) 0≠0:=by
 rcases snoc l with rfl | ⟨m,a,rfl⟩
 .grind
 .intro ha
  have:a=0:=by
   grind
  subst this;have e:=congrArg uA h;rw[NI] at e
  have:=amE m
  grind
def UR(hb:0<b)(h:iD l)(h0:l≠[]):b^(l.length-1)<=bv b l:=by
 rcases snoc l with rfl | ⟨m,a,rfl⟩
 .grind
 .have ha:=Oe h h0;simp[yS] at ha;rw[zV,CH];simp only[yJ,tM,uX]
  have:=xa (b^m.length) (show 1<=a by lia)
  lia
def OB(hb:1<b)(hl:lo b l)(hm:iD m)(h:l.length<m.length):bv b l<bv b m:=by
 have h1:=nR hl;have h2:=UR (b:=b) (by lia) hm (fun e=>by subst e;simp at h);have h3:b^l.length<=b^(m.length-1):=xd (by lia) (by lia)
 lia
def ac9(hl:lo b l)(h1:i<l.length)(h2:i<m.length)(he:l.drop (i+1)=m.drop (i+1))(h:l.getD i 0<m.getD i 0):bv b l<bv b m:=by
 rw[JL l (i+1) (by lia),JL m (i+1) (by lia),he,kI,kI]
 have:=nR (Cz hl i)
 have:=xa (b^i) (show l.getD i 0+1<=m.getD i 0 from h)
 grind
def amF(hb:1<b){k:Nat}(h:iD l)(hk:bv b l<b^k):l.length<=k:=by
 by_cases h0:l=[]
 .grind
 .have h1:=UR (b:=b) (by lia) h h0;have h2:b^(l.length-1)<b^k:=wA h1 hk
  have:=(uv hb).1 h2
  lia
def Z4{t r:Nat}(hV:V=(v1*b+v2)*p+vr)(hU:U=((u0*b+u1)*b+u2)*p+ur)(hur:ur<p)(ht:t*v1+r=u0*b+u1)(h:r*b+u2<t*v2):U/V<=t-1:=by
 have h1:U<t*V:=by
  have e:t*((v1*b+v2)*p)=((t*v1)*b+t*v2)*p:=by
   grind
  have h2:((u0*b+u1)*b+u2)+1<=(t*v1)*b+t*v2:=by rw[<-ht,xY];lia
  have h3:=yT p h2;rw[hV,hU,xL,e]
  grind
 have zH:0<V:=by
  grind
 have:=(xO zH).2 h1
 lia
def aaS{t r:Nat}(hb:0<b)(hV:V=(v1*b+v2)*p+vr)(MO:vr<p)(hU:U=((u0*b+u1)*b+u2)*p+ur)(dY:0<v1)(dM:v2<b)(ma:t<b)(ht:t*v1+r=u0*b+u1)(h:b<=r\/t*v2<=r*b+u2):t<=U/V+1:=by
 have h2:t*v2<=r*b+u2:=by
  rcases h with h | h
  .have:=xC (uS ma) (uS dM)
   have:=yT b h
   lia
  .exact h
 have h3:t*(v1*b+v2)<=(u0*b+u1)*b+u2:=by
  rw[xL,<-xm,<-ht,xY];lia
 have hp:0<p:=by lia
 have aFv:b<=v1*b:=Nat.le_mul_of_pos_left b dY;have zH:0<V:=by
  have:=vO (show 0<v1*b+v2 by lia) hp
  lia
 rcases xx t with h0 | h0
 .grind
 .obtain ⟨s,rfl⟩:∃s,t=s+1:=⟨t-1,by lia⟩;have h4:s*V<=U:=by
   have h5:V<=(v1*b+v2+1)*p:=by grind
   have h6:=xa s h5;have h7:s*(v1*b+v2+1)<=(s+1)*(v1*b+v2):=by
    grind
   have h8:=yT p (xu h7 h3)
   grind
  exact Nat.succ_le_succ ((tW zH).2 h4)
def SE(hV:V=(v1*b+v2)*p+vr)(hU:U=((u0*b+u1)*b+u2)*p+ur)(hur:ur<p)(B1:u2<b)(dY:0<v1):U/V<=(u0*b+u1)/v1:=by
 by_cases zH:V=0
 .grind
 .refine (tW dY).2 ?_;have h1:=Nat.div_mul_le_self U V;generalize U/V=q at h1 ⊢;have h2:q*v1*(b*p)<=q*V:=by
   rw[hV,xm]
   grind
  have h3:U<(u0*b+u1+1)*(b*p):=by
   have:(u0*b+u1)*b+u2+1<=(u0*b+u1+1)*b:=by grind
   have:=yT p this
   grind
  have h4:q*v1*(b*p)<(u0*b+u1+1)*(b*p):=by lia
  have:=uY h4
  lia
def aaT(hV:V=(v1*b+v2)*p+vr)(hU:U=((u0*b+u1)*b+u2)*p+ur)(MO:vr<p)(dM:v2<b)(h:U<b*V):u0<=v1:=by
 refine Nat.le_of_lt_succ ?_;have h1:V<(v1+1)*(b*p):=by
  have:v1*b+v2+1<=(v1+1)*b:=by grind
  have:=yT p this
  grind
 have h2:u0*(b*(b*p))<=U:=by
  grind
 have h3:=xa b (uS h1);have e:b*((v1+1)*(b*p))=(v1+1)*(b*(b*p)):=by grind
 rw[e] at h3;have h4:u0*(b*(b*p))<(v1+1)*(b*(b*p)):=wA h2 (yG h h3);exact uY h4
end
end
section
variable {P:aF}{L:Lib}{f:cu}{F:Nat->cu}
def DE(f:cu)(F:Nat->cu):Prop:=∀c s r,f c s=F5 r->∃n,F n c s=F5 r
def Mon(F:Nat->cu):Prop:=∀n m,n<=m->Le (F n) (F m)
def Nr(h:DE f F)(n:Nat)(aq:List AV)(r:AV)(hr:bW P L f n aq=F5 r):∃k,bW P L (F k) n aq=F5 r:=by
 unfold bW at hr ⊢
 cases hL:L.pure n with
 | some sp=>exact⟨0,by simpa only[hL] using hr⟩
 | none=>
  simp only[hL] at hr ⊢
  cases hP:P n with
  | none=>simp[hP] at hr
  | some G=>
   simp only[hP] at hr ⊢
   cases hf:f G.body ⟨fG 0 aq,[],0,0⟩ with
   | none=>simp[hf] at hr
   | some q=>
    have⟨k,hk⟩:=h _ _ _ hf
    grind
def SS(h:DE f F)(hp:Hp)(ct:Nat)(n:Nat)(aq:List AV)(r:AV×Hp×Nat)(hr:js P L f hp ct n aq=F5 r):∃k,js P L (F k) hp ct n aq=F5 r:=by
 unfold js at hr ⊢
 cases hL:L.heap n with
 | some sp=>exact⟨0,by simpa only[hL] using hr⟩
 | none=>
  simp only[hL] at hr ⊢
  cases hP:P n with
  | none=>simp[hP] at hr
  | some G=>
   simp only[hP] at hr ⊢
   cases hf:f G.body ⟨fG 0 aq,hp,ct,ct⟩ with
   | none=>simp[hf] at hr
   | some q=>
    have⟨k,hk⟩:=h _ _ _ hf
    grind
def Zz(h:DE f F)(hm:Mon F)(hp:Hp)(ct:Nat)(l:Nat)(xs:List AV)(r:AV×Hp×Nat)(hr:ie f hp ct l xs=F5 r):∃k,ie (F k) hp ct l xs=F5 r:=by
 have key:∃k,∀g,Le (F k) g->ie g hp ct l xs=F5 r:=by
  unfold ie at hr
  cases hl:ak hp l with
  | none=>simp[hl] at hr
  | some o=>
   split at hr
   .rename_i tm ps as_ body pe zE
    cases hb:rD tm ps xs with
    | none=>simp[hb] at hr
    | some tm'=>
     simp only[hb] at hr
     cases h1:f as_ ⟨tm',hp,ct,ct⟩ with
     | none=>simp[h1] at hr
     | some q=>
      have⟨k1,lk⟩:=h _ _ _ h1
      split at hr
      .rename_i s1 ay6
       split at hr
       .rename_i gM qG Dl EQ oc ay7
        cases h2:f body ⟨s1.tm,aU s1.hp l (.lp gM qG Dl EQ 1 oc),s1.ct,s1.ct⟩ with
        | none=>simp[h2] at hr
        | some q2=>
         have⟨k2,qM⟩:=h _ _ _ h2;refine⟨max k1 k2,fun g hg=>?_⟩;have e1:=hg _ _ _ (hm k1 _ (uQ k1 k2) _ _ _ lk);have e2:=hg _ _ _ (hm k2 _ (uF k1 k2) _ _ _ qM);unfold ie
         grind
       .simp at hr
      .simp at hr
   .simp at hr
 have⟨k,hk⟩:=key;exact⟨k,hk _ (fun _ _ _ h=>h)⟩
def Z5(h:DE f F)(hm:Mon F)(hp:Hp)(ct:Nat)(m:Md)(fv:AV)(xs:List AV)(r:AV×Hp×Nat)(hr:eR P L f hp ct m fv xs=F5 r):∃k,eR P L (F k) hp ct m fv xs=F5 r:=by
 unfold eR at hr ⊢
 split at hr
 .rename_i n first cap
  cases m with
  | pure=>
   cases hz:cB deep hp (first++(xs++cap)) with
   | none=>simp[hz] at hr
   | some q=>
    simp only[hz] at hr ⊢
    cases hc:bW P L f n q.1 with
    | none=>simp[hc] at hr
    | some u=>
     have⟨k,hk⟩:=Nr h n q.1 u hc
     grind
  | own=>
   cases hz:cB deep hp (first++(xs++cap)) with
   | none=>simp[hz] at hr
   | some q=>
    simp only[hz] at hr ⊢
    cases hc:bW P L f n q.1 with
    | none=>simp[hc] at hr
    | some u=>
     have⟨k,hk⟩:=Nr h n q.1 u hc
     grind
  | heap=>exact SS h _ _ _ _ _ hr
  | dyn=>
   cases hz:aE (first++(xs++cap)) with
   | true=>
    simp only[hz,yu] at hr ⊢
    cases hc:bW P L f n (first++(xs++cap)) with
    | none=>simp[hc] at hr
    | some u=>
     have⟨k,hk⟩:=Nr h n _ u hc
     grind
   | false=>
    simp only[hz,yO] at hr ⊢;exact SS h _ _ _ _ _ hr
 .split at hr
  .exact Zz h hm _ _ _ _ _ hr
  .exact Zz h hm _ _ _ _ _ hr
  .simp at hr
 .simp at hr
def aoA(h:DE f F)(hm:Mon F)(tm:Env)(hp:Hp)(ct:Nat)(o:Op)(r:AV×Hp×Nat)(hr:aX P L f tm hp ct o=F5 r):∃k,aX P L (F k) tm hp ct o=F5 r:=by
 unfold aX at hr ⊢
 split at hr
 .exact Z5 h hm _ _ _ _ _ _ hr
 .rename_i rs fv xs
  cases hc:eR P L f hp ct .dyn (ax tm fv) (dK tm xs) with
  | none=>simp[hc] at hr
  | some q=>
   have⟨k,hk⟩:=Z5 h hm _ _ _ _ _ _ hc
   grind
 all_goals exact⟨0,by simpa only using hr⟩
def Tn(h:DE f F)(hm:Mon F):∀(ops:List aS) (s s':St),de P L f ops s=F5 s'->∃k,de P L (F k) ops s=F5 s'
 | [],s,s',hr=>⟨0,by simpa only[de] using hr⟩
 | ⟨d,gd,o⟩::r,s,s',hr=>by
  simp only[de] at hr ⊢
  split at hr
  .rename_i hw
   cases ho:aX P L f s.tm s.hp s.ct o with
   | none=>simp[ho] at hr
   | some q=>
    have⟨k1,lk⟩:=aoA h hm _ _ _ _ _ ho;simp only[ho] at hr;have⟨k2,qM⟩:=Tn h hm r _ _ hr;refine⟨max k1 k2,?_⟩;rw[aaL (hm k1 _ (uQ k1 k2)) _ _ _ _ _ lk];exact ND (hm k2 _ (uF k1 k2)) r _ _ qM
  .rename_i hw;exact Tn h hm r _ _ hr
  .simp at hr
def Ef(h:DE f F)(hm:Mon F):∀(c:VC) (s:St) (r:Ex×St),bz P L f c s=F5 r->∃k,bz P L (F k) c s=F5 r
 | .skip,s,r,hr=>⟨0,by simpa only[bz] using hr⟩
 | .kQ ops,s,r,hr=>by
  simp only[bz] at hr ⊢
  cases ho:de P L f ops s with
  | none=>simp[ho] at hr
  | some s'=>
   have⟨k,hk⟩:=Tn h hm _ _ _ ho
   grind
 | .seq a b,s,r,hr=>by
  simp only[bz] at hr ⊢
  cases ha:bz P L f a s with
  | none=>simp[ha] at hr
  | some q=>
   have⟨k1,lk⟩:=Ef h hm a s q ha;have⟨ex,s1⟩:=q
   cases ex with
   | normal=>
    simp only[ha] at hr;have⟨k2,qM⟩:=Ef h hm b s1 r hr;refine⟨max k1 k2,?_⟩;rw[sM (hm k1 _ (uQ k1 k2)) a s _ lk];exact sM (hm k2 _ (uF k1 k2)) b s1 r qM
   | ret=>exact⟨k1,by rw[lk];simpa only[ha] using hr⟩
   | exit id=>exact⟨k1,by rw[lk];simpa only[ha] using hr⟩
 | .cond x a b,s,r,hr=>by
  simp only[bz] at hr ⊢
  split at hr
  .rename_i t ht
   cases t with
   | true=>simp only[yu] at hr ⊢;exact Ef h hm a s r hr
   | false=>simp only[yO] at hr ⊢;exact Ef h hm b s r hr
  .simp at hr
 | .dE id a,s,r,hr=>by
  simp only[bz] at hr ⊢
  cases ha:bz P L f a s with
  | none=>simp[ha] at hr
  | some q=>
   have⟨k,hk⟩:=Ef h hm a s q ha
   grind
 | .kp live,s,r,hr=>⟨0,by simpa only[bz] using hr⟩
 | .fz ts,s,r,hr=>⟨0,by simpa only[bz] using hr⟩
 | .loop live a,s,r,hr=>by
  simp only[bz] at hr ⊢
  cases ha:bz P L f a (bE live s) with
  | none=>simp[ha] at hr
  | some q=>
   have⟨k1,lk⟩:=Ef h hm a _ q ha;have⟨ex,s1⟩:=q
   cases ex with
   | normal=>
    simp only[ha] at hr;have⟨k2,qM⟩:=h _ _ _ hr;refine⟨max k1 k2,?_⟩;rw[sM (hm k1 _ (uQ k1 k2)) a _ _ lk];exact hm k2 _ (uF k1 k2) _ _ _ qM
   | ret=>exact⟨k1,by rw[lk];simpa only[ha] using hr⟩
   | exit id=>exact⟨k1,by rw[lk];simpa only[ha] using hr⟩
 | .rf fv ps as_ body,s,r,hr=>by
  simp only[bz] at hr ⊢
  split at hr
  .rename_i n first cap hx
   split at hr
   .grind
   .rename_i hL
    cases hc:js P L f ((s.ct,.lp s.tm ps as_ body 0 .none)::s.hp) (s.ct+1) n (first++(.fn (.y s.ct) [] []::cap)) with
    | none=>simp[hc] at hr
    | some q=>
     have⟨k,hk⟩:=SS h _ _ _ _ _ hc
     grind
  .simp at hr
 | .exit id,s,r,hr=>⟨0,by simpa only[bz] using hr⟩
 | .ret,s,r,hr=>⟨0,by simpa only[bz] using hr⟩
end
section
variable (P:aF)(L:Lib)
noncomputable def D:cu:=fun c s=>@dite _ (∃r n,ev P L n c s=F5 r) (Classical.propDecidable _) (fun h=>F5 h.choose) (fun _=>F6)
variable {P L}
def agC{c:VC}{s:St}{r:Ex×St}{n:Nat}(h:ev P L n c s=F5 r):D P L c s=F5 r:=by
 have hx:∃r n,ev P L n c s=F5 r:=⟨r,n,h⟩;unfold D;have⟨m,hm⟩:=hx.choose_spec;have e1:=Up P L (uQ n m) _ _ _ h;have e2:=Up P L (uF n m) _ _ _ hm
 grind
def Wn{c:VC}{s:St}{r:Ex×St}(h:D P L c s=F5 r):∃n,ev P L n c s=F5 r:=by
 unfold D at h;by_cases hx:∃r n,ev P L n c s=F5 r
 .grind
 .grind
def azk(n:Nat):Le (ev P L n) (D P L):=fun _ _ _ h=>agC h
def afs:DE (D P L) (ev P L):=fun _ _ _ h=>Wn h
def at4:Mon (ev P L):=fun _ _ h=>Up P L h
def lK(c:VC)(s:St):D P L c s=bz P L (D P L) c s:=by
 cases h:D P L c s with
 | some r=>
  have⟨n,hn⟩:=Wn h
  cases n with
  | zero=>rw[JY] at hn;cases hn
  | succ n=>rw[OA] at hn;exact (sM (azk n) c s r hn).symm
 | none=>
  cases hs:bz P L (D P L) c s with
  | none=>rfl
  | some r=>
   have⟨n,hn⟩:=Ef afs at4 c s r hs;rw[<-OA] at hn;rw[agC hn] at h;cases h
def ad0{f:Nat}{aq:List AV}{r:AV}(h:bW P L (D P L) f aq=F5 r):∃n,Xq P L n f aq=F5 r:=Nr afs f aq r h
end
section
open Go (IntKind BinOp UnOp)
structure Has(P:aF)(L:Lib)(n:Nat)(F:aD):Prop where
 pure:L.pure n=F6
 heap:L.heap n=F6
 code:P n=F5 F
noncomputable def rK(P:aF)(L:Lib)(r:Option (Ex×St))(b:VC):Option (Ex×St):=match r with | some (.normal,s)=>D P L b s | r=>r
def Bv(id:Nat)(r:Option (Ex×St)):Option (Ex×St):=match r with | some (.exit j,s)=>bif yo j id then F5 (.normal,s) else F5 (.exit j,s) | r=>r
noncomputable def K2(P:aF)(L:Lib)(live:List Nat)(a:VC)(r:Option (Ex×St)):Option (Ex×St):=match r with | some (.normal,s)=>D P L (.loop live a) s | r=>r
def norm(r:Option St):Option (Ex×St):=match r with | some s=>F5 (.normal,s) | none=>F6
noncomputable def Pv(P:aF)(L:Lib)(v:AV)(a b:VC)(s:St):Option (Ex×St):=match v with | .bool t=>bif t then D P L a s else D P L b s | _=>F6
def at5(s:St):D P L .skip s=F5 (.normal,s):=by rw[lK];rfl
def at6(id:Nat)(s:St):D P L (.exit id) s=F5 (.exit id,s):=by rw[lK];rfl
def axq(s:St):D P L .ret s=F5 (.ret,s):=by rw[lK];rfl
def agD(live:List Nat)(s:St):D P L (.kp live) s=F5 (.normal,bE live s):=by rw[lK];rfl
def azl(ts:List Nat)(s:St):D P L (.fz ts) s=norm (rH ts s):=by rw[lK];rfl
def axr(ops:List aS)(s:St):D P L (.kQ ops) s=norm (de P L (D P L) ops s):=by rw[lK];rfl
def nS(a b:VC)(s:St):D P L (.seq a b) s=rK P L (D P L a s) b:=by
 rw[lK,lK a];simp only[bz,rK]
 cases bz P L (D P L) a s with
 | none=>rfl
 | some q=>
  have⟨e,s1⟩:=q
  cases e with
  | normal=>exact (lK b s1).symm
  | ret=>rfl
  | exit id=>rfl
def at7(x:X)(a b:VC)(s:St):D P L (.cond x a b) s=Pv P L (ax s.tm x) a b s:=by
 rw[lK];simp only[bz,Pv]
 cases ax s.tm x with
 | bool t=>
  cases t with
  | true=>exact (lK a s).symm
  | false=>exact (lK b s).symm
 | _=>rfl
def axs(id:Nat)(a:VC)(s:St):D P L (.dE id a) s=Bv id (D P L a s):=by
 rw[lK,lK a];simp only[bz,Bv]
 cases bz P L (D P L) a s with
 | none=>rfl
 | some q=>have⟨e,s1⟩:=q;cases e<;>rfl
def OZ(live:List Nat)(a:VC)(s:St):D P L (.loop live a) s=K2 P L live a (D P L a (bE live s)):=by
 rw[lK,lK a];simp only[bz,K2]
 cases bz P L (D P L) a (bE live s) with
 | none=>rfl
 | some q=>have⟨e,s1⟩:=q;cases e<;>rfl
def jb(s:St)(b:VC):rK P L (F5 (.normal,s)) b=D P L b s:=rfl
def aqK(s:St)(b:VC):rK P L (F5 (.ret,s)) b=F5 (.ret,s):=rfl
def aqL(id:Nat)(s:St)(b:VC):rK P L (F5 (.exit id,s)) b=F5 (.exit id,s):=rfl
def ada(live:List Nat)(a:VC)(s:St):K2 P L live a (F5 (.normal,s))=D P L (.loop live a) s:=rfl
def aqM(live:List Nat)(a:VC)(s:St):K2 P L live a (F5 (.ret,s))=F5 (.ret,s):=rfl
def aqN(live:List Nat)(a:VC)(id:Nat)(s:St):K2 P L live a (F5 (.exit id,s))=F5 (.exit id,s):=rfl
def aqO(id:Nat)(s:St):Bv id (F5 (.normal,s))=F5 (.normal,s):=rfl
def aqP(id:Nat)(s:St):Bv id (F5 (.ret,s))=F5 (.ret,s):=rfl
def adb(id:Nat)(s:St):Bv id (F5 (.exit id,s))=F5 (.normal,s):=by simp only[Bv,wQ,yu]
def aqQ{id j:Nat}(s:St)(h:j≠id):Bv id (F5 (.exit j,s))=F5 (.exit j,s):=by
 have:yo j id=ydp:=by
  cases hq:yo j id with
  | false=>rfl
  | true=>exact absurd (yf hq) h
 simp only[Bv,this,yO]
def aua(s:St):norm (F5 s)=F5 (.normal,s):=rfl
def aub:norm F6=F6:=rfl
def aqR(a b:VC)(s:St):Pv P L (.bool ydo) a b s=D P L a s:=rfl
def aqS(a b:VC)(s:St):Pv P L (.bool ydp) a b s=D P L b s:=rfl
noncomputable def Vq(P:aF)(L:Lib)(d:Option Nat)(r:List aS)(tm:Env)(base:Nat)(q:gL):Option St:=
 match q with | some (v,hp,ct)=>de P L (D P L) r ⟨put d v tm,hp,ct,base⟩ | none=>F6
noncomputable def EH(P:aF)(L:Lib)(v:AV)(b:Bool)(d:Option Nat)(o:Op)(r:List aS)(s:St):Option St:=
 match v with
 | .bool c=>bif c==b then de P L (D P L) (⟨d,F6,o⟩::r) s else de P L (D P L) r ⟨put d (.aw []) s.tm,s.hp,s.ct,s.base⟩
 | .aw []=>de P L (D P L) r ⟨put d (.aw []) s.tm,s.hp,s.ct,s.base⟩
 | _=>F6
def aqT(s:St):de P L (D P L) [] s=F5 s:=rfl
def aoB(d:Option Nat)(o:Op)(r:List aS)(tm:Env)(hp:Hp)(ct base:Nat):
  de P L (D P L) (⟨d,F6,o⟩::r) ⟨tm,hp,ct,base⟩=Vq P L d r tm base (aX P L (D P L) tm hp ct o):=by
 simp only[de,Vq]
 grind
def amG(d:Option Nat)(t:Nat)(b:Bool)(o:Op)(r:List aS)(tm:Env)(hp:Hp)(ct base:Nat):
  de P L (D P L) (⟨d,F5 (t,b),o⟩::r) ⟨tm,hp,ct,base⟩=EH P L (aj tm t) b d o r ⟨tm,hp,ct,base⟩:=by
 simp only[de,EH]
 cases aj tm t with
 | bool c=>
  simp only
  cases hc:(c==b) with
  | true=>simp only[yu]
  | false=>simp only[yO]
 | aw vs=>cases vs<;>rfl
 | _=>rfl
def aqU(d:Option Nat)(r:List aS)(tm:Env)(base:Nat)(v:AV)(hp:Hp)(ct:Nat):Vq P L d r tm base (F5 (v,hp,ct))=de P L (D P L) r ⟨put d v tm,hp,ct,base⟩:=rfl
def axt(i:Nat)(v:AV)(tm:Env):put (F5 i) v tm=(i,v)::tm:=rfl
def axu(v:AV)(tm:Env):put F6 v tm=tm:=rfl
def aoC(d:Option Nat)(o:Op)(r:List aS)(s:St):EH P L (.bool ydo) ydo d o r s=de P L (D P L) (⟨d,F6,o⟩::r) s:=rfl
def aoD(d:Option Nat)(o:Op)(r:List aS)(s:St):EH P L (.bool ydp) ydp d o r s=de P L (D P L) (⟨d,F6,o⟩::r) s:=rfl
def aoE(d:Option Nat)(o:Op)(r:List aS)(tm:Env)(hp:Hp)(ct base:Nat):EH P L (.bool ydo) ydp d o r ⟨tm,hp,ct,base⟩=de P L (D P L) r ⟨put d (.aw []) tm,hp,ct,base⟩:=rfl
def aoF(d:Option Nat)(o:Op)(r:List aS)(tm:Env)(hp:Hp)(ct base:Nat):EH P L (.bool ydp) ydo d o r ⟨tm,hp,ct,base⟩=de P L (D P L) r ⟨put d (.aw []) tm,hp,ct,base⟩:=rfl
def aqV(b:Bool)(d:Option Nat)(o:Op)(r:List aS)(tm:Env)(hp:Hp)(ct base:Nat):EH P L (.aw []) b d o r ⟨tm,hp,ct,base⟩=de P L (D P L) r ⟨put d (.aw []) tm,hp,ct,base⟩:=rfl
def gF{j i:Nat}(h:j≠i):yo j i=ydp:=by
 cases hq:yo j i with
 | false=>rfl
 | true=>exact absurd (yf hq) h
def auc(tm:Env)(i:Nat):ax tm (.t i)=aj tm i:=rfl
def aud(tm:Env)(v:AV):ax tm (.c v)=v:=rfl
def amH(tm:Env):dK tm []=[]:=rfl
def aly(tm:Env)(x:X)(r:List X):dK tm (x::r)=ax tm x::dK tm r:=rfl
def aoG(i:Nat)(v:AV)(r:Env):aj ((i,v)::r) i=v:=by simp only[aj,wQ,yu]
def amI{j i:Nat}(v:AV)(r:Env)(h:j≠i):aj ((j,v)::r) i=aj r i:=by simp only[aj,gF h,yO]
def pR(i:Nat)(o:Obj)(r:Hp):ak ((i,o)::r) i=F5 o:=by simp only[ak,wQ,yu]
def mq{j i:Nat}(o:Obj)(r:Hp)(h:j≠i):ak ((j,o)::r) i=ak r i:=by simp only[ak,gF h,yO]
def abT(i:Nat)(o u:Obj)(r:Hp):aU ((i,o)::r) i u=(i,u)::r:=by simp only[aU,wQ,yu]
def aaU{j i:Nat}(o u:Obj)(r:Hp)(h:j≠i):aU ((j,o)::r) i u=(j,o)::aU r i u:=by simp only[aU,gF h,yO]
def aoH(i:Nat):c7 [] i=[]:=rfl
def abU(i:Nat)(o:Obj)(r:Hp):c7 ((i,o)::r) i=c7 r i:=by simp only[c7,wQ,yu]
def aaV{j i:Nat}(o:Obj)(r:Hp)(h:j≠i):c7 ((j,o)::r) i=(j,o)::c7 r i:=by simp only[c7,gF h,yO]
def rd(hp:Hp)(ct:Nat)(q:Option AV):gL:=match q with | some v=>F5 (v,hp,ct) | none=>F6
def mk(hp:Hp)(ct:Nat)(q:Option (AV×Obj)):gL:=match q with | some (v,b)=>F5 (v,(ct,b)::hp,ct+1) | none=>F6
def azm(hp:Hp)(ct:Nat)(v:AV):rd hp ct (F5 v)=F5 (v,hp,ct):=rfl
def azn(hp:Hp)(ct:Nat)(v:AV)(b:Obj):mk hp ct (F5 (v,b))=F5 (v,(ct,b)::hp,ct+1):=rfl
def Vr(c a b:AV):Option AV:=match c with | .bool t=>F5 (bif t then a else b) | _=>F6
def MP(k:Nat->Option AV)(n:Option Nat):Option AV:=match n with | some i=>k i | none=>F6
def aft(r:Option (List AV)):Option AV:=match r with | some cs=>F5 (.agg cs) | none=>F6
def Hn(ne:Bool)(r:Option Bool):Option AV:=match r with | some b=>F5 (.bool (ne !=b)) | none=>F6
def azo:AV->Option AV
 | .ptr id o=>F5 (.ptr id o)
 | .bt cs=>F5 (.bt cs)
 | .fn f a b=>F5 (.fn f a b)
 | _=>F6
def LL(i:Nat):AV->Option AV | .aw vs=>vs[i]? | _=>F6
section
variable {f:cu}{tm:Env}{hp:Hp}{ct:Nat}
def aue(x:X):aX P L f tm hp ct (.zk x)=F5 (ax tm x,hp,ct):=rfl
def aqW(c a b:X):aX P L f tm hp ct (.pick c a b)=rd hp ct (Vr (ax tm c) (ax tm a) (ax tm b)):=by
 rfl
def aoI(z:List AV)(ps:List (Nat×Nat×X)):aX P L f tm hp ct (.Ah z ps)=rd hp ct (aft (fill tm z ps)):=by
 rfl
def axv(sz:Nat)(ag:Bool)(x:X):aX P L f tm hp ct (.ld sz ag x)=rd hp ct (gU hp sz ag (ax tm x)):=rfl
def aqX(x:X):aX P L f tm hp ct (.Lb x)=rd hp ct (azo (ax tm x)):=by
 rfl
def auf(op:BinOp)(x y:X):aX P L f tm hp ct (.bin op x y)=rd hp ct (binOp op (ax tm x) (ax tm y)):=rfl
def axw(ne:Bool)(k:Q7)(x y:X):aX P L f tm hp ct (.eq ne k x y)=rd hp ct (Hn ne (kO k (ax tm x) (ax tm y))):=by
 rfl
def axx(op:UnOp)(x:X):aX P L f tm hp ct (.un op x)=rd hp ct (unOp op (ax tm x)):=rfl
def axy(k:Conv)(x:X):aX P L f tm hp ct (.cv k x)=rd hp ct (jW k (ax tm x)):=rfl
def aug(g:Fr)(a b:List X):aX P L f tm hp ct (.HK g a b)=F5 (.fn g (dK tm a) (dK tm b),hp,ct):=rfl
def auh(k:Cut)(x:X)(lo hi:Option X):aX P L f tm hp ct (.rV k x lo hi)=rd hp ct (fI hp k (ax tm x) tm lo hi):=rfl
def aui(k:Nat)(x:X):aX P L f tm hp ct (.off k x)=rd hp ct (CQ k (ax tm x)):=rfl
def auj(o sz:Nat)(ag:Bool)(x:X):aX P L f tm hp ct (.Mh o sz ag x)=rd hp ct (Pg o sz ag (ax tm x)):=rfl
def auk(sz:Nat)(x i:X):aX P L f tm hp ct (.bj sz x i)=rd hp ct (MP (fun j=>ik sz j (ax tm x)) (dt (ax tm i))):=by
 rfl
def aul(n sz:Nat)(x i:X):aX P L f tm hp ct (.nh n sz x i)=rd hp ct (MP (fun j=>rG n sz j (ax tm x)) (dt (ax tm i))):=by
 rfl
def aum(x i:X):aX P L f tm hp ct (.HL x i)=rd hp ct (MP (fun j=>oP j (ax tm x)) (dt (ax tm i))):=by
 rfl
def aun(n sz:Nat)(ag:Bool)(x i:X):aX P L f tm hp ct (.HM n sz ag x i)=rd hp ct (MP (fun j=>Ph n sz ag j (ax tm x)) (dt (ax tm i))):=by
 rfl
def auo(i:Nat)(x:X):aX P L f tm hp ct (.ext i x)=rd hp ct (LL i (ax tm x)):=by
 rfl
def aup(k:Nat)(x:X):aX P L f tm hp ct (.len k x)=rd hp ct (iM hp k (ax tm x)):=rfl
def auq(sz:Nat)(x:X):aX P L f tm hp ct (.box sz x)=mk hp ct (cG tm hp ct (.box sz x)):=rfl
def aqY(n sz:Nat)(z:List AV)(ps:List (Nat×Nat×X)):aX P L f tm hp ct (.iv n sz z ps)=mk hp ct (cG tm hp ct (.iv n sz z ps)):=rfl
def aur(sz by':Nat)(z:List AV)(l c:X):aX P L f tm hp ct (.qF sz by' z l c)=mk hp ct (cG tm hp ct (.qF sz by' z l c)):=rfl
def aus:aX P L f tm hp ct .BT=F5 (.map ct,(ct,.mp ydo [] [])::hp,ct+1):=rfl
def aut(x:X):aX P L f tm hp ct (.rX x)=mk hp ct (cG tm hp ct (.rX x)):=rfl
def axz(sz:Nat)(x v:X):aX P L f tm hp ct (.st sz x v)=cx tm hp ct (.st sz x v):=rfl
def auu(sz by':Nat)(s x:X):aX P L f tm hp ct (.cQ sz by' s x)=cx tm hp ct (.cQ sz by' s x):=rfl
def Pw(hp:Hp)(ct:Nat)(r:Option AV):gL:=match r with | some v=>F5 (shut v,hp,ct) | none=>F6
def Qs(hp:Hp)(ct:Nat)(r:Option AV):gL:=match r with | some v=>F5 (own hp ct v) | none=>F6
def Vs(P:aF)(L:Lib)(f:cu)(ct n:Nat)(q:Option (List AV×Hp)):gL:=match q with | some (aq,hp)=>Pw hp ct (bW P L f n aq) | none=>F6
def Vt(P:aF)(L:Lib)(f:cu)(ct n:Nat)(q:Option (List AV×Hp)):gL:=match q with | some (aq,hp)=>Qs hp ct (bW P L f n aq) | none=>F6
def Vu(P:aF)(L:Lib)(f:cu)(hp:Hp)(ct:Nat)(fv:AV)(xs:List AV):gL:=eR P L f hp ct .pure fv xs
def Vv(P:aF)(L:Lib)(f:cu)(hp:Hp)(ct:Nat)(fv:AV)(xs:List AV):gL:=eR P L f hp ct .own fv xs
def aoJ(g:X)(xs:List X):aX P L f tm hp ct (.call .pure g xs)=Vu P L f hp ct (ax tm g) (dK tm xs):=rfl
def aoK(g:X)(xs:List X):aX P L f tm hp ct (.call .own g xs)=Vv P L f hp ct (ax tm g) (dK tm xs):=rfl
def aoL(g:X)(xs:List X):aX P L f tm hp ct (.call .heap g xs)=eR P L f hp ct .heap (ax tm g) (dK tm xs):=rfl
def aqZ(n:Nat)(first cap xs:List AV):Vu P L f hp ct (.fn (.f n) first cap) xs=Vs P L f ct n (cB deep hp (first++(xs++cap))):=by
 simp only[Vu,eR,Vs,Pw]
 cases cB deep hp (first++(xs++cap)) with
 | none=>rfl
 | some q=>cases bW P L f n q.1<;>rfl
def aq0(n:Nat)(first cap xs:List AV):Vv P L f hp ct (.fn (.f n) first cap) xs=Vt P L f ct n (cB deep hp (first++(xs++cap))):=by
 simp only[Vv,eR,Vt,Qs]
 cases cB deep hp (first++(xs++cap)) with
 | none=>rfl
 | some q=>cases bW P L f n q.1<;>rfl
def aq1(n:Nat)(aq:List AV):Vs P L f ct n (F5 (aq,hp))=Pw hp ct (bW P L f n aq):=rfl
def aq2(n:Nat)(aq:List AV):Vt P L f ct n (F5 (aq,hp))=Qs hp ct (bW P L f n aq):=rfl
def aq3(v:AV):Pw hp ct (F5 v)=F5 (shut v,hp,ct):=rfl
def auv(v:AV):Qs hp ct (F5 v)=F5 (own hp ct v):=rfl
def Qt(hp:Hp)(r:Option AV):Option AV:=match r with | some v=>result hp v | none=>F6
def gJ(rs:List RV)(q:Option (Ex×St)):Option AV:=
 match q with
 | some (.normal,s) | some (.ret,s)=>Qt s.hp (jo s rs)
 | _=>F6
def aG{n:Nat}{F:aD}(h:Has P L n F)(aq:List AV):bW P L f n aq=gJ F.dX (f F.body ⟨fG 0 aq,[],0,0⟩):=by
 simp only[bW,h.pure,h.code]
 cases hq:f F.body ⟨fG 0 aq,[],0,0⟩ with
 | none=>rfl
 | some q=>
  have⟨e,s⟩:=q
  cases e with
  | normal=>rfl
  | ret=>rfl
  | exit id=>rfl
def auw(rs:List RV)(s:St):gJ rs (F5 (.normal,s))=Qt s.hp (jo s rs):=rfl
def auy(rs:List RV)(s:St):gJ rs (F5 (.ret,s))=Qt s.hp (jo s rs):=rfl
def auz(v:AV):Qt hp (F5 v)=result hp v:=rfl
def Wo(r:RV)(s:St):jo s [r]=results1 s r:=by
 simp only[jo,mM];cases results1 s r<;>rfl
def agE(r:Option (List AV)):Option AV:=match r with | some vs=>F5 (.aw vs) | none=>F6
def azp(r q:RV)(l:List RV)(s:St):jo s (r::q::l)=agE (mM s (r::q::l)):=by
 simp only[jo,mM];cases results1 s r<;>cases results1 s q<;>cases mM s l<;>rfl
def afu(r:Option AV)(l:Option (List AV)):Option (List AV):=match r,l with | some v,F5 vs=>F5 (v::vs) | _,_=>F6
def aoM(s:St):mM s []=F5 []:=rfl
def amJ(r:RV)(l:List RV)(s:St):mM s (r::l)=afu (results1 s r) (mM s l):=rfl
def aq4(v:AV)(vs:List AV):afu (F5 v) (F5 vs)=F5 (v::vs):=rfl
def auA(vs:List AV):agE (F5 vs)=F5 (.aw vs):=rfl
def Vw(i:Nat)(s:St):results1 s (.t i)=F5 (aj s.tm i):=rfl
def axA(a:AV):fG 0 [a]=[(0,a)]:=rfl
def axB(a b:AV):fG 0 [a,b]=[(0,a),(1,b)]:=rfl
def axC(a b c:AV):fG 0 [a,b,c]=[(0,a),(1,b),(2,c)]:=rfl
def axD(a b c d:AV):fG 0 [a,b,c,d]=[(0,a),(1,b),(2,c),(3,d)]:=rfl
def axE(a b c d e:AV):fG 0 [a,b,c,d,e]=[(0,a),(1,b),(2,c),(3,d),(4,e)]:=rfl
def alz(k:xg)(n:Int):result hp (.int k n)=F5 (.int k n):=rfl
def ak0(b:Bool):result hp (.bool b)=F5 (.bool b):=rfl
def alA(s:List Nat):result hp (.str s)=F5 (.str s):=rfl
def ak1:result hp .af=F5 .af:=rfl
def alB(e:Bool)(n:Nat)(cs:List AV):result hp (.ap e n cs)=F5 (.ap e n cs):=rfl
def shut_int(k:xg)(n:Int):shut (.int k n)=.int k n:=rfl
def shut_bool(b:Bool):shut (.bool b)=.bool b:=rfl
def aoN(s:List Nat):shut (.str s)=.str s:=rfl
def amK:shut .af=.af:=rfl
def aoO(e:Bool)(n:Nat)(cs:List AV):shut (.ap e n cs)=.ap e n cs:=rfl
def aoP(e:Bool)(sz n:Nat)(cs:List AV):shut (.cM e sz n cs)=.ap e n cs:=rfl
def bi(cs:List AV):shut (.agg cs)=.agg cs:=rfl
def aq5(g:Fr)(a b:List AV):shut (.fn g a b)=.fn g a b:=rfl
def abV(vs:List AV):shut (.aw vs)=.aw (EM vs):=rfl
def aaW:EM []=[]:=rfl
def Z6(v:AV)(r:List AV):EM (v::r)=bJ v::EM r:=rfl
def amL(k:xg)(n:Int):bJ (.int k n)=.int k n:=rfl
def alC(b:Bool):bJ (.bool b)=.bool b:=rfl
def amM(s:List Nat):bJ (.str s)=.str s:=rfl
def alD:bJ .af=.af:=rfl
def amN(e:Bool)(n:Nat)(cs:List AV):bJ (.ap e n cs)=.ap e n cs:=rfl
def amO(e:Bool)(sz n:Nat)(cs:List AV):bJ (.cM e sz n cs)=.ap e n cs:=rfl
def JD(cs:List AV):bJ (.agg cs)=.agg cs:=rfl
def Wp(n:Nat)(r:List AV)(q:Option (AV×Hp)):Option (List AV×Hp):=match q with | some (v,hp)=>(match cB n hp r with | some (vs,jE)=>F5 (v::vs,jE) | none=>F6) | none=>F6
def agF(v:AV)(q:Option (List AV×Hp)):Option (List AV×Hp):=match q with | some (vs,hp)=>F5 (v::vs,hp) | none=>F6
def aoQ(n:Nat):cB (n+1) hp []=F5 ([],hp):=rfl
def aaX(n:Nat)(v:AV)(r:List AV):cB (n+1) hp (v::r)=Wp n r (freeze n hp v):=by
 simp only[cB,Wp];cases freeze n hp v<;>rfl
def ad1(n:Nat)(r:List AV)(v:AV):Wp n r (F5 (v,hp))=agF v (cB n hp r):=by
 rfl
def ad2(v:AV)(vs:List AV):agF v (F5 (vs,hp))=F5 (v::vs,hp):=rfl
def aq6(n:Nat)(k:xg)(a:Int):freeze (n+1) hp (.int k a)=F5 (.int k a,hp):=rfl
def aoR(n:Nat)(b:Bool):freeze (n+1) hp (.bool b)=F5 (.bool b,hp):=rfl
def aq7(n:Nat)(s:List Nat):freeze (n+1) hp (.str s)=F5 (.str s,hp):=rfl
def aoS(n:Nat):freeze (n+1) hp .af=F5 (.af,hp):=rfl
def aq8(n:Nat)(e:Bool)(k:Nat)(cs:List AV):freeze (n+1) hp (.ap e k cs)=F5 (.ap e k cs,hp):=rfl
def aoT(n:Nat)(cs:List AV):freeze (n+1) hp (.bt cs)=F5 (.bt cs,hp):=rfl
end
section
variable {hp:Hp}
def auB(a b:AV):Vr (.bool ydo) a b=F5 a:=rfl
def auC(a b:AV):Vr (.bool ydp) a b=F5 b:=rfl
def axF(k:Nat->Option AV)(n:Nat):MP k (F5 n)=k n:=rfl
def alE(k:xg)(n:Nat):dt (.int k (n:Int))=F5 n:=rfl
def auD(k:xg):dt (.int k 0)=F5 0:=rfl
def auE(k:xg):dt (.int k 1)=F5 1:=rfl
def auF(k:xg):dt (.int k 2)=F5 2:=rfl
def auG(k:xg):dt (.int k 3)=F5 3:=rfl
def auH(k:xg):dt (.int k 4)=F5 4:=rfl
def auI(k:xg):dt (.int k 5)=F5 5:=rfl
def auJ(k:xg):dt (.int k 6)=F5 6:=rfl
def auK(k:xg):dt (.int k 7)=F5 7:=rfl
def auL(k:xg):dt (.int k 8)=F5 8:=rfl
def auM(k:xg):dt (.int k 9)=F5 9:=rfl
def aq9(cs:List AV):aft (F5 cs)=F5 (.agg cs):=rfl
def ade(k:xg)(a b:Int):binOp .add (.int k a) (.int k b)=F5 (.int k (k.wrap (a+b))):=by simp[binOp,mT]
def OC(k:xg)(a b:Int):binOp .sub (.int k a) (.int k b)=F5 (.int k (k.wrap (a-b))):=by simp[binOp,mT]
def adf(k:xg)(a b:Int):binOp .mul (.int k a) (.int k b)=F5 (.int k (k.wrap (a*b))):=by simp[binOp,mT]
def fH(k:xg)(a b:Int)(h:b≠0):binOp .quo (.int k a) (.int k b)=F5 (.int k (k.wrap (a.tdiv b))):=by simp[binOp,mT,h]
def eL(k:xg)(a b:Int)(h:b≠0):binOp .rem (.int k a) (.int k b)=F5 (.int k (a.tmod b)):=by simp[binOp,mT,h]
def ara(k:xg)(a b:Int):binOp .eql (.int k a) (.int k b)=F5 (.bool (decide (a=b))):=by
 simp[binOp,mT,intCmp,BEq.beq]
def arb(k:xg)(a b:Int):binOp .neq (.int k a) (.int k b)=F5 (.bool (!decide (a=b))):=by
 simp[binOp,mT,intCmp,bne,BEq.beq]
def arc(k:xg)(a b:Int):binOp .lss (.int k a) (.int k b)=F5 (.bool (decide (a<b))):=by simp[binOp,mT,intCmp]
def ard(k:xg)(a b:Int):binOp .leq (.int k a) (.int k b)=F5 (.bool (decide (a<=b))):=by simp[binOp,mT,intCmp]
def are(k:xg)(a b:Int):binOp .gtr (.int k a) (.int k b)=F5 (.bool (decide (b<a))):=by simp[binOp,mT,intCmp]
def arf(k:xg)(a b:Int):binOp .geq (.int k a) (.int k b)=F5 (.bool (decide (b<=a))):=by simp[binOp,mT,intCmp]
def auN(k:xg)(a:Int):unOp .neg (.int k a)=F5 (.int k (k.wrap (0-a))):=rfl
def auO(b:Bool):unOp .not (.bool b)=F5 (.bool !b):=rfl
def aoU:iM hp 1 .af=F5 (.int .i64 0):=rfl
def arh(e:Bool)(n:Nat)(cs:List AV):iM hp 1 (.ap e n cs)=F5 (.int .i64 n):=rfl
def ari(id o n:Nat):iM hp 1 (.ay id o n)=F5 (.int .i64 n):=rfl
def arj(s:List Nat):iM hp 0 (.str s)=F5 (.int .i64 s.length):=rfl
def OD{sz i n:Nat}(e:Bool)(cs:List AV)(h:i<n):ik sz i (.ap e n cs)=F5 (.bt (cs.drop (i*sz))):=by
 have hb:yM i n=ydo:=yy h;simp only[ik]
 grind
def dd{sz i n:Nat}(id o:Nat)(h:i<n):ik sz i (.ay id o n)=F5 (.ptr id (o+i*sz)):=by
 have hb:yM i n=ydo:=yy h;simp only[ik]
 grind
def aoV(v:AV)(cs:List AV):gU hp 1 ydp (.bt (v::cs))=F5 v:=rfl
def RH(sz:Nat)(ag:Bool)(o:Nat)(q:Option Obj):Option AV:=match q with | some (.cells _ _ _ _ cs)=>fU sz ag (cs.drop o) | _=>F6
def auP(sz:Nat)(ag:Bool)(id o:Nat):gU hp sz ag (.ptr id o)=RH sz ag o (ak hp id):=by
 rfl
def axG(sz:Nat)(ag:Bool)(o:Nat)(rw pu ex:Bool)(z:Nat)(cs:List AV):RH sz ag o (F5 (.cells rw pu ex z cs))=fU sz ag (cs.drop o):=rfl
def axH(sz:Nat)(v:AV)(cs:List AV):fU sz ydp (v::cs)=F5 v:=rfl
def azq(a:AV)(l:List AV):LL 0 (.aw (a::l))=F5 a:=rfl
def ext1(a b:AV)(l:List AV):LL 1 (.aw (a::b::l))=F5 b:=rfl
def azr(a b c:AV)(l:List AV):LL 2 (.aw (a::b::c::l))=F5 c:=rfl
def azs(a b c d:AV)(l:List AV):LL 3 (.aw (a::b::c::d::l))=F5 d:=rfl
end
def qg:Env->Bool
 | []=>ydo
 | (_,v)::r=>aV v&&qg r
mutual
def jL:∀{v:AV},aV v=ydo->refs v=[]
 | .int _ _,_ | .bool _,_ | .ao _ _,_ | .df _ _ _,_ | .str _,_ | .kL,_ | .bt _,_ | .af,_ | .ap _ _ _,_ | .ir,_ | .jw,_ | .jx _ _,_ | .undef,_=>rfl
 | .ptr _ _,h | .ay _ _ _,h | .map _,h | .it _,h | .cM _ _ _ _,h=>by simp[aV] at h
 | .fn (.y _) _ _,h=>by simp[aV] at h
 | .fn (.f _) first cap,h=>by
  simp only[aV,ye] at h;simp only[refs,zS h.1,zS h.2,wL]
 | .agg cs,h=>by simp only[aV] at h;simp only[refs,zS h]
 | .aw cs,h=>by simp only[aV] at h;simp only[refs,zS h]
def zS:∀{vs:List AV},aE vs=ydo->gG vs=[]
 | [],_=>rfl
 | v::r,h=>by
  simp only[aE,ye] at h;simp only[gG,jL h.1,zS h.2,wL]
end
mutual
def JM(f:Nat->Option Nat):∀{v:AV},aV v=ydo->br f v=v
 | .int _ _,_ | .bool _,_ | .ao _ _,_ | .df _ _ _,_ | .str _,_ | .kL,_ | .bt _,_ | .af,_ | .ap _ _ _,_ | .ir,_ | .jw,_ | .jx _ _,_ | .undef,_=>rfl
 | .ptr _ _,h | .ay _ _ _,h | .map _,h | .it _,h | .cM _ _ _ _,h=>by simp[aV] at h
 | .fn (.y _) _ _,h=>by simp[aV] at h
 | .fn (.f _) first cap,h=>by
  simp only[aV,ye] at h;simp only[br,A8 f h.1,A8 f h.2]
 | .agg cs,h=>by simp only[aV] at h;simp only[br,A8 f h]
 | .aw cs,h=>by simp only[aV] at h;simp only[br,A8 f h]
def A8(f:Nat->Option Nat):∀{vs:List AV},aE vs=ydo->dP f vs=vs
 | [],_=>rfl
 | v::r,h=>by
  simp only[aE,ye] at h;simp only[dP,JM f h.1,A8 f h.2]
end
def SU:∀{tm:Env},qg tm=ydo->fj tm=[]
 | [],_=>rfl
 | (i,v)::r,h=>by
  simp only[qg,ye] at h;simp only[fj,jL h.1,SU h.2,wL]
def aaY(f:Nat->Option Nat):∀{tm:Env},qg tm=ydo->gn f tm=tm
 | [],_=>rfl
 | (i,v)::r,h=>by
  simp only[qg,ye] at h;simp only[gn,JM f h.1,aaY f h.2]
def Sv{live:List Nat}{tm:Env}{ct:Nat}(h:qg (cd tm live)=ydo):bE live ⟨tm,[],ct,0⟩=⟨cd tm live,[],0,0⟩:=by
 simp only[bE,SU h,dO,wL];simp only[reach,eY,gj,aaY _ h,yI,yZ]
def ak2{tm:Env}{ct:Nat}:bE [] ⟨tm,[],ct,0⟩=⟨[],[],0,0⟩:=rfl
def Of{P:aF}{L:Lib}{live:List Nat}{a:VC}(I:Nat->St->Prop)(Q:Ex->St->Prop)(step:∀k s,I k s->(∃s' k',D P L a (bE live s)=F5 (.normal,s')/\k'<k/\I k' s')\/(∃ex s',D P L a (bE live s)=F5 (ex,s')/\ex≠.normal/\Q ex s')):
  ∀k s,I k s->∃ex s',D P L (.loop live a) s=F5 (ex,s')/\Q ex s':=by
 intro k
 induction k using vT with
 | _ k ih=>
  intro s hI;rw[OZ];rcases step k s hI with ⟨s',k',h1,h2,h3⟩ | ⟨ex,s',h1,h2,h3⟩
  .rw [h1,ada];exact ih k' h2 s' h3
  .rw [h1]
   cases ex with
   | normal=>exact absurd rfl h2
   | ret=>exact⟨.ret,s',rfl,h3⟩
   | exit id=>exact⟨.exit id,s',rfl,h3⟩
def TU{P:aF}{L:Lib}{live:List Nat}{a:VC}(I:Nat->St->Prop)(Q:Ex->St->Prop)(step:∀k s,I k s->(∃s' k',D P L a s=F5 (.normal,s')/\k'<k/\I k' (bE live s'))\/(∃ex s',D P L a s=F5 (ex,s')/\ex≠.normal/\Q ex s')):
  ∀k s,I k (bE live s)->∃ex s',D P L (.loop live a) s=F5 (ex,s')/\Q ex s':=
 Of (fun k s=>I k (bE live s)) Q (fun k s h=>step k _ h)
def ew(P:aF)(L:Lib)(live:List Nat)(a:VC)(I:Nat->St->Prop)(Q:Ex->St->Prop):Prop:=∀k s,I k (bE live s)->∃ex s',D P L (.loop live a) s=F5 (ex,s')/\Q ex s'
def eE{P:aF}{L:Lib}{live:List Nat}{a:VC}{I:Nat->St->Prop}{Q:Ex->St->Prop}(step:∀k s,I k s->(∃s' k',D P L a s=F5 (.normal,s')/\k'<k/\I k' (bE live s'))\/(∃ex s',D P L a s=F5 (ex,s')/\ex≠.normal/\Q ex s')):ew P L live a I Q:=TU I Q step
def auQ{P:aF}{L:Lib}{live:List Nat}{a:VC}{I:Nat->St->Prop}{Q:Ex->St->Prop}(step:∀k s,I k s->(∃s' k',D P L a s=F5 (.normal,s')/\k'<k/\I k' (bE live s'))\/(∃ex s',D P L a s=F5 (ex,s')/\ex≠.normal/\Q ex s')):
  ∀k s s0,bE live s=s0->I k s0->∃ex s',D P L (.loop live a) s=F5 (ex,s')/\Q ex s':=fun k s s0 h hi=>TU I Q step k s (h▸hi)
def av{v:AV}(h:aV v=ydo):refs v=[]/\∀f,br f v=v:=⟨jL h,fun f=>JM f h⟩
def jO(P:aF)(L:Lib)(live:List Nat)(a:VC)(I:Nat->St->Prop)(Q:Ex->St->Prop)(step:∀k s,I k s->(∃s' k',D P L a s=F5 (.normal,s')/\k'<k/\I k' (bE live s'))\/(∃ex s',D P L a s=F5 (ex,s')/\ex≠.normal/\Q ex s')):
  ∀k s,I k (bE live s)->∃ex s',D P L (.loop live a) s=F5 (ex,s')/\Q ex s':=TU I Q step
def bQ{P:aF}{L:Lib}{c:VC}{s:St}{q:Option (Ex×St)}{I:St->Prop}{Q:Ex->St->Prop}(hq:D P L c s=q)(key:∀s,I s->∃ex s',D P L c s=F5 (ex,s')/\Q ex s')(hI:I s):
  ∃ex s',q=F5 (ex,s')/\Q ex s':=by
 rw[<-hq];exact key s hI
def aoW(tm:Env):cd tm []=[]:=rfl
def amP(tm:Env)(i:Nat)(r:List Nat):cd tm (i::r)=(i,aj tm i)::cd tm r:=rfl
def amQ:qg []=ydo:=rfl
def alF(i:Nat)(v:AV)(r:Env):qg ((i,v)::r)=(aV v&&qg r):=rfl
def ad3(k:xg)(n:Int):aV (.int k n)=ydo:=(rfl)
def ark(b:Bool):aV (.bool b)=ydo:=(rfl)
def auR(s:List Nat):aV (.str s)=ydo:=(rfl)
def arl:aV .af=ydo:=(rfl)
def auS(e:Bool)(n:Nat)(cs:List AV):aV (.ap e n cs)=ydo:=(rfl)
def arm(cs:List AV):aV (.bt cs)=ydo:=(rfl)
def aoX:aV .undef=ydo:=(rfl)
attribute [go_sem] deep ak2 aoW amP amQ alF ad3 ark auR arl auS arm aoX uf wM
attribute [go_sem] at5 at6 axq agD azl axr nS at7 axs jb aqK aqL ada aqM aqN aqO aqP adb aqQ aua aub aqR aqS
 aqT aoB amG aqU axt axu aoC aoD aoE aoF aqV auc aud amH aly aoG amI pR mq abT aaU aoH abU aaV
 azm azn aue aqW aoI axv aqX auf axw axx axy aug auh aui auj auk aul aum aun auo aup auq aqY aur aus aut axz auu aoJ aoK aoL
 aqZ aq0 aq1 aq2 aq3 auv auw auy auz Wo azp aoM amJ aq4 auA Vw axA axB axC axD axE
 alz ak0 alA ak1 alB shut_int shut_bool aoN amK aoO aoP bi aq5 abV aaW Z6 amL alC amM alD amN amO JD
 aoQ aaX ad1 ad2 aq6 aoR aq7 aoS aq8 aoT
 auB auC axF alE auD auE auF auG auH auI auJ auK auL auM aq9 ade OC adf ara arb arc ard are arf auN auO aoU arh ari arj aoV auP axG axH azq ext1 azr azs
 yL wL yB yN yP Bool.not_true Bool.not_false ycs ydk
end
abbrev aa(n:Int):AV:=.int .i64 n
def cF(v:AV)(cs:List AV):Prop:=(v=.af/\cs=[])\/∃e,v=.ap e cs.length cs
section
variable {v:AV}{cs:List AV}{hp:Hp}
def cF.len(h:cF v cs){hp:Hp}:iM hp 1 v=F5 (.int .i64 (cs.length:Nat)):=by
 rcases h with ⟨rfl,rfl⟩ | ⟨e,rfl⟩<;>rfl
def cF.pu(h:cF v cs):aV v=ydo:=by
 rcases h with ⟨rfl,rfl⟩ | ⟨e,rfl⟩<;>rfl
def cF.ai(h:cF v cs)(n:Nat){hp:Hp}:freeze (n+1) hp v=F5 (v,hp):=by
 rcases h with ⟨rfl,rfl⟩ | ⟨e,rfl⟩<;>rfl
def cF.shut(h:cF v cs):shut v=v:=by
 rcases h with ⟨rfl,rfl⟩ | ⟨e,rfl⟩<;>rfl
def cF.bJ(h:cF v cs):bJ v=v:=by
 rcases h with ⟨rfl,rfl⟩ | ⟨e,rfl⟩<;>rfl
def cF.dX(h:cF v cs){hp:Hp}:result hp v=F5 v:=by
 rcases h with ⟨rfl,rfl⟩ | ⟨e,rfl⟩<;>rfl
def cF.bj(h:cF v cs){i:Nat}(hi:i<cs.length):ik 1 i v=F5 (.bt (cs[i]::cs.drop (i+1))):=by
 rcases h with ⟨rfl,rfl⟩ | ⟨e,rfl⟩
 .grind
 .rw [OD e _ hi,yj,yW hi]
def cF.one(h:cF v cs):db v=ydo:=by
 rcases h with ⟨rfl,rfl⟩ | ⟨e,rfl⟩<;>rfl
def cF.cells(h:cF v cs):cellsOf v=[v]:=by
 rcases h with ⟨rfl,rfl⟩ | ⟨e,rfl⟩<;>rfl
def Gp(e:Bool)(cs:List AV):cF (.ap e cs.length cs) cs:=.inr ⟨e,rfl⟩
def Bg:cF .af []:=.inl ⟨rfl,rfl⟩
end
def bk(v:AV)(l:List Int):Prop:=cF v (l.map aa)
section
variable {v:AV}{l:List Int}
def bk.len(h:bk v l){hp:Hp}:iM hp 1 v=F5 (.int .i64 (l.length:Nat)):=by
 have:=cF.len (hp:=hp) h
 grind
def bk.pu(h:bk v l):aV v=ydo:=cF.pu h
def bk.ai(h:bk v l)(n:Nat){hp:Hp}:freeze (n+1) hp v=F5 (v,hp):=cF.ai h n
def bk.shut(h:bk v l):VE.shut v=v:=cF.shut h
def bk.bJ(h:bk v l):VE.bJ v=v:=cF.bJ h
def bk.dX(h:bk v l){hp:Hp}:result hp v=F5 v:=cF.dX h
def bk.one(h:bk v l):db v=ydo:=cF.one h
def bk.cells(h:bk v l):cellsOf v=[v]:=cF.cells h
def bk.bj(h:bk v l){i:Nat}(hi:i<l.length):ik 1 i v=F5 (.bt (.int .i64 l[i]::(l.map aa).drop (i+1))):=by
 have:=cF.bj h (i:=i) (by simpa using hi)
 grind
def lF(e:Bool)(l:List Int):bk (.ap e l.length (l.map aa)) l:=by
 have:=Gp e (l.map aa)
 rwa[xi] at this
end
def jB{α β:Type}(p:α->β->Prop):List α->List β->Prop
 | [],[]=>True
 | a::r,b::s=>p a b/\jB p r s
 | _,_=>False
section
variable {α β:Type}{p:α->β->Prop}
def jB.len:∀{l:List α} {m:List β},jB p l m->l.length=m.length
 | [],[],_=>rfl
 | _::_,_::_,h=>by rw[yv,yv,h.2.len]
def jB.get:∀{l:List α} {m:List β} (_:jB p l m) {i:Nat} (h1:i<l.length) (h2:i<m.length),p l[i] m[i]
 | a::r,b::s,h,0,_,_=>h.1
 | a::r,b::s,h,i+1,h1,h2=>by
  exact h.2.get (by simpa using h1) (by simpa using h2)
end
def IsS(v:AV)(s:List (List Int)):Prop:=∃rows,cF v rows/\jB bk rows s
def wrap64{n:Int}(h1: -9223372036854775808<=n)(h2:n<9223372036854775808):IntKind.wrap .i64 n=n:=by
 simp only[IntKind.wrap,IntKind.bits,IntKind.signed,wM]
 grind
def wrapN{n:Nat}(h:n<9223372036854775808):IntKind.wrap .i64 (n:Int)=n:=wrap64 (by lia) (by lia)
abbrev ah(P:aF)(L:Lib)(f:Nat)(aq:List AV)(r:AV):Prop:=bW P L (D P L) f aq=F5 r
section
variable {v:AV}{ex pu:Bool}{cs new:List AV}{by' n o sz:Nat}
section
variable {P:aF}{L:Lib}{f:cu}{tm:Env}{hp:Hp}{ct:Nat}
def amR(k:xg)(n:Int):cellsOf (.int k n)=[.int k n]:=(rfl)
def alG(b:Bool):cellsOf (.bool b)=[.bool b]:=(rfl)
def amS(s:List Nat):cellsOf (.str s)=[.str s]:=(rfl)
def alH:cellsOf .af=[.af]:=(rfl)
def amT(e:Bool)(n:Nat)(cs:List AV):cellsOf (.ap e n cs)=[.ap e n cs]:=(rfl)
def amU(id o n:Nat):cellsOf (.ay id o n)=[.ay id o n]:=(rfl)
def amV(id o:Nat):cellsOf (.ptr id o)=[.ptr id o]:=(rfl)
def aoY(g:Fr)(a b:List AV):cellsOf (.fn g a b)=[.fn g a b]:=(rfl)
def amW(cs:List AV):cellsOf (.agg cs)=cs:=(rfl)
def adg(k:xg)(n:Int):db (.int k n)=ydo:=(rfl)
def aoZ(b:Bool):db (.bool b)=ydo:=(rfl)
def arn(s:List Nat):db (.str s)=ydo:=(rfl)
def ao0:db .af=ydo:=(rfl)
def aro(e:Bool)(n:Nat)(cs:List AV):db (.ap e n cs)=ydo:=(rfl)
def arp(id o n:Nat):db (.ay id o n)=ydo:=(rfl)
def arq(id o:Nat):db (.ptr id o)=ydo:=(rfl)
def auT(g:Fr)(a b:List AV):db (.fn g a b)=ydo:=(rfl)
def ao1:bP []=ydo:=(rfl)
def aaZ(v:AV)(r:List AV):bP (v::r)=(db v&&bP r):=(rfl)
def amX:aE []=ydo:=(rfl)
def alI(v:AV)(r:List AV):aE (v::r)=(aV v&&aE r):=(rfl)
def auU(id o:Nat):aV (.ptr id o)=ydp:=(rfl)
def auV(id o n:Nat):aV (.ay id o n)=ydp:=(rfl)
def axI(g:Nat)(a b:List AV):aV (.fn (.f g) a b)=(aE a&&aE b):=(rfl)
def azt(l:Nat)(a b:List AV):aV (.fn (.y l) a b)=ydp:=(rfl)
def auW(cs:List AV):aV (.agg cs)=aE cs:=(rfl)
def auX(cs:List AV):aV (.aw cs)=aE cs:=(rfl)
def oX(ct sz:Nat)(cs:List AV):Option (AV×Obj):=bif yo cs.length sz&&bP cs then F5 (.ptr ct 0,.cells ydo (aE cs) ydo sz cs) else F6
def auY(sz:Nat)(x:X):cG tm hp ct (.box sz x)=oX ct sz (cellsOf (ax tm x)):=rfl
def axJ(h:db v=ydo):oX ct 1 [v]=F5 (.ptr ct 0,.cells ydo (aV v&&ydo) ydo 1 [v]):=by
 simp[oX,bP,aE,h]
def aO(hn:cs.length=n)(h:bP cs=ydo):oX ct n cs=F5 (.ptr ct 0,.cells ydo (aE cs) ydo n cs):=by
 subst hn;simp[oX,h]
def gO(hp:Hp)(ct id o sz:Nat)(new:List AV)(q:Option Obj):gL:=
 match q with
 | some (.cells ydo pu ex z cs)=>bif yo new.length sz&&yC (o+sz) cs.length&&bP new then F5 (.aw [],aU hp id (.cells ydo (pu&&aE new) ex z (over o new cs)),ct) else F6
 | _=>F6
def stV(hp:Hp)(ct sz:Nat)(p:AV)(new:List AV):gL:=match p with | .ptr id o=>gO hp ct id o sz new (ak hp id) | _=>F6
def abW(sz:Nat)(x v:X):cx tm hp ct (.st sz x v)=stV hp ct sz (ax tm x) (cellsOf (ax tm v)):=rfl
def afv(sz id o:Nat)(new:List AV):stV hp ct sz (.ptr id o) new=gO hp ct id o sz new (ak hp id):=rfl
def rP{u:AV}{id z:Nat}(h:db v=ydo):gO hp ct id 0 1 [v] (F5 (.cells ydo pu ex z [u]))=F5 (.aw [],aU hp id (.cells ydo (pu&&(aV v&&ydo)) ex z [v]),ct):=by
 simp[gO,bP,aE,h,over];rfl
def Am{id z:Nat}(h1:new.length=sz)(h2:o+sz<=cs.length)(h:bP new=ydo):
  gO hp ct id o sz new (F5 (.cells ydo pu ex z cs))=F5 (.aw [],aU hp id (.cells ydo (pu&&aE new) ex z (over o new cs)),ct):=by
 subst h1;simp[gO,h,yy h2]
def Px(ct n sz:Nat)(q:Option (List AV)):Option (AV×Obj):=match q with | some cs=>bif yo cs.length (n*sz) then F5 (.ay ct 0 n,.cells ydo (aE cs) ydo sz cs) else F6 | none=>F6
def ars(n sz:Nat)(z:List AV)(ps:List (Nat×Nat×X)):cG tm hp ct (.iv n sz z ps)=Px ct n sz (fill tm z ps):=by
 simp only[cG,Px];cases fill tm z ps<;>rfl
def eX(h:cs.length=n*sz):Px ct n sz (F5 cs)=F5 (.ay ct 0 n,.cells ydo (aE cs) ydo sz cs):=by
 simp[Px,h]
def fJ(tm:Env)(cs:List AV)(o sz:Nat)(new:List AV)(r:List (Nat×Nat×X)):Option (List AV):=
 bif yo new.length sz&&yC (o+sz) cs.length&&bP new then fill tm (over o new cs) r else F6
def ao2(cs:List AV):fill tm cs []=F5 cs:=rfl
def JE(cs:List AV)(o sz:Nat)(x:X)(r:List (Nat×Nat×X)):fill tm cs ((o,sz,x)::r)=fJ tm cs o sz (cellsOf (ax tm x)) r:=rfl
def zZ{r:List (Nat×Nat×X)}(h1:o+1<=cs.length)(h2:db v=ydo):fJ tm cs o 1 [v] r=fill tm (over o [v] cs) r:=by
 simp[fJ,bP,h2,yy h1]
def nI{r:List (Nat×Nat×X)}(h0:new.length=sz)(h1:o+sz<=cs.length)(h2:bP new=ydo):fJ tm cs o sz new r=fill tm (over o new cs) r:=by
 subst h0;simp[fJ,h2,yy h1]
def axK(v u:AV)(r:List AV):over 0 [v] (u::r)=v::r:=rfl
def axL(v a u:AV)(r:List AV):over 1 [v] (a::u::r)=a::v::r:=rfl
def axM(v a b u:AV)(r:List AV):over 2 [v] (a::b::u::r)=a::b::v::r:=rfl
def axN(v a b c u:AV)(r:List AV):over 3 [v] (a::b::c::u::r)=a::b::c::v::r:=rfl
def axO(v a b c d u:AV)(r:List AV):over 4 [v] (a::b::c::d::u::r)=a::b::c::d::v::r:=rfl
def axP(v a b c d e u:AV)(r:List AV):over 5 [v] (a::b::c::d::e::u::r)=a::b::c::d::e::v::r:=rfl
def BI(ct sz by':Nat)(zero:List AV)(l c:Option Nat):Option (AV×Obj):=
 match l,c with
 | some l,F5 c=>bif yC l c&&(yC c room&&(yC (c*by') room&&(yo zero.length sz&&bP zero))) then F5 (.ay ct 0 l,.cells ydo (aE zero) (yo l c) sz (yE l zero).flatten) else F6
 | _,_=>F6
def auZ(sz by':Nat)(z:List AV)(l c:X):cG tm hp ct (.qF sz by' z l c)=BI ct sz by' z (dt (ax tm l)) (dt (ax tm c)):=by
 simp only[cG,BI]
 grind
def KH{l:Nat}{z:List AV}(h1:l<=1099511627776)(h2:l*by'<=1099511627776)(h3:z.length=sz)(h4:bP z=ydo):
  BI ct sz by' z (F5 l) (F5 l)=F5 (.ay ct 0 l,.cells ydo (aE z) ydo sz (yE l z).flatten):=by
 subst h3;simp[BI,h4,yy (show l<=room from h1),yy (show l*by'<=room from h2),yy (yx l)]
def Fb(hp:Hp)(ct sz by':Nat)(s:AV)(src:Option (Nat×List AV)):gL:=
 match src with
 | none=>F6
 | some (m,new)=>
  match s with
  | .af=>
   bif yo m 0 then F5 (.af,hp,ct)
   else bif yC m room&&(yC (m*by') room&&yM 0 sz) then F5 (.ay ct 0 m,(ct,.cells ydo (aE new) ydp sz new)::hp,ct+1) else F6
  | .ap ydo n cs=>
   bif yo m 0 then F5 (.ap ydo n cs,hp,ct)
   else bif yC (n+m) room&&(yC ((n+m)*by') room&&(yo cs.length (n*sz)&&yM 0 sz)) then F5 (.ay ct 0 (n+m),(ct,.cells ydo (aE cs&&aE new) ydp sz (cs++new))::hp,ct+1) else F6
  | .ay id o n=>
   match ak hp id with
   | some (.cells ydo pu _ z cs)=>
    bif yo z sz&&(yC (n+m) room&&(yC ((n+m)*by') room&&(yC (o+n*sz) cs.length&&(yM 0 sz&&bP new)))) then
     F5 (.ay ct 0 (n+m),(ct,.cells ydo (pu&&aE new) ydp sz (slice o (n*sz) cs++new))::c7 hp id,ct+1)
    else F6
   | _=>F6
  | _=>F6
def amY(sz by':Nat)(s x:X):cx tm hp ct (.cQ sz by' s x)=Fb hp ct sz by' (ax tm s) (jr hp sz (ax tm x)):=by
 simp only[cx,Fb]
 cases jr hp sz (ax tm x) with
 | none=>rfl
 | some q=>have⟨m,new⟩:=q;cases ax tm s<;>rfl
def SV(sz id o n:Nat):jr hp sz (.ay id o n)=mr hp sz (.ay id o n):=rfl
def alJ(sz:Nat)(e:Bool)(n:Nat)(cs:List AV):jr hp sz (.ap e n cs)=mr hp sz (.ap e n cs):=rfl
def ak3(sz:Nat):jr hp sz .af=F5 (0,[]):=rfl
def RI(o n sz:Nat)(q:Option Obj):Option (Nat×List AV):=match q with | some (.cells _ _ _ _ cs)=>bif yC (o+n*sz) cs.length then F5 (n,slice o (n*sz) cs) else F6 | _=>F6
def SF(sz id o n:Nat):mr hp sz (.ay id o n)=RI o n sz (ak hp id):=rfl
def axQ(rw pu ex:Bool)(z:Nat)(v:AV):RI 0 1 1 (F5 (.cells rw pu ex z [v]))=F5 (1,[v]):=rfl
def gE{m:Nat}(hm:0<m)(h1:m<=1099511627776)(h2:m*by'<=1099511627776)(hs:0<sz):
  Fb hp ct sz by' .af (F5 (m,new))=F5 (.ay ct 0 m,(ct,.cells ydo (aE new) ydp sz new)::hp,ct+1):=by
 have e1:yo m 0=ydp:=gF (by lia);have e2:yM 0 sz=ydo:=yy hs;simp[Fb,e1,e2,yy (show m<=room from h1),yy (show m*by'<=room from h2)]
def dS{id m:Nat}(hg:ak hp id=F5 (.cells ydo pu ex sz cs))(hl:cs.length=n*sz)(h1:n+m<=1099511627776)(h2:(n+m)*by'<=1099511627776)(hs:0<sz)(ho:bP new=ydo):
  Fb hp ct sz by' (.ay id 0 n) (F5 (m,new))=F5 (.ay ct 0 (n+m),(ct,.cells ydo (pu&&aE new) ydp sz (cs++new))::c7 hp id,ct+1):=by
 have e2:yM 0 sz=ydo:=yy hs;simp only[Fb,hg];simp[e2,ho,yy (show n+m<=room from h1),yy (show (n+m)*by'<=room from h2),<-hl,slice,yy (yx cs.length)]
def agG(n:Nat)(g:Nat)(cap:List AV)(q:Option (List AV×Hp)):Option (AV×Hp):=match q with | some (first,hp)=>(match cB n hp cap with | some (PO,jE)=>F5 (.fn (.f g) first PO,jE) | none=>F6) | none=>F6
def agH(g:Nat)(first:List AV)(q:Option (List AV×Hp)):Option (AV×Hp):=match q with | some (cap,hp)=>F5 (.fn (.f g) first cap,hp) | none=>F6
def KI(n g:Nat)(first cap:List AV):freeze (n+1) hp (.fn (.f g) first cap)=agG n g cap (cB n hp first):=rfl
def KJ(n g:Nat)(first cap:List AV):agG n g cap (F5 (first,hp))=agH g first (cB n hp cap):=rfl
def KK(g:Nat)(first cap:List AV):agH g first (F5 (cap,hp))=F5 (.fn (.f g) first cap,hp):=rfl
def agI(o:Nat)(q:Option (Bool×Nat×List AV×Hp)):Option (AV×Hp):=match q with | some (_,_,cs,hp)=>F5 (.bt (cs.drop o),hp) | none=>F6
def art(n id o:Nat):freeze (n+1) hp (.ptr id o)=agI o (sO n hp id):=rfl
def au0(o:Nat)(ex:Bool)(sz:Nat)(cs:List AV):agI o (F5 (ex,sz,cs,hp))=F5 (.bt (cs.drop o),hp):=rfl
def nc(o k:Nat)(q:Option (Bool×Nat×List AV×Hp)):Option (AV×Hp):=
 match q with
 | some (ex,sz,cs,hp)=>bif yC (o+k*sz) cs.length then F5 (.ap (ex&&yM 0 sz&&yo (o+k*sz) cs.length) k (slice o (k*sz) cs),hp) else F6
 | none=>F6
def Us(n id o k:Nat):freeze (n+1) hp (.ay id o k)=nc o k (sO n hp id):=rfl
def kG{k:Nat}(ex:Bool)(hl:cs.length=k*sz)(hs:0<sz):nc 0 k (F5 (ex,sz,cs,hp))=F5 (.ap ex k cs,hp):=by
 have e2:yM 0 sz=ydo:=yy hs;simp[nc,<-hl,e2,slice,yy (yx cs.length)]
def C8(n id:Nat)(hp:Hp)(q:Option Obj):Option (Bool×Nat×List AV×Hp):=
 match q with
 | some (.cells rw pu ex sz cs)=>
  bif pu then F5 (ex,sz,cs,bif rw then aU hp id (.cells ydp ydo ex sz cs) else hp)
  else match cB n hp cs with
   | some (dF,an)=>F5 (ex,sz,dF,aU an id (.cells ydp ydp ex sz cs))
   | none=>F6
 | _=>F6
def Ut(n id:Nat):sO (n+1) hp id=C8 n id hp (ak hp id):=rfl
def au1(n id:Nat)(ex:Bool)(sz:Nat)(cs:List AV):C8 n id hp (F5 (.cells ydo ydo ex sz cs))=F5 (ex,sz,cs,aU hp id (.cells ydp ydo ex sz cs)):=rfl
def au2(n id:Nat)(ex:Bool)(sz:Nat)(cs:List AV):C8 n id hp (F5 (.cells ydp ydo ex sz cs))=F5 (ex,sz,cs,hp):=rfl
def cm(n:Nat)(cs:List AV)(h:cB n hp cs=F5 (cs,hp)):freeze (n+1) hp (.agg cs)=F5 (.agg cs,hp):=by
 simp only[freeze,h]
def SW{id:Nat}(hg:ak hp id=F5 (.cells ydo ydo ex sz cs))(hl:cs.length=n*sz)(hs:0<sz):result hp (.ay id 0 n)=F5 (.cM ex sz n cs):=by
 have e2:yM 0 sz=ydo:=yy hs;simp only[result,pX,hg,yd,<-hl,yy (yx cs.length),yu,e2,uf,slice,yg,xQ]
 simp
def akm(b:Bool):result hp (.aw [.af,.bool b])=F5 (.aw [.af,.bool b]):=rfl
def akn(k:xg)(b:Int):result hp (.aw [.af,.int k b])=F5 (.aw [.af,.int k b]):=rfl
def ako(e:Bool)(n:Nat)(cs:List AV)(k:xg)(b:Int):result hp (.aw [.ap e n cs,.int k b])=F5 (.aw [.ap e n cs,.int k b]):=rfl
def amZ(s:St):rH [] s=F5 s:=rfl
def Yd(t:Nat)(r:List Nat)(tm:Env)(ct base:Nat)(q:Option (AV×Hp)):Option St:=match q with | some (v,hp)=>rH r ⟨(t,v)::tm,hp,ct,base⟩ | none=>F6
def alK(t:Nat)(r:List Nat)(tm:Env)(hp:Hp)(ct base:Nat):rH (t::r) ⟨tm,hp,ct,base⟩=Yd t r tm ct base (freeze deep hp (aj tm t)):=by
 simp only[rH,Yd];cases freeze deep hp (aj tm t)<;>rfl
def axR(t:Nat)(r:List Nat)(tm:Env)(ct base:Nat)(v:AV)(hp:Hp):Yd t r tm ct base (F5 (v,hp))=rH r ⟨(t,v)::tm,hp,ct,base⟩:=rfl
end
attribute [go_sem] akm akn ako amR alG amS alH amT amU amV aoY amW adg aoZ arn ao0 aro arp arq auT ao1 aaZ
 amX alI auU auV axI azt auW auX auY axJ abW afv rP ars ao2 JE axK axL axM axN axO axP auZ
 amY SV alJ ak3 SF axQ KI KJ KK art au0 Us kG eX zZ Ut au1 au2 amZ alK axR
 Bool.and_false wW yg eq_self
end
def abX:∀hp:Hp,dO 0 hp=[]
 | []=>rfl
 | (id,o)::r=>by
  have:yM id 0=ydp:=rfl
  simp only[dO,this,yO,abX r]
def ad4(f:Nat->Option Nat):∀hp:Hp,gj 0 f hp=[]
 | []=>rfl
 | (id,o)::r=>by
  have:yM id 0=ydp:=rfl
  simp only[gj,this,yO,ad4 f r]
def pos(seen:List Nat):Nat->Option Nat:=fun id=>iw id seen 0
def Wq(tm:Env)(hp:Hp)(seen:List Nat):St:=⟨gn (pos seen) tm,eY hp (pos seen) seen 0 [],seen.length,0⟩
def ol(hp:Hp):Nat->List Nat->List Nat->List Nat:=reach hp 0
def az(live:List Nat)(tm:Env)(hp:Hp)(ct:Nat):bE live ⟨tm,hp,ct,0⟩=Wq (cd tm live) hp (ol hp 100000 (fj (cd tm live)) []):=by
 have e:∀seen,ij 0 seen=pos seen:=fun seen=>by
  funext id
  have:yM id 0=ydp:=rfl
  simp only[ij,this,yO,pos]
 simp only[bE,abX,wL,e,ad4,Wq,ol,yd]
def am0:fj []=[]:=rfl
def Z7(i:Nat)(v:AV)(r:Env):fj ((i,v)::r)=refs v++fj r:=rfl
def ao3(k:xg)(n:Int):refs (.int k n)=[]:=rfl
def am1(b:Bool):refs (.bool b)=[]:=rfl
def ao4(s:List Nat):refs (.str s)=[]:=rfl
def am2:refs .af=[]:=rfl
def ao5(e:Bool)(n:Nat)(cs:List AV):refs (.ap e n cs)=[]:=rfl
def am3(cs:List AV):refs (.bt cs)=[]:=rfl
def alL:refs .undef=[]:=rfl
def ao6(id o:Nat):refs (.ptr id o)=[id]:=rfl
def ao7(id o n:Nat):refs (.ay id o n)=[id]:=rfl
def aru(g:Nat)(a b:List AV):refs (.fn (.f g) a b)=gG a++gG b:=rfl
def au3(l:Nat)(a b:List AV):refs (.fn (.y l) a b)=[l]:=rfl
def ao8(cs:List AV):refs (.agg cs)=gG cs:=rfl
def am4:gG []=[]:=rfl
def alM(v:AV)(r:List AV):gG (v::r)=refs v++gG r:=rfl
def Qu(hp:Hp)(n id:Nat)(cT seen:List Nat)(q:Option Obj):List Nat:=match q with | some o=>ol hp n (jR o++cT) (seen++[id]) | none=>ol hp n cT seen
def Qv(hp:Hp)(n id:Nat)(cT seen:List Nat)(b:Bool):List Nat:=bif b then ol hp n cT seen else Qu hp n id cT seen (ak hp id)
def adh(hp:Hp)(n:Nat)(seen:List Nat):ol hp (n+1) [] seen=seen:=rfl
def TV(hp:Hp)(n id:Nat)(cT seen:List Nat):ol hp (n+1) (id::cT) seen=Qv hp n id cT seen (jy id seen):=by
 have:yM id 0=ydp:=rfl
 simp only[ol,reach,this,vL,Qv,Qu]
 cases jy id seen with
 | true=>rfl
 | false=>simp only[yO];cases ak hp id<;>rfl
def au4(hp:Hp)(n id:Nat)(cT seen:List Nat):Qv hp n id cT seen ydo=ol hp n cT seen:=rfl
def US(hp:Hp)(n id:Nat)(cT seen:List Nat):Qv hp n id cT seen ydp=Qu hp n id cT seen (ak hp id):=rfl
def UT(hp:Hp)(n id:Nat)(cT seen:List Nat)(o:Obj):Qu hp n id cT seen (F5 o)=ol hp n (jR o++cT) (seen++[id]):=rfl
def abY(i:Nat):jy i []=ydp:=rfl
def abZ(i:Nat)(r:List Nat):jy i (i::r)=ydo:=by simp only[jy,wQ,yu]
def aa0{i j:Nat}(r:List Nat)(h:j≠i):jy i (j::r)=jy i r:=by simp only[jy,gF h,yO]
def arv(rw ex:Bool)(sz:Nat)(cs:List AV):jR (.cells rw ydo ex sz cs)=[]:=rfl
def adi(rw ex:Bool)(sz:Nat)(cs:List AV):jR (.cells rw ydp ex sz cs)=gG cs:=rfl
def ao9(tm:Env)(ps:List Nat)(a b:VC)(st:Nat)(pe:sZ):jR (.lp tm ps a b st pe)=fj tm:=rfl
def adj(i:Nat)(r:List Nat)(k:Nat):iw i (i::r) k=F5 k:=by simp only[iw,wQ,yu]
def ab0{i j:Nat}(r:List Nat)(k:Nat)(h:j≠i):iw i (j::r) k=iw i r (k+1):=by simp only[iw,gF h,yO]
def pos_eq(seen:List Nat)(i:Nat):pos seen i=iw i seen 0:=rfl
def Py(o:Nat)(q:Option Nat):AV:=match q with | some j=>.ptr j o | none=>.undef
def Pz(o n:Nat)(q:Option Nat):AV:=match q with | some j=>.ay j o n | none=>.undef
def apa(s:List Nat):gn (pos s) []=[]:=rfl
def am5(s:List Nat)(i:Nat)(v:AV)(r:Env):gn (pos s) ((i,v)::r)=(i,br (pos s) v)::gn (pos s) r:=rfl
def arw(s:List Nat)(k:xg)(n:Int):br (pos s) (.int k n)=.int k n:=rfl
def apb(s:List Nat)(b:Bool):br (pos s) (.bool b)=.bool b:=rfl
def arx(s:List Nat)(t:List Nat):br (pos s) (.str t)=.str t:=rfl
def apc(s:List Nat):br (pos s) .af=.af:=rfl
def ary(s:List Nat)(e:Bool)(n:Nat)(cs:List AV):br (pos s) (.ap e n cs)=.ap e n cs:=rfl
def ape(s:List Nat)(cs:List AV):br (pos s) (.bt cs)=.bt cs:=rfl
def am6(s:List Nat):br (pos s) .undef=.undef:=rfl
def arz(s:List Nat)(id o:Nat):br (pos s) (.ptr id o)=Py o (iw id s 0):=rfl
def arA(s:List Nat)(id o n:Nat):br (pos s) (.ay id o n)=Pz o n (iw id s 0):=rfl
def au5(s:List Nat)(g:Nat)(a b:List AV):br (pos s) (.fn (.f g) a b)=.fn (.f g) (dP (pos s) a) (dP (pos s) b):=rfl
def arB(s:List Nat)(cs:List AV):br (pos s) (.agg cs)=.agg (dP (pos s) cs):=rfl
def apf(s:List Nat):dP (pos s) []=[]:=rfl
def am7(s:List Nat)(v:AV)(r:List AV):dP (pos s) (v::r)=br (pos s) v::dP (pos s) r:=rfl
def arC(o j:Nat):Py o (F5 j)=.ptr j o:=rfl
def arD(o n j:Nat):Pz o n (F5 j)=.ay j o n:=rfl
def Wr(hp:Hp)(f:Nat->Option Nat)(r:List Nat)(k:Nat)(acc:Hp)(q:Option Obj):Hp:=match q with | some o=>eY hp f r (k+1) ((k,jh f o)::acc) | none=>eY hp f r (k+1) acc
def am8(hp:Hp)(s:List Nat)(k:Nat)(acc:Hp):eY hp (pos s) [] k acc=acc:=rfl
def alN(hp:Hp)(s:List Nat)(id:Nat)(r:List Nat)(k:Nat)(acc:Hp):eY hp (pos s) (id::r) k acc=Wr hp (pos s) r k acc (ak hp id):=by
 simp only[eY,Wr];cases ak hp id<;>rfl
def au6(hp:Hp)(s r:List Nat)(k:Nat)(acc:Hp)(o:Obj):Wr hp (pos s) r k acc (F5 o)=eY hp (pos s) r (k+1) ((k,jh (pos s) o)::acc):=rfl
def au7(f:Nat->Option Nat)(rw ex:Bool)(sz:Nat)(cs:List AV):jh f (.cells rw ydo ex sz cs)=.cells rw ydo ex sz cs:=rfl
def au8(f:Nat->Option Nat)(rw ex:Bool)(sz:Nat)(cs:List AV):jh f (.cells rw ydp ex sz cs)=.cells rw ydp ex sz (dP f cs):=rfl
def arE(f:Nat->Option Nat)(tm:Env)(ps:List Nat)(a b:VC)(st:Nat)(pe:sZ):jh f (.lp tm ps a b st pe)=.lp (gn f tm) ps a b st pe:=rfl
def adk(tm:Env)(hp:Hp)(seen:List Nat):Wq tm hp seen=⟨gn (pos seen) tm,eY hp (pos seen) seen 0 [],seen.length,0⟩:=rfl
attribute [go_sem] am0 Z7 ao3 am1 ao4 am2 ao5 am3 alL ao6 ao7 aru au3 ao8 am4 alM adh TV au4 US UT
 abY abZ aa0 arv adi ao9 adj ab0 apa am5 arw apb arx apc ary ape am6 arz arA au5 arB apf am7 arC arD
 am8 alN au6 au7 au8 arE adk yv yI
def ab1{α:Type}{p:α->Bool}{l:List α}{i:Nat}(h:i<l.length):(l.drop i).any p=(p l[i]||(l.drop (i+1)).any p):=by
 rw[yW h,List.any_cons]
def nX(f:Nat->Int):Nat->Int
 | 0=>0
 | n+1=>nX f n+f n
def aa1{k:xg}{n:Int}(h:0<=n):dt (.int k n)=F5 n.toNat:=by
 cases n with
 | ofNat n=>rfl
 | negSucc n=>exact absurd h (by simp)
def bg(k id o:Nat):CQ k (.ptr id o)=F5 (.ptr id (o+k)):=rfl
def cO{α:Type}(a:α)(l:List α):uB 1 (a::l)=l:=rfl
def axS{α:Type}(a b:α)(l:List α):uB 2 (a::b::l)=l:=rfl
def afw{α:Type}(a b c:α)(l:List α):uB 3 (a::b::c::l)=l:=rfl
abbrev Nm(n:Int):AV:=.agg [aa n,.af]
def Ad(hp:Hp)(ct id:Nat)(a:Int)(x y:AV):gO hp ct id 0 2 [.int .i64 a,.af] (F5 (.cells ydo ydo ydo 2 [x,y]))=F5 (.aw [],aU hp id (.cells ydo ydo ydo 2 [.int .i64 a,.af]),ct):=rfl
def eH(b:Bool):Hn ydp (F5 b)=F5 (.bool b):=by cases b<;>rfl
def ad5(f:cu)(tm:Env)(hp:Hp)(ct:Nat)(x y:X):aX P L f tm hp ct (.mn [x,y])=rd hp ct (min2 (ax tm x) (ax tm y)):=by
 simp only[aX,rd,bh,dK,CP]
 grind
def jf(f:cu)(tm:Env)(hp:Hp)(ct:Nat)(x y:X):aX P L f tm hp ct (.mx [x,y])=rd hp ct (max2 (ax tm x) (ax tm y)):=by
 simp only[aX,rd,bh,dK,CP]
 grind
def ab2(k k':xg)(x y:Int):min2 (.int k x) (.int k' y)=F5 (.int k (if y<x then y else x)):=rfl
def JN(k k':xg)(x y:Int):max2 (.int k x) (.int k' y)=F5 (.int k (if y>x then y else x)):=rfl
def bV(n:Int):Int:=if n<0 then -1 else if n=0 then 0 else 1
def au9(n:Int):(if (if n<1 then n else 1)> -1 then (if n<1 then n else 1) else -1)=bV n:=by
 unfold bV
 grind
def n117(h:Has P L 117 PZ)(n:Int):ah P L 117 [aa n] (Nm n):=by
 unfold ah;rw[aG h];simp only[go_sem,ya,yb,yi,PZ,aO,yd,Ad];rfl
def rL(hp:Hp)(p q:Bool):kO .b (.bool p) (.bool q)=F5 (p==q):=rfl
def kH{n:Nat}{sp:List AV->Option AV}(h:L.pure n=F5 sp){f:cu}(aq:List AV):bW P L f n aq=sp aq:=by simp only[bW,h]
abbrev U64(n:Int):AV:=.int .u64 n
def axT{n:Int}(h1:0<=n)(h2:n<18446744073709551616):IntKind.wrap .u64 n=n:=by
 simp only[IntKind.wrap,IntKind.signed,IntKind.bits]
 grind
def ad6(n:Int):jW (.toInt .u64) (aa n)=F5 (U64 (IntKind.wrap .u64 n)):=rfl
def O0(n:Int):jW (.toInt .i64) (U64 n)=F5 (aa (IntKind.wrap .i64 n)):=rfl
def KL(b:Bool):Hn ydo (F5 b)=F5 (.bool (!b)):=by cases b<;>rfl
def bY(a b:AV)(r:List AV):fU 2 ydo (a::b::r)=F5 (.agg [a,b]):=rfl
def gS(a b c d:AV)(r:List AV):fU 4 ydo (a::b::c::d::r)=F5 (.agg [a,b,c,d]):=rfl
def am9{a b:Int}(hb:0<b):(a.tmod b<0->a/b=a.tdiv b-1/\a%b=a.tmod b+b)/\(¬a.tmod b<0->a/b=a.tdiv b/\a%b=a.tmod b):=by
 have h1:=Int.mul_tdiv_add_tmod a b;have h2:a.tmod b<b:=Int.tmod_lt_of_pos a hb;have h3: -b<a.tmod b:=Int.lt_tmod_of_pos a hb;refine⟨fun h=>(yay hb).2 ⟨?_,?_,?_⟩,fun h=>(yay hb).2 ⟨?_,?_,?_⟩⟩
 .grind
 .lia
 .lia
 .lia
 .lia
 .lia
def apg(a b:Nat)(hb:b≠0):wK b (a%b)=wK a b:=by
 rw[yao b,<-ycY,yao]
def dD(a b:Int):Int:=a/(vz a b:Nat)
def dL(a b:Int):Int:=b/(vz a b:Nat)
def OE{a b:Int}(hb:0<b):(0:Int)<(vz a b:Nat):=by
 have:=Int.gcd_pos_of_ne_zero_right a (show b≠0 by lia)
 lia
def ava(a b:Int):a=(vz a b:Nat)*dD a b:=(ybv (yaD a b)).symm
def avb(a b:Int):b=(vz a b:Nat)*dL a b:=(ybv (yau a b)).symm
def JO{a b:Int}(hb:0<b):0<dL a b:=by
 have h1:=OE (a:=a) hb;have h2:=avb a b;rcases Int.lt_trichotomy (dL a b) 0 with h | h | h
 .have:=Int.mul_neg_of_pos_of_neg h1 h;lia
 .grind
 .exact h
def ab3(a b:Int):(dD a b).natAbs<=a.natAbs:=by
 unfold dD;rw[th (yaD a b)];exact vD _ _
def ab4(a b:Int):(dL a b).natAbs<=b.natAbs:=by
 unfold dL;rw[th (yau a b)];exact vD _ _
def rQ(a b:Int):List Nat:=if dL a b=1 then bf (dD a b) else bf (dD a b)++[47]++bf (dL a b)
section
variable {s:List Nat}{n:Nat}
def afx{a b:Nat}(h:¬a<b):yM a b=ydp:=by
 cases hb:yM a b with
 | false=>rfl
 | true=>exact absurd (yt hb) (by lia)
def Uu:∀(f n:Nat) (acc:List Nat),n<f->oE f n acc=oE f n []++acc
 | 0,_,_,h=>by lia
 | f+1,n,acc,h=>by
  simp only[oE];by_cases h1:n<10
  .rw [show yM n 10=ydo from yy h1];rfl
  .rw [show yM n 10=ydp from afx (by lia)];rw[Uu f (n/10) _ (by lia),Uu f (n/10) [48+n%10] (by lia)]
   simp
def To{f:Nat}(h:n<10):oE (f+1) n []=[48+n]:=by
 simp only[oE];rw[show yM n 10=ydo from yy h];rfl
def Uv{f:Nat}(h:¬n<10)(hf:n<=f):oE (f+1) n []=oE f (n/10) []++[48+n%10]:=by
 rw[<-Uu f (n/10) _ (by lia)];simp only[oE];rw[show yM n 10=ydp from afx (by lia)];rfl
def aph:∀(n f:Nat),n<f->oE f n []=aA n:=by
 intro n
 induction n using vT with
 | _ n ih=>
  intro f hf;obtain⟨g,rfl⟩:∃g,f=g+1:=⟨f-1,by lia⟩;by_cases h:n<10
  .rw [To h];unfold aA;rw[To h]
  .rw [Uv h (by lia),ih (n/10) (by lia) g (by lia)];unfold aA;rw[Uv h (yx n),ih (n/10) (by lia) n (by lia)];rfl
def pO(h:n<10):aA n=[48+n]:=To h
def rk(h:¬n<10):aA n=aA (n/10)++[48+n%10]:=by
 rw[show aA n=oE (n+1) n [] from rfl,Uv h (yx n),aph (n/10) n (by lia)]
def zW:∀{k n:Nat},n<10^(k+1)->(aA n).length<=k+1
 | 0,n,h=>by rw[pO (by simpa using h)];simp
 | k+1,n,h=>by
  by_cases h1:n<10
  .rw [pO h1];simp
  .rw [rk h1,yJ]
   have:n/10<10^(k+1):=by
    grind
   have:=zW this
   grind
def NJ(h:n<18446744073709551616):(aA n).length<=20:=zW (k:=19) (by lia)
def nG(n:Nat):bf (n:Int)=aA n:=rfl
def mO{n:Int}(h:n<0):bf n=45::aA n.natAbs:=by
 cases n with
 | ofNat n=>exact absurd h (by simp)
 | negSucc n=>rfl
def bS:List Nat->Nat
 | []=>0
 | b::r=>if b=47 then 0 else bS r+1
def ak4{i:Nat}(h:i<s.length):bS (s.drop i)=if s[i]=47 then 0 else bS (s.drop (i+1))+1:=by
 rw[yW h];rfl
def JF:∀s:List Nat,bS s<=s.length
 | []=>yx _
 | b::r=>by
  unfold bS
  have:=JF r
  grind
def du:List Nat->Bool
 | []=>ydo
 | b::r=>yC 48 b&&yC b 57&&du r
def Nt:∀(a b:List Nat),du (a++b)=(du a&&du b)
 | [],b=>by simp[du]
 | x::a,b=>by simp[du,Nt a b,Bool.and_assoc]
def A9(n:Nat):du (aA n)=ydo:=by
 induction n using vT with
 | _ n ih=>
  by_cases h:n<10
  .rw [pO h];simp[du];lia
  .rw [rk h,Nt,ih (n/10) (by lia)];simp[du];lia
def Jq:∀{s:List Nat} (r:List Nat),du s=ydo->bS (s++r)=s.length+bS r
 | [],r,_=>by simp
 | b::s,r,h=>by
  simp only[du,ye] at h;have h1:=yt h.1.1;simp only[yB,bS,yv];rw[yp (by lia),Jq r h.2]
  lia
def Nv:∀(l:List Nat) (a d:Nat),d<10->cL (l++[48+d]) a=(cL l a).map (fun v=>10*v+d)
 | [],a,d,h=>by
  simp only[yL,cL];rw[show yC 48 (48+d)=ydo from yy (by lia),show yC (48+d) 57=ydo from yy (by lia)]
  simp
 | b::l,a,d,h=>by
  simp only[yB,cL]
  cases (yC 48 b&&yC b 57) with
  | true=>exact Nv l _ d h
  | false=>rfl
def Ba(n:Nat):cL (aA n) 0=F5 n:=by
 induction n using vT with
 | _ n ih=>
  by_cases h:n<10
  .rw [pO h]
   have:=Nv [] 0 n h
   simpa[cL] using this
  .rw [rk h,Nv _ _ _ (by lia),ih (n/10) (by lia)]
   simp;lia
def ana{i a v:Nat}(h:i<s.length)(hv:cL (s.drop i) a=F5 v):48<=s[i]/\s[i]<=57/\cL (s.drop (i+1)) (10*a+(s[i]-48))=F5 v:=by
 rw[yW h] at hv;simp only[cL] at hv
 cases hb:(yC 48 s[i]&&yC s[i] 57) with
 | false=>rw[hb] at hv;cases hv
 | true=>
  simp_all
def jC:Nat->Nat->List Nat
 | 0,_=>[]
 | k+1,n=>jC k (n/10)++[48+n%10]
def TW:∀k n,(jC k n).length=k
 | 0,_=>rfl
 | k+1,n=>by simp[jC,TW k]
def Og:∀(k m r:Nat),0<m->r<10^k->aA (m*10^k+r)=aA m++jC k r
 | 0,m,r,_,h=>by simp at h;subst h;simp[jC]
 | k+1,m,r,hm,h=>by
  have h1:m*10^(k+1)+r=(m*10^k)*10+r:=by grind
  have hp:0<m*10^k:=vO hm (ycI (by decide));have e1:(m*10^(k+1)+r)/10=m*10^k+r/10:=by lia
  have e2:(m*10^(k+1)+r)%10=r%10:=by lia
  rw[rk (by lia),e1,e2,Og k m (r/10) hm (by rw[xq] at h;lia)]
  simp[jC]
def ab5:∀(k r a:Nat),r<10^k->cL (jC k r) a=F5 (a*10^k+r)
 | 0,r,a,h=>by simp at h;subst h;simp[jC,cL]
 | k+1,r,a,h=>by
  rw[jC,Nv _ _ _ (xD _ (by decide)),ab5 k (r/10) a (by lia)];simp only[wO,yc,xq]
  grind
def api{m:Nat}(h:1000000000<=m):aA m=aA (m/1000000000)++jC 9 (m%1000000000):=by
 have:=Og 9 (m/1000000000) (m%1000000000) (by lia) (by lia)
 grind
end
def jj(s:List Nat)(l h:Option Nat):Option AV:=
 match l,h with
 | some l,F5 h=>bif yC l h&&yC h s.length then F5 (.str ((s.take h).drop l)) else F6
 | _,_=>F6
def fy(hp:Hp)(s:List Nat)(tm:Env)(lo hi:Option X):fI hp .str (.str s) tm lo hi=jj s (cX tm 0 lo) (cX tm s.length hi):=by
 unfold jj;simp only[fI]
 grind
def fS(tm:Env)(d:Nat):cX tm d F6=F5 d:=rfl
def eC(tm:Env)(d:Nat)(x:X):cX tm d (F5 x)=dt (ax tm x):=rfl
def mP{s:List Nat}{l h:Nat}(h1:l<=h)(h2:h<=s.length):jj s (F5 l) (F5 h)=F5 (.str ((s.take h).drop l)):=by
 simp[jj,yy h1,yy h2]
def ig{a b:List Nat}(h:a.length+b.length<=9223372036854775807):binOp .add (.str a) (.str b)=F5 (.str (a++b)):=by
 show KQ .add a b=_
 simp only[KQ,yy h,yu]
def arG(k:xg)(n:Int):jW (.toInt .i64) (.int k n)=F5 (aa (IntKind.wrap .i64 n)):=rfl
def nJ(a b:List Nat):binOp .eql (.str a) (.str b)=F5 (.bool (c6 a b)):=rfl
def sT{s:List Nat}{i:Nat}(h:i<s.length):oP i (.str s)=F5 (.int .u8 (s[i]:Nat)):=by
 simp only[oP,xb h]
def Z8{r:Nat}(h:r<10):jj [48,49,50,51,52,53,54,55,56,57] (F5 r) (F5 (r+1))=F5 (.str [48+r]):=by
 have:r=0\/r=1\/r=2\/r=3\/r=4\/r=5\/r=6\/r=7\/r=8\/r=9:=by lia
 rcases this with rfl | rfl | rfl | rfl | rfl | rfl | rfl | rfl | rfl | rfl<;>rfl
def Ws(h:Has P L 292 BG){n:Nat}(hn:n<9223372036854775808):ah P L 292 [aa n,aa 1] (.str (aA n)):=by
 have key:=jO P L [0,1,5] pZ
  (fun k st=>∃(m:Nat) (s:List Nat),st=⟨[(0,aa m),(1,aa 1),(5,.str s)],[],0,0⟩/\m<=n/\m+(1-s.length)=k/\s.length<=20/\((s=[]/\m=n)\/(0<s.length/\(m=0->s=aA n)/\(0<m->aA n=aA m++s))))
  (fun ex st=>∃tm ct,st=⟨tm,[],ct,0⟩/\ex=.exit 0/\aj tm 5=.str (aA n)) ?_
 .unfold ah;rw[aG h];simp only[go_sem,BG];generalize hq:D P L (.loop _ pZ) _=q;obtain⟨ex,st,rfl,tm,ct,rfl,rfl,h2⟩:=bQ hq (key (n+1)) ⟨n,[],by simp only[go_sem,ya,az]<;>rfl,by lia,rfl,by simp,.inl ⟨rfl,rfl⟩⟩
  simp only[go_sem,az,h2]
 .rintro k st ⟨m,s,rfl,hm,hk,hl,hs⟩;by_cases AR:0<m\/s.length<1
  .left
   have hc:((decide ((0:Int)<m))=ydo)\/((decide ((0:Int)<m))=ydp/\((s.length:Nat):Int)<1):=by
    by_cases h0:0<m
    .exact .inl (xf (by lia))
    .exact .inr ⟨yY (by lia),by lia⟩
   have hr:((m:Int)).tmod 10=((m%10:Nat):Int):=by rw[we (by lia)];rfl
   have hq:((m:Int)).tdiv 10=((m/10:Nat):Int):=by rw[wg (by lia)];rfl
   have hd:=Z8 (r:=m%10) (by lia);have fin:∃s' k',D P L pZ ⟨[(0,aa m),(1,aa 1),(5,.str s)],[],0,0⟩=F5 (.normal,s')/\k'<k/\bE [0,1,5] s'=⟨[(0,aa (m/10:Nat)),(1,aa 1),(5,.str ([48+m%10]++s))],[],0,0⟩/\m/10+(1-([48+m%10]++s).length)=k':=by
    rcases hc with hc | ⟨hc,Du⟩
    .have hc:(0:Int)<m:=of_decide_eq_true hc
     simp only[go_sem,ya,yb,pZ,hc,eL _ _ _ (show (10:Int)≠0 by decide),fH _ _ _ (show (10:Int)≠0 by decide),hr,hq,wrapN (n:=m%10+1) (by lia),wrap64 (n:=((m/10:Nat):Int)) (by lia) (by lia),fy,eC,show ((m%10:Nat):Int)+1=((m%10+1:Nat):Int) from rfl,hd,ig (a:=[48+m%10]) (b:=s) (by simp;lia)]
     refine⟨_,_,rfl,?_,by simp only[go_sem,ya,az],rfl⟩
     simp;lia
    .have hc:¬(0:Int)<m:=of_decide_eq_false hc
     simp only[go_sem,ya,yb,pZ,hc,Du,eL _ _ _ (show (10:Int)≠0 by decide),fH _ _ _ (show (10:Int)≠0 by decide),hr,hq,wrapN (n:=m%10+1) (by lia),wrap64 (n:=((m/10:Nat):Int)) (by lia) (by lia),fy,eC,show ((m%10:Nat):Int)+1=((m%10+1:Nat):Int) from rfl,hd,ig (a:=[48+m%10]) (b:=s) (by simp;lia)]
     refine⟨_,_,rfl,?_,by simp only[go_sem,ya,az],rfl⟩
     simp;lia
   have⟨s',k',f1,f2,f3,f4⟩:=fin;refine⟨s',k',f1,f2,m/10,[48+m%10]++s,f3,by lia,f4,?_,.inr ⟨by simp,fun h0=>?_,fun h0=>?_⟩⟩
   .have aFw:=NJ (n:=n) (by lia);rcases hs with ⟨rfl,rfl⟩ | ⟨h1,h2,h3⟩
    .simp
    .by_cases h0:0<m
     .have e:=congrArg uA (h3 h0);have e2:0<(aA m).length:=by
       by_cases h9:m<10
       .rw [pO h9];simp
       .rw [rk h9];simp
      simp only[yJ] at e
      simp;lia
     .lia
   .have h9:m<10:=by lia
    rcases hs with ⟨rfl,rfl⟩ | ⟨h1,h2,h3⟩
    .rw [pO h9,yU h9];rfl
    .have:0<m:=by lia
     rw[h3 this,pO h9,yU h9]
   .have h9:¬m<10:=by lia
    rcases hs with ⟨rfl,rfl⟩ | ⟨h1,h2,h3⟩
    .rw [rk h9];simp
    .rw [h3 (by lia),rk h9];simp
  .right
   simp only[go_sem,ya,pZ,show ¬(0:Int)<m by lia,show ¬((s.length:Nat):Int)<1 by lia];refine⟨_,_,rfl,by simp,_,_,rfl,rfl,?_⟩;simp only[go_sem,ya];rcases hs with ⟨rfl,rfl⟩ | ⟨h1,h2,h3⟩
   .simp at AR
   .rw [h2 (by lia)]
def azu(h:Has P L 291 Lv){a b:Nat}(ha:a<9223372036854775808)(hb:b<9223372036854775808):ah P L 291 [aa a,aa b] (aa (wK a b)):=by
 have key:=jO P L [0,1] Kz
  (fun k st=>∃x y:Nat,st=⟨[(0,aa x),(1,aa y)],[],0,0⟩/\y=k/\wK x y=wK a b)
  (fun ex st=>∃tm ct,st=⟨tm,[],ct,0⟩/\ex=.exit 0/\aj tm 0=aa (wK a b)) ?_
 .unfold ah;rw[aG h];simp only[go_sem,Lv];generalize hq:D P L (.loop _ Kz) _=q;obtain⟨ex,st,rfl,tm,ct,rfl,rfl,h2⟩:=bQ hq (key b) ⟨a,b,by simp only[go_sem,ya,az]<;>rfl,rfl,rfl⟩
  simp only[go_sem,az,h2]
 .rintro k st ⟨x,y,rfl,rfl,hg⟩;by_cases hy:y=0
  .right
   subst hy;simp only[go_sem,ya,Kz,show ¬(0:Int)<((0:Nat):Int) by lia];refine⟨_,_,rfl,by simp,_,_,rfl,rfl,?_⟩;simp only[go_sem,ya];rw[<-hg,Nat.gcd_zero_right]
  .left
   have hr:((x:Int)).tmod y=((x%y:Nat):Int):=by rw[we (by lia)];rfl
   simp only[go_sem,ya,Kz,show (0:Int)<y by lia,eL _ _ _ (show (y:Int)≠0 by lia),hr];refine⟨_,x%y,rfl,xD _ (by lia),y,x%y,by simp only[go_sem,ya,az],rfl,?_⟩;rw[<-hg,yao y,<-ycY,yao]
def LM(h:Has P L 272 Ls){s:List Nat}(hl:s.length<9223372036854775808):ah P L 272 [.str s] (aa (bS s)):=by
 have key:=jO P L [0,3] GG
  (fun k st=>∃i:Nat,st=⟨[(0,.str s),(3,aa i)],[],0,0⟩/\i+k=s.length/\i+bS (s.drop i)=bS s)
  (fun ex st=>∃tm ct,st=⟨tm,[],ct,0⟩/\((ex=.ret/\aj tm 2=aa (bS s))\/(ex=.exit 0/\aj tm 0=.str s/\bS s=s.length))) ?_
 .unfold ah;rw[aG h];simp only[go_sem,Ls];generalize hq:D P L (.loop _ GG) _=q;obtain⟨ex,st,rfl,tm,ct,rfl,h2⟩:=bQ hq (key s.length) ⟨0,by simp only[go_sem,ya,az]<;>rfl,by lia,by simp⟩
  rcases h2 with ⟨rfl,h2⟩ | ⟨rfl,h2,h3⟩
  .simp only [go_sem,h2]
  .simp only [go_sem,az,h2,h3]
 .rintro k st ⟨i,rfl,hk,hs⟩;by_cases hi:i<s.length
  .rw [ak4 hi] at hs;by_cases h7:s[i]=47
   .right
    rw[yz h7] at hs;simp only[go_sem,ya,GG,show (i:Int)<s.length by lia,sT hi,show ((s[i]:Nat):Int)=47 by lia];refine⟨_,_,rfl,by simp,_,_,rfl,.inl ⟨rfl,?_⟩⟩;simp only[go_sem];rw[<-hs];rfl
   .left
    rw[yp h7] at hs;simp only[go_sem,ya,GG,show (i:Int)<s.length by lia,sT hi,show ¬((s[i]:Nat):Int)=47 by lia];refine⟨_,k-1,rfl,by lia,i+1,?_,by lia,by lia⟩;rw[wrap64 (by lia) (by lia)];simp only[go_sem,ya,az]<;>rfl
  .right
   simp only[go_sem,ya,GG,show ¬(i:Int)<s.length by lia];refine⟨_,_,rfl,by simp,_,_,rfl,.inr ⟨rfl,rfl,?_⟩⟩;rw[xh (by lia)] at hs;simp only[bS] at hs
   lia
def LO(h:Has P L 290 Hj){s:List Nat}{v:Nat}(hl:s.length<=18)(hv:cL s 0=F5 v):ah P L 290 [.str s] (aa v):=by
 have key:=jO P L [0,3,4] Ky
  (fun k st=>∃i a:Nat,st=⟨[(0,.str s),(3,aa a),(4,aa i)],[],0,0⟩/\i+k=s.length/\a<10^i/\cL (s.drop i) a=F5 v)
  (fun ex st=>∃tm ct,st=⟨tm,[],ct,0⟩/\ex=.exit 0/\aj tm 3=aa v) ?_
 .unfold ah;rw[aG h];simp only[go_sem,Hj];generalize hq:D P L (.loop _ Ky) _=q;obtain⟨ex,st,rfl,tm,ct,rfl,rfl,h2⟩:=bQ hq (key s.length) ⟨0,0,by simp only[go_sem,ya,az]<;>rfl,by lia,by simp,hv⟩
  simp only[go_sem,az,h2]
 .rintro k st ⟨i,a,rfl,hk,ha,hs⟩;by_cases hi:i<s.length
  .left
   have⟨h1,h2,h3⟩:=ana hi hs;have hp:10^i<=10^17:=xd (by decide) (by lia);have hb:IntKind.wrap .i64 ((s[i]:Nat):Int)=((s[i]:Nat):Int):=wrap64 (by lia) (by lia)
   simp only[go_sem,ya,Ky,show (i:Int)<s.length by lia,sT hi,arG,hb,wrap64 (n:=10*(a:Int)) (by lia) (by lia),wrap64 (n:=10*(a:Int)+(s[i]:Nat)) (by lia) (by lia),wrap64 (n:=10*(a:Int)+(s[i]:Nat)-48) (by lia) (by lia)];refine⟨_,k-1,rfl,by lia,i+1,10*a+(s[i]-48),?_,by lia,?_,h3⟩
   .rw [wrap64 (by lia) (by lia),show 10*(a:Int)+(s[i]:Nat)-48=((10*a+(s[i]-48):Nat):Int) by lia];simp only[go_sem,ya,az]<;>rfl
   .rw [xq];lia
  .right
   simp only[go_sem,ya,Ky,show ¬(i:Int)<s.length by lia];refine⟨_,_,rfl,by simp,_,_,rfl,rfl,?_⟩;rw[xh (by lia)] at hs;simp only[cL,yc] at hs;subst hs;simp only[go_sem,ya]
def OF(a:Int):(if 0-a>a then 0-a else a)=(a.natAbs:Int):=by lia
def Oh(a b:Int):a.tdiv (vz a b:Nat)=dD a b:=ybh (yaD a b)
def Oi(a b:Int):b.tdiv (vz a b:Nat)=dL a b:=ybh (yau a b)
def pP(n:Int):(if n<0 then [45] else [])++aA n.natAbs=bf n:=by
 split
 .rename_i h;rw[mO h];rfl
 .rename_i h;obtain⟨m,rfl⟩:∃m:Nat,n=m:=⟨n.toNat,by lia⟩;rfl
def apj{n:Int}(h:n.natAbs<18446744073709551616):(bf n).length<=21:=by
 rw[<-pP]
 have:=NJ h
 grind
def arH{a b:Int}(hb:0<b):rQ a b=(if 1<dL a b then (bf (dD a b)++[47])++aA (dL a b).natAbs else bf (dD a b)):=by
 have h:=JO (a:=a) hb;unfold rQ;by_cases h1:dL a b=1
 .grind
 .rw [yp h1,yz (by lia)];obtain⟨m,hm⟩:∃m:Nat,dL a b=m:=⟨(dL a b).toNat,by lia⟩;rw[hm];rfl
def azv(h:Has P L 277 E9)(Wt:Has P L 291 Lv)(ze:Has P L 292 BG){a b:Int}(ha: -4000000000000000000<=a/\a<=4000000000000000000)(hb:0<b/\b<=4000000000000000000):
  ah P L 277 [aa a,aa b] (.str (rQ a b)):=by
 have hn:=ab3 a b;have hd:=ab4 a b;have hp:=JO (a:=a) hb.1;have e1:=azu Wt (a:=a.natAbs) (b:=b.natAbs) (by lia) (by lia);have e2:=Ws ze (n:=(dD a b).natAbs) (by lia);have e3:=Ws ze (n:=(dL a b).natAbs) (by lia);have hg:=OE (a:=a) hb.1;rw[show ((b.natAbs:Nat):Int)=b by lia,show wK a.natAbs b.natAbs=vz a b from rfl] at e1;rw[show (((dL a b).natAbs:Nat):Int)=dL a b by lia] at e3;have qJ:=apj (n:=dD a b) (by lia);have ph:=NJ (n:=(dD a b).natAbs) (by lia);have hl3:=NJ (n:=(dL a b).natAbs) (by lia);have hT:=arH (a:=a) hb.1;have hS:=pP (dD a b);unfold ah at e1 e2 e3 ⊢;rw[aG h];by_cases h0:dD a b<0
 .rw [yz h0] at hS;by_cases h1:1<dL a b
  .rw [yz h1] at hT
   simp only[go_sem,ya,E9,show ¬a< -4000000000000000000 by lia,show ¬4000000000000000000<a by lia,show ¬b< -4000000000000000000 by lia,show ¬4000000000000000000<b by lia,show ¬b<0 by lia,wrap64 (n:=0-a) (by lia) (by lia),jf,JN,OF,e1,fH _ _ _ (show ((vz a b:Nat):Int)≠0 by lia),Oh,Oi,wrap64 (n:=dD a b) (by lia) (by lia),wrap64 (n:=dL a b) (by lia) (by lia),h0,wrap64 (n:=0-dD a b) (by lia) (by lia),e2,ig (a:=[45]) (b:=aA (dD a b).natAbs) (by simp;lia),hS,h1,ig (a:=bf (dD a b)) (b:=[47]) (by simp;lia),e3,ig (a:=bf (dD a b)++[47]) (b:=aA (dL a b).natAbs) (by simp;lia),hT]
  .rw [yp h1] at hT
   simp only[go_sem,ya,E9,show ¬a< -4000000000000000000 by lia,show ¬4000000000000000000<a by lia,show ¬b< -4000000000000000000 by lia,show ¬4000000000000000000<b by lia,show ¬b<0 by lia,wrap64 (n:=0-a) (by lia) (by lia),jf,JN,OF,e1,fH _ _ _ (show ((vz a b:Nat):Int)≠0 by lia),Oh,Oi,wrap64 (n:=dD a b) (by lia) (by lia),wrap64 (n:=dL a b) (by lia) (by lia),h0,wrap64 (n:=0-dD a b) (by lia) (by lia),e2,ig (a:=[45]) (b:=aA (dD a b).natAbs) (by simp;lia),hS,h1,hT]
 .rw [yp h0] at hS;by_cases h1:1<dL a b
  .rw [yz h1] at hT
   simp only[go_sem,ya,E9,show ¬a< -4000000000000000000 by lia,show ¬4000000000000000000<a by lia,show ¬b< -4000000000000000000 by lia,show ¬4000000000000000000<b by lia,show ¬b<0 by lia,wrap64 (n:=0-a) (by lia) (by lia),jf,JN,OF,e1,fH _ _ _ (show ((vz a b:Nat):Int)≠0 by lia),Oh,Oi,wrap64 (n:=dD a b) (by lia) (by lia),wrap64 (n:=dL a b) (by lia) (by lia),h0,wrap64 (n:=0-dD a b) (by lia) (by lia),e2,ig (a:=[]) (b:=aA (dD a b).natAbs) (by simp;lia),hS,h1,ig (a:=bf (dD a b)) (b:=[47]) (by simp;lia),e3,ig (a:=bf (dD a b)++[47]) (b:=aA (dL a b).natAbs) (by simp;lia),hT]
  .rw [yp h1] at hT
   simp only[go_sem,ya,E9,show ¬a< -4000000000000000000 by lia,show ¬4000000000000000000<a by lia,show ¬b< -4000000000000000000 by lia,show ¬4000000000000000000<b by lia,show ¬b<0 by lia,wrap64 (n:=0-a) (by lia) (by lia),jf,JN,OF,e1,fH _ _ _ (show ((vz a b:Nat):Int)≠0 by lia),Oh,Oi,wrap64 (n:=dD a b) (by lia) (by lia),wrap64 (n:=dL a b) (by lia) (by lia),h0,wrap64 (n:=0-dD a b) (by lia) (by lia),e2,ig (a:=[]) (b:=aA (dD a b).natAbs) (by simp;lia),hS,h1,hT]
def TT(n:Int)(d:Nat):List Nat:=bf n++(if d=1 then [] else 47::aA d)
def arI{a b:Int}(hb:0<b):rQ a b=TT (dD a b) (dL a b).toNat:=by
 have h:=JO (a:=a) hb;unfold rQ TT;by_cases h1:dL a b=1
 .grind
 .rw [yp h1,yp (by lia)];obtain⟨m,hm⟩:∃m:Nat,dL a b=m:=⟨(dL a b).toNat,by lia⟩;rw[hm,xK];rfl
def Bh(n:Nat):0<(aA n).length:=by
 by_cases h:n<10
 .rw [pO h];simp
 .rw [rk h];simp
def J0:∀(n:Nat),n<10^(aA n).length:=by
 intro n
 induction n using vT with
 | _ n ih=>
  by_cases h:n<10
  .rw [pO h];simpa using h
  .have:=ih (n/10) (by lia)
   rw[rk h,yJ,tM,xq]
   lia
def ab6{n:Nat}(h:(aA n).length<=9):n<1000000000:=
 yG (J0 n) (by simpa using xd (show 0<10 by decide) h)
def Gd(n:Nat):∃b r,aA n=b::r/\48<=b/\b<=57:=by
 cases hq:aA n with
 | nil=>have:=Bh n;rw[hq] at this;simp at this
 | cons b r=>
  have:=A9 n
  rw[hq] at this;simp only[du,ye] at this
  simp_all
def Fc(s:List Nat):oP 0 (.str (45::s))=F5 (.int .u8 45):=rfl
def UU(q:Bool)(n:Int)(d:Nat):AV:=if q=ydo then .aw [aa n,aa d,.bool ydo] else .aw [aa 0,aa 0,.bool ydp]
def jV(d:Nat):List Nat:=if d=1 then [] else 47::aA d
def SX(d:Nat):bS (jV d)=0:=by unfold jV;split<;>rfl
def azw(h:Has P L 276 rO)(Fe:Has P L 272 Ls)(BJ:Has P L 290 Hj){n:Int}{d:Nat}(hl:(TT n d).length<=20000000000):
  ∃q:Bool,ah P L 276 [.str (TT n d)] (UU q n d)/\(q=ydo->n.natAbs<1000000000/\d<1000000000):=by
 generalize hs:TT n d=s at hl;by_cases pw:20<s.length
 .refine ⟨ydp,?_,fun h=>by cases h⟩;unfold ah;rw[aG h];simp only[go_sem,ya,rO,show (20:Int)<s.length by lia];rfl
 .have hu:∃u,u=aA n.natAbs++jV d:=⟨_,rfl⟩;have⟨u,hu⟩:=hu;have hK:∃K,K=(aA n.natAbs).length:=⟨_,rfl⟩;have⟨K,hK⟩:=hK;have Dt:bS u=K:=by rw[hu,Jq _ (A9 _),SX,hK];rfl
  have hlen:u.length=K+(jV d).length:=by rw[hu,hK,yJ]
  have hp:=Bh n.natAbs;have⟨b,r,hb,fV,fQ⟩:=Gd n.natAbs;have FK:(n<0/\s=45::u)\/(¬n<0/\s=u):=by
   by_cases h0:n<0
   .left;refine⟨h0,?_⟩;rw[<-hs,hu,TT,mO h0];rfl
   .right;refine⟨h0,?_⟩;rw[<-hs,hu,TT,<-pP,yp h0];rfl
  have hul:u.length<=s.length:=by rcases FK with ⟨_,e⟩ | ⟨_,e⟩<;>rw[e]<;>simp
  have DF:0<u.length:=by lia
  have zF:u[0]=b:=by
   have:u=b::(r++jV d):=by rw[hu,hb];rfl
   simp[this]
  have e1:=LM Fe (s:=u) (by lia);rw[Dt] at e1;have eQ:jj u (F5 0) (F5 K)=F5 (.str (aA n.natAbs)):=by
   rw[mP (by lia) (by lia),yg,hu,hK,List.take_left]
  unfold ah at e1;by_cases h9:9<K
  .refine ⟨ydp,?_,fun h=>by cases h⟩;unfold ah;rw[aG h];rcases FK with ⟨h0,e⟩ | ⟨h0,e⟩
   .have pw:¬20<u.length+1:=by rw[e] at pw;exact pw
    have lm:jj (45::u) (F5 1) (F5 (u.length+1))=F5 (.str u):=by rw[mP (s:=45::u) (l:=1) (h:=u.length+1) (by lia) (by simp)];simp
    rw[e];simp only[go_sem,ya,rO,show ¬(20:Int)<((u.length+1:Nat):Int) by lia,show (0:Int)<((u.length+1:Nat):Int) by lia,Fc,fy,fS,eC,lm,e1,show (9:Int)<(K:Int) by lia];rfl
   .rw [e];simp only[go_sem,ya,rO,show ¬(20:Int)<(u.length:Nat) by lia,show (0:Int)<(u.length:Nat) by lia,sT DF,zF,show ¬((b:Nat):Int)=45 by lia,e1,show (9:Int)<(K:Int) by lia];rfl
  .by_cases iW:10<(jV d).length
   .refine ⟨ydp,?_,fun h=>by cases h⟩;unfold ah;rw[aG h];rcases FK with ⟨h0,e⟩ | ⟨h0,e⟩
    .have pw:¬20<u.length+1:=by rw[e] at pw;exact pw
     have lm:jj (45::u) (F5 1) (F5 (u.length+1))=F5 (.str u):=by rw[mP (s:=45::u) (l:=1) (h:=u.length+1) (by lia) (by simp)];simp
     rw[e]
     simp only[go_sem,ya,rO,show ¬(20:Int)<((u.length+1:Nat):Int) by lia,show (0:Int)<((u.length+1:Nat):Int) by lia,Fc,fy,fS,eC,lm,e1,show ¬(9:Int)<(K:Int) by lia,wrap64 (n:=(u.length:Int)-(K:Int)) (by lia) (by lia),show (10:Int)<(u.length:Int)-(K:Int) by lia];rfl
    .rw [e]
     simp only[go_sem,ya,rO,show ¬(20:Int)<(u.length:Nat) by lia,show (0:Int)<(u.length:Nat) by lia,sT DF,zF,show ¬((b:Nat):Int)=45 by lia,e1,show ¬(9:Int)<(K:Int) by lia,wrap64 (n:=(u.length:Int)-(K:Int)) (by lia) (by lia),show (10:Int)<(u.length:Int)-(K:Int) by lia];rfl
   .have e2:=LO BJ (s:=aA n.natAbs) (by lia) (Ba n.natAbs);unfold ah at e2;have hm:=ab6 (n:=n.natAbs) (by lia);by_cases hd:d=1
    .subst hd;have mE:jV 1=[]:=rfl;refine⟨ydo,?_,fun _=>⟨hm,by decide⟩⟩;rw[mE] at hlen;simp only[yI,yZ] at hlen;unfold ah;rw[aG h];rcases FK with ⟨h0,e⟩ | ⟨h0,e⟩
     .have pw:¬20<u.length+1:=by rw[e] at pw;exact pw
      have lm:jj (45::u) (F5 1) (F5 (u.length+1))=F5 (.str u):=by rw[mP (s:=45::u) (l:=1) (h:=u.length+1) (by lia) (by simp)];simp
      rw[e]
      simp only[go_sem,ya,rO,show ¬(20:Int)<((u.length+1:Nat):Int) by lia,show (0:Int)<((u.length+1:Nat):Int) by lia,Fc,fy,fS,eC,lm,e1,show ¬(9:Int)<(K:Int) by lia,wrap64 (n:=(u.length:Int)-(K:Int)) (by lia) (by lia),show ¬(10:Int)<(u.length:Int)-(K:Int) by lia,eQ,e2,show ¬(K:Int)<(u.length:Int) by lia,wrap64 (n:=0-(n.natAbs:Int)) (by lia) (by lia)];rw[show 0-(n.natAbs:Int)=n by lia];rfl
     .rw [e]
      simp only[go_sem,ya,rO,show ¬(20:Int)<(u.length:Nat) by lia,show (0:Int)<(u.length:Nat) by lia,sT DF,zF,show ¬((b:Nat):Int)=45 by lia,fy,fS,eC,e1,show ¬(9:Int)<(K:Int) by lia,wrap64 (n:=(u.length:Int)-(K:Int)) (by lia) (by lia),show ¬(10:Int)<(u.length:Int)-(K:Int) by lia,eQ,e2,show ¬(K:Int)<(u.length:Int) by lia];rw[show (n.natAbs:Int)=n by lia];rfl
    .have mE:jV d=47::aA d:=yp hd;have MQ:(jV d).length=(aA d).length+1:=by rw[mE];rfl
     have hpd:=Bh d;have hd9:=ab6 (n:=d) (by lia);have e3:=LO BJ (s:=aA d) (by lia) (Ba d);unfold ah at e3;have Du:jj u (F5 (K+1)) (F5 u.length)=F5 (.str (aA d)):=by
      rw[mP (by lia) (yx _),xQ,hu,mE,hK,show (aA n.natAbs).length+1=(aA n.natAbs++[47]).length by simp,show aA n.natAbs++47::aA d=(aA n.natAbs++[47])++aA d by simp,List.drop_left]
     refine⟨ydo,?_,fun _=>⟨hm,hd9⟩⟩;unfold ah;rw[aG h];rcases FK with ⟨h0,e⟩ | ⟨h0,e⟩
     .have pw:¬20<u.length+1:=by rw[e] at pw;exact pw
      have lm:jj (45::u) (F5 1) (F5 (u.length+1))=F5 (.str u):=by rw[mP (s:=45::u) (l:=1) (h:=u.length+1) (by lia) (by simp)];simp
      rw[e]
      simp only[go_sem,ya,rO,show ¬(20:Int)<((u.length+1:Nat):Int) by lia,show (0:Int)<((u.length+1:Nat):Int) by lia,Fc,fy,fS,eC,lm,e1,show ¬(9:Int)<(K:Int) by lia,wrap64 (n:=(u.length:Int)-(K:Int)) (by lia) (by lia),show ¬(10:Int)<(u.length:Int)-(K:Int) by lia,eQ,e2,show (K:Int)<(u.length:Int) by lia,wrapN (n:=K+1) (by lia),show (K:Int)+1=((K+1:Nat):Int) from rfl,Du,e3,wrap64 (n:=0-(n.natAbs:Int)) (by lia) (by lia)];rw[show 0-(n.natAbs:Int)=n by lia];rfl
     .rw [e]
      simp only[go_sem,ya,rO,show ¬(20:Int)<(u.length:Nat) by lia,show (0:Int)<(u.length:Nat) by lia,sT DF,zF,show ¬((b:Nat):Int)=45 by lia,fy,fS,eC,e1,show ¬(9:Int)<(K:Int) by lia,wrap64 (n:=(u.length:Int)-(K:Int)) (by lia) (by lia),show ¬(10:Int)<(u.length:Int)-(K:Int) by lia,eQ,e2,show (K:Int)<(u.length:Int) by lia,wrapN (n:=K+1) (by lia),show (K:Int)+1=((K+1:Nat):Int) from rfl,Du,e3];rw[show (n.natAbs:Int)=n by lia];rfl
def Wu(h:Has P L 302 Aw){v:AV}{l:List Int}(hv:bk v l)(i:Nat):ah P L 302 [v,aa i] (aa (l.getD i 0)):=by
 unfold ah;rw[aG h];by_cases hi:i<l.length
 .simp only [go_sem,ya,Aw,hv.len,show (i:Int)<l.length by lia,hv.bj hi];simp[yS,xb hi]
 .simp only [go_sem,ya,Aw,hv.len,show ¬(i:Int)<l.length by lia];simp[yS,List.getElem?_eq_none (Nat.le_of_not_lt hi)]
def adl{hp:Hp}{e:Bool}{n:Nat}{cs:List AV}{tm:Env}{h:Nat}{x:X}(hx:cX tm n (F5 x)=F5 h)(hh:h<=n):
  fI hp (.sl 1) (.ap e n cs) tm F6 (F5 x)=F5 (.ap (e&&yo h n) h (cs.take h)):=by
 simp only[fI,hx,fS];simp[yy hh,slice];rw[show yC 0 h=ydo from yy (tD _)];rfl
def C9(h:Has P L 300 mZ){v:AV}{l:List Int}(hv:bk v l)(hl:l.length<=20000000000):∃r,ah P L 300 [v] r/\bk r (eh l)/\shut r=r:=by
 rcases hv with ⟨rfl,h0⟩ | ⟨e,rfl⟩
 .have:l=[]:=by simpa using h0
  subst this;refine⟨.af,?_,Bg,rfl⟩;unfold ah;rw[aG h];simp only[go_sem,ya,mZ,OZ,EE,az,show ¬(0:Int)<0 by decide]
 .have key:=jO P L [0] EE
   (fun k st=>∃(i:Nat) (e:Bool),st=⟨[(0,.ap e i ((l.take i).map aa))],[],0,0⟩/\i<=l.length/\i=k/\eh (l.take i)=eh l)
   (fun ex st=>∃tm ct,st=⟨tm,[],ct,0⟩/\ex=.exit 0/\∃i e,aj tm 0=.ap e i ((l.take i).map aa)/\i<=l.length/\l.take i=eh l) ?_
  .have hlen:(l.map aa).length=l.length:=by simp
   rw[hlen];have jY:∃i e',ah P L 300 [.ap e l.length (l.map aa)] (.ap e' i ((l.take i).map aa))/\i<=l.length/\l.take i=eh l:=by
    unfold ah;rw[aG h];simp only[go_sem,mZ];generalize hq:D P L (.loop _ EE) _=q;obtain⟨ex,st,rfl,tm,ct,rfl,rfl,i,e',h2,h3,h4⟩:=bQ hq (key l.length) ⟨l.length,e,by simp only[go_sem,ya,az,xQ],yx _,rfl,by rw[xQ]⟩;simp only[go_sem,az,h2];exact⟨i,e',rfl,h3,h4⟩
   have⟨i,e',g1,g2,g3⟩:=jY;refine⟨_,g1,?_,rfl⟩;rw[<-g3]
   have:=lF e' (l.take i)
   rwa[yR,xF g2] at this
  .rintro k st ⟨i,e,rfl,hi,rfl,ht⟩
   cases i with
   | zero=>
    right
    simp only[go_sem,ya,EE,show ¬(0:Int)<((0:Nat):Int) by lia];exact⟨_,_,rfl,by simp,_,_,rfl,rfl,0,e,rfl,tD _,by simpa[eh] using ht⟩
   | succ i=>
    have DG:i<l.length:=by lia
    have fa:l.take (i+1)=l.take i++[l[i]]:=xv DG;have kj:uB i ((l.take (i+1)).map aa)=[AV.int .i64 l[i]]:=by
     rw[fa,xG,tG (by simp;lia)];rfl
    have mb:ik 1 i (.ap e (i+1) ((l.take (i+1)).map aa))=F5 (.bt [AV.int .i64 l[i]]):=by
     rw[OD e _ (by lia),yj,kj]
    by_cases h0:l[i]=0
    .left
     have oY:∀tm x,cX tm (i+1) (F5 x)=F5 i->fI [] (.sl 1) (.ap e (i+1) ((l.take (i+1)).map aa)) tm F6 (F5 x)=F5 (.ap (e&&yo i (i+1)) i ((l.take i).map aa)):=fun tm x hx=>by
      rw[adl hx (by lia),<-yaW,List.take_take,xF (by lia)]
     simp only[go_sem,ya,EE,show (0:Int)<((i+1:Nat):Int) by lia,show ((i+1:Nat):Int)-1=(i:Int) by lia,wrapN (n:=i) (by lia),mb,h0,oY,eC];refine⟨_,i,rfl,by lia,i,_,by simp only[go_sem,az]<;>rfl,by lia,rfl,?_⟩
     rw[<-ht,fa,h0,Jw]
    .right
     simp only[go_sem,ya,EE,show (0:Int)<((i+1:Nat):Int) by lia,show ((i+1:Nat):Int)-1=(i:Int) by lia,wrapN (n:=i) (by lia),mb,h0];refine⟨_,_,rfl,by simp,_,_,rfl,rfl,i+1,e,rfl,by lia,?_⟩;rw[<-ht,fa,NH h0]
section
variable {hp:Hp}{l:List Nat}{n x y:Nat}
def Ax:(2^64)^(n+1)=(2^64)^n*2^64:=xq ..
open Go (IntKind)
abbrev uc(n:Nat):AV:=.int .u64 (n:Int)
def bK(v:AV)(l:List Nat):Prop:=cF v (l.map uc)
section
variable {v:AV}{l:List Nat}
def bK.len(h:bK v l):iM hp 1 v=F5 (.int .i64 (l.length:Nat)):=by
 have:=cF.len (hp:=hp) h
 grind
def bK.pu(h:bK v l):aV v=ydo:=cF.pu h
def bK.ai(h:bK v l)(n:Nat):freeze (n+1) hp v=F5 (v,hp):=cF.ai h n
def bK.shut(h:bK v l):VE.shut v=v:=cF.shut h
def bK.bJ(h:bK v l):VE.bJ v=v:=cF.bJ h
def bK.dX(h:bK v l):result hp v=F5 v:=cF.dX h
def bK.one(h:bK v l):db v=ydo:=cF.one h
def bK.bj(h:bK v l){i:Nat}(hi:i<l.length):ik 1 i v=F5 (.bt (uc (l.getD i 0)::(l.map uc).drop (i+1))):=by
 have:=cF.bj h (i:=i) (by simpa using hi)
 grind
def oF(e:Bool)(l:List Nat):bK (.ap e l.length (l.map uc)) l:=by
 have:=Gp e (l.map uc)
 rwa[xi] at this
def zX:bK .af []:=Bg
end
def me{ct id o:Nat}{v:Nat}{ex:Bool}(h:o<l.length):gO hp ct id o 1 [.int .u64 (v:Int)] (F5 (.cells ydo ydo ex 1 (l.map uc)))=F5 (.aw [],aU hp id (.cells ydo ydo ex 1 ((l.set o v).map uc)),ct):=by
 rw[Am (by rfl) (by simp;lia) (by rfl)]
 have:over o [uc v] (l.map uc)=(l.set o v).map uc:=by
  simp only[over,yv,yI,yd];rw[List.map_set,uC,yz (by simpa using h)]
  simp
 rw[this];rfl
def Bw{o:Nat}(h:o<l.length):uB o (l.map uc)=uc (l.getD o 0)::uB (o+1) (l.map uc):=by
 rw[yW (by simpa using h)]
 grind
def arJ(n:Nat):(yE n [AV.int .u64 0]).flatten=(yE n 0).map uc:=by simp_all
def Ff(ct:Nat)(h:n<=100000000000):BI ct 1 8 [.int .u64 0] (F5 n) (F5 n)=F5 (.ay ct 0 n,.cells ydo ydo ydo 1 ((yE n 0).map uc)):=by
 rw[KH (sz:=1) (by lia) (by lia) (by rfl) (by rfl),arJ];rfl
def Da(hp:Hp)(h:l.length=n)(ex:Bool):nc 0 n (F5 (ex,1,l.map uc,hp))=F5 (.ap ex n (l.map uc),hp):=kG ex (by simp[h]) (by decide)
def afy(h:n<2^64):IntKind.wrap .u64 (n:Int)=n:=axT (by lia) (by lia)
section
variable {P:aF}{L:Lib}{f:cu}
def mv{a b:Nat}(h:a<b):yM a b=ydo:=by simp_all
def EI(h:L.pure 171=F5 pY){c:Nat}(hx:x<2^64)(hy:y<2^64)(hc:c<=1):
  bW P L f 171 [uc x,uc y,uc c]=F5 (.aw [uc ((x+y+c)%2^64),uc ((x+y+c)/2^64)]):=by
 rw[kH h];show (bif yC c 1&&(yM x (2^64)&&yM y (2^64)) then _ else F6)=_
 rw[yy hc,mv hx,mv hy];rfl
def UW(h:L.pure 173=F5 CC){c:Nat}(hx:x<2^64)(hy:y<2^64)(hc:c<=1):
  bW P L f 173 [uc x,uc y,uc c]=F5 (.aw [uc ((x+2^64*2-y-c)%2^64),uc (if y+c<=x then 0 else 1)]):=by
 rw[kH h];show (bif yC c 1&&(yM x (2^64)&&yM y (2^64)) then _ else F6)=_
 rw[yy hc,mv hx,mv hy];by_cases hh:y+c<=x
 .rw [yy hh,yz hh];rfl
 .have:yC (y+c) x=ydp:=by
   cases hq:yC (y+c) x with
   | false=>rfl
   | true=>exact absurd (yt hq) hh
  grind
def O1(h:L.pure 143=F5 Aa)(hx:x<2^64)(hy:y<2^64):
  bW P L f 143 [uc x,uc y]=F5 (.aw [uc (x*y/2^64),uc (x*y%2^64)]):=by
 rw[kH h];show (bif yM x (2^64)&&yM y (2^64) then _ else F6)=_
 rw[mv hx,mv hy];rfl
def apk{tm:Env}{x:X}(hx:cX tm 0 (F5 x)=F5 0):fI hp (.sl 1) .af tm F6 (F5 x)=F5 .af:=by
 simp only[fI,hx,fS]
def Db(h:Has P L 166 C3){v:AV}(hv:bK v l)(hl:l.length<=100000000000):∃r,ah P L 166 [v] r/\bK r (ej l):=by
 rcases hv with ⟨rfl,h0⟩ | ⟨e,rfl⟩
 .have:l=[]:=by simpa using h0
  subst this;refine⟨.af,?_,Bg⟩;unfold ah;rw[aG h];simp only[go_sem,ya,C3,OZ,EB,az,show ¬(0:Int)<0 by decide,apk,eC]
 .have key:=jO P L [0,3] EB
   (fun k st=>∃(i:Nat),st=⟨[(0,.ap e l.length (l.map uc)),(3,aa i)],[],0,0⟩/\i<=l.length/\i=k/\ej (l.take i)=ej l)
   (fun ex st=>∃tm ct,st=⟨tm,[],ct,0⟩/\ex=.exit 0/\∃i:Nat,aj tm 0=.ap e l.length (l.map uc)/\aj tm 3=aa i/\i<=l.length/\l.take i=ej l) ?_
  .have hlen:(l.map uc).length=l.length:=by simp
   rw[hlen];have jY:∃i e',ah P L 166 [.ap e l.length (l.map uc)] (.ap e' i ((l.take i).map uc))/\i<=l.length/\l.take i=ej l:=by
    unfold ah;rw[aG h];simp only[go_sem,ya,C3];generalize hq:D P L (.loop _ EB) _=q;obtain⟨ex,st,rfl,tm,ct,rfl,rfl,i,h2,h3,h4,h5⟩:=bQ hq (key l.length) ⟨l.length,by simp only[go_sem,ya,az],yx _,rfl,by rw[xQ]⟩;have oY:∀tm x,cX tm l.length (F5 x)=F5 i->fI [] (.sl 1) (.ap e l.length (l.map uc)) tm F6 (F5 x)=F5 (.ap (e&&yo i l.length) i ((l.map uc).take i)):=fun tm x hx=>adl hx h4
    simp only[go_sem,ya,az,h2,h3,oY,eC];exact⟨i,_,by rw[yaW],h4,h5⟩
   have⟨i,e',g1,g2,g3⟩:=jY;refine⟨_,g1,?_⟩;rw[<-g3]
   have:=oF e' (l.take i)
   rwa[yR,xF g2] at this
  .rintro k st ⟨i,rfl,hi,rfl,ht⟩
   cases i with
   | zero=>
    right
    simp only[go_sem,ya,EB,show ¬(0:Int)<((0:Nat):Int) by lia];exact⟨_,_,rfl,by simp,_,_,rfl,rfl,0,rfl,rfl,tD _,by simpa[ej] using ht⟩
   | succ i=>
    have DG:i<l.length:=by lia
    have fa:l.take (i+1)=l.take i++[l[i]]:=xv DG;have mb:=(oF e l).bj DG;rw[<-gd DG] at mb;by_cases h0:l[i]=0
    .left
     simp only[go_sem,ya,EB,show (0:Int)<((i+1:Nat):Int) by lia,show ((i+1:Nat):Int)-1=(i:Int) by lia,wrapN (n:=i) (by lia),mb,show ((l[i]:Nat):Int)=0 by lia];refine⟨_,i,rfl,by lia,i,by simp only[go_sem,ya,az],by lia,rfl,?_⟩;rw[<-ht,fa,h0,NI]
    .right
     simp only[go_sem,ya,EB,show (0:Int)<((i+1:Nat):Int) by lia,show ((i+1:Nat):Int)-1=(i:Int) by lia,wrapN (n:=i) (by lia),mb,show ¬((l[i]:Nat):Int)=0 by lia];refine⟨_,_,rfl,by simp,_,_,rfl,rfl,i+1,rfl,rfl,by lia,?_⟩;rw[<-ht,fa,Ga h0]
end
end
section
variable {v w:AV}{out x y:List Nat}
def NK(p b s:Nat):p*(s%b)+p*b*(s/b)=p*s:=by
 rw[xm,<-xL,tq]
def anb{b:Nat}{i c:Nat}(hi:i<out.length)(hz:out.getD i 0=0)(hv:bv b out+b^i*c=bv b (x.take i)+bv b (y.take i)):
  bv b (out.set i ((x.getD i 0+y.getD i 0+c)%b))+b^(i+1)*((x.getD i 0+y.getD i 0+c)/b)=bv b (x.take (i+1))+bv b (y.take (i+1)):=by
 have h1:=p6 (b:=b) (x:=(x.getD i 0+y.getD i 0+c)%b) hi;have h2:=NK (b^i) b (x.getD i 0+y.getD i 0+c);rw[hz,xH,yZ] at h1;rw[kI,kI,xq,h1]
 grind
def anc{b:Nat}{i c z c':Nat}(hi:i<out.length)(hz:out.getD i 0=0)(hs:z+y.getD i 0+c=x.getD i 0+b*c')(hv:bv b out+bv b (y.take i)=bv b (x.take i)+b^i*c):
  bv b (out.set i z)+bv b (y.take (i+1))=bv b (x.take (i+1))+b^(i+1)*c':=by
 have h1:=p6 (b:=b) (x:=z) hi;rw[hz,xH,yZ] at h1;rw[kI,kI,xq,h1]
 grind
def agJ(h:Has P L 158 Hf)(hv:bK v x)(hw:bK w y)(hx:lo (2^64) x)(hy:lo (2^64) y)(nx:iD x)(ny:iD y)(lx:x.length<=100000000000)(ly:y.length<=100000000000):
  ah P L 158 [v,w] (aa (dW (bv (2^64) x) (bv (2^64) y))):=by
 unfold ah;rw[aG h];by_cases hlen:x.length=y.length
 .have key:=jO P L [0,1,5] EA
   (fun k st=>∃j:Nat,st=⟨[(0,v),(1,w),(5,aa ((j:Int)-1))],[],0,0⟩/\j<=x.length/\j=k/\x.drop j=y.drop j)
   (fun ex st=>∃tm ct,st=⟨tm,[],ct,0⟩/\((ex=.ret/\aj tm 4=aa (dW (bv (2^64) x) (bv (2^64) y)))\/(ex=.exit 0/\x=y))) ?_
  .simp only [go_sem,ya,Hf,hv.len,hw.len,show (x.length:Int)=y.length by lia];generalize hq:D P L (.loop _ EA) _=q;obtain⟨ex,st,rfl,tm,ct,rfl,h2⟩:=bQ hq (key x.length) ⟨x.length,by
    rw[wrap64 (by lia) (by lia),hlen]
    simp only[go_sem,ya,az,av hv.pu,av hw.pu]<;>rfl,yx _,rfl,by rw[xh (yx _),xh (by lia)]⟩
   rcases h2 with ⟨rfl,h2⟩ | ⟨rfl,h2⟩
   .simp only [go_sem,h2]
   .simp only [go_sem,az];subst h2;simp[dW]
  .rintro k st ⟨j,rfl,hj,rfl,he⟩
   cases j with
   | zero=>
    right
    simp only[go_sem,ya,EA,show ¬(0:Int)<=((0:Nat):Int)-1 by lia];exact⟨_,_,rfl,by simp,_,_,rfl,.inr ⟨rfl,by simpa using he⟩⟩
   | succ i=>
    have h1:i<x.length:=by lia
    have h2:i<y.length:=by lia
    have Dy:=ac9 hx h1 h2 he;have aM:=ac9 hy h2 h1 he.symm;by_cases c0:x.getD i 0=y.getD i 0
    .left
     simp only[go_sem,ya,EA,show ((i+1:Nat):Int)-1=(i:Int) by lia,show (0:Int)<=(i:Int) by lia,hv.bj h1,hw.bj h2,c0];refine⟨_,i,rfl,by lia,i,?_,by lia,rfl,?_⟩
     .rw [wrap64 (by lia) (by lia)];simp only[go_sem,ya,az,av hv.pu,av hw.pu]<;>rfl
     .rw [yW h1,yW h2,he,gd h1,gd h2,c0]
    .by_cases c1:x.getD i 0<y.getD i 0
     .right
      simp only[go_sem,ya,EA,show ((i+1:Nat):Int)-1=(i:Int) by lia,show (0:Int)<=(i:Int) by lia,hv.bj h1,hw.bj h2,show ¬((x.getD i 0:Nat):Int)=(y.getD i 0:Nat) by lia,show ((x.getD i 0:Nat):Int)<(y.getD i 0:Nat) by lia];refine⟨_,_,rfl,by simp,_,_,rfl,.inl ⟨rfl,?_⟩⟩;simp only[go_sem];unfold dW;rw[yz (Dy c1)]
     .right
      simp only[go_sem,ya,EA,show ((i+1:Nat):Int)-1=(i:Int) by lia,show (0:Int)<=(i:Int) by lia,hv.bj h1,hw.bj h2,show ¬((x.getD i 0:Nat):Int)=(y.getD i 0:Nat) by lia,show ¬((x.getD i 0:Nat):Int)<(y.getD i 0:Nat) by lia];refine⟨_,_,rfl,by simp,_,_,rfl,.inl ⟨rfl,?_⟩⟩;simp only[go_sem];unfold dW;rw[yp (by lia),yz (by lia)]
 .by_cases c1:x.length<y.length
  .have:=OB (b:=2^64) (by decide) hx ny c1
   simp only[go_sem,ya,Hf,hv.len,hw.len,show ¬(x.length:Int)=y.length by lia,show (x.length:Int)<y.length by lia];unfold dW;rw[yz this]
  .have:=OB (b:=2^64) (by decide) hy nx (show y.length<x.length by lia)
   simp only[go_sem,ya,Hf,hv.len,hw.len,show ¬(x.length:Int)=y.length by lia,show ¬(x.length:Int)<y.length by lia];unfold dW;rw[yp (by lia),yz this]
def ad7(iz:L.pure 171=F5 pY)(hv:bK v x)(hw:bK w y)(hx:lo (2^64) x)(hy:lo (2^64) y)(lx:x.length<=99999999999)(ly:y.length<=x.length){n:Nat}(hn:n=x.length+1):
  ew P L [0,1,5,6,21,22] Ez (fun k s=>∃(i c:Nat) (out:List Nat),s=⟨[(0,v),(1,w),(5,.ay 0 0 n),(6,uc c),(21,aa x.length),(22,aa i)],[(0,.cells ydo ydo ydo 1 (out.map uc))],1,0⟩/\i+k=x.length/\out.length=n/\c<=1/\lo (2^64) out/\
    bv (2^64) out+(2^64)^i*c=bv (2^64) (x.take i)+bv (2^64) (y.take i)/\(∀m,i<=m->out.getD m 0=0)) (fun ex s'=>∃tm c out,s'=⟨tm,[(0,.cells ydo ydo ydo 1 (out.map uc))],1,0⟩/\ex=.exit 0/\aj tm 0=v/\aj tm 5=.ay 0 0 n/\aj tm 6=uc c/\out.length=n/\c<=1/\lo (2^64) out/\
    bv (2^64) out+(2^64)^x.length*c=bv (2^64) x+bv (2^64) y/\out.getD x.length 0=0):=by
 apply eE;rintro k s ⟨i,c,out,rfl,hk,hlen,hc,aZ,aP,eW⟩;by_cases hi:i<x.length
 .left
  have hz:=eW i (yx _);have mw:=anb (x:=x) (y:=y) (show i<out.length by lia) hz aP;have gx:=iL (show 0<2^64 by decide) hx i;have gy:=iL (show 0<2^64 by decide) hy i;have e1:=EI (P:=P) (f:=D P L) iz gx gy hc;have ex:=hv.bj hi;generalize x.getD i 0=p at*
  by_cases hj:i<y.length
  .have ey:=hw.bj hj;generalize y.getD i 0=q at*
   simp only[go_sem,ya,yj,Ez,hw.len,show (i:Int)<x.length by lia,show (i:Int)<y.length by lia,ex,ey,e1,dd 0 0 (show i<n by lia),yd,me (l:=out) (o:=i) (by lia)]
   refine⟨_,k-1,rfl,by lia,i+1,(p+q+c)/2^64,_,?_,by lia,by simp[hlen],by lia,nN aZ (x:=(p+q+c)%2^64) (i:=i) (by lia),mw,fun m hm=>?_⟩
   .rw [wrap64 (by lia) (by lia)];simp only[go_sem,ya,yb,az,av hv.pu,av hw.pu]<;>rfl
   .rw [rB (by lia)];exact eW m (by lia)
  .have fX:y.getD i 0=0:=UQ (by lia);rw[fX] at mw e1;rw[show (uc 0)=AV.int .u64 0 from rfl] at e1
   simp only[go_sem,ya,yj,Ez,hw.len,show (i:Int)<x.length by lia,show ¬(i:Int)<y.length by lia,ex,e1,dd 0 0 (show i<n by lia),yd,me (l:=out) (o:=i) (by lia)]
   refine⟨_,k-1,rfl,by lia,i+1,(p+0+c)/2^64,_,?_,by lia,by simp[hlen],by lia,nN aZ (x:=(p+0+c)%2^64) (i:=i) (by lia),mw,fun m hm=>?_⟩
   .rw [wrap64 (by lia) (by lia)];simp only[go_sem,ya,yb,az,av hv.pu,av hw.pu]<;>rfl
   .rw [rB (by lia)];exact eW m (by lia)
 .right
  have:i=x.length:=by lia
  subst this;rw[xQ,yK ly] at aP;simp only[go_sem,ya,Ez,show ¬(x.length:Int)<x.length by lia];exact⟨_,_,rfl,by simp,_,c,out,rfl,rfl,rfl,rfl,rfl,hlen,hc,aZ,aP,eW _ (yx _)⟩
def azx(h:Has P L 157 Lk)(nY:Has P L 166 C3)(iz:L.pure 171=F5 pY)(hv:bK v x)(hw:bK w y)(hx:lo (2^64) x)(hy:lo (2^64) y)(lx:x.length<=99999999999)(ly:y.length<=99999999999):
  ∃r out,ah P L 157 [v,w] r/\bK r out/\lo (2^64) out/\iD out/\bv (2^64) out=bv (2^64) x+bv (2^64) y:=by
 have fin:∀{x y o:List Nat} {n c:Nat},n=x.length+1->x.length<=99999999999->o.length=n->c<=1->lo (2^64) o->bv (2^64) o+(2^64)^x.length*c=bv (2^64) x+bv (2^64) y->o.getD x.length 0=0->
   ∃r,bW P L (D P L) 166 [.ap ydo n ((o.set x.length c).map uc)]=F5 r/\bK r (ej (o.set x.length c))/\lo (2^64) (ej (o.set x.length c))/\iD (ej (o.set x.length c))/\bv (2^64) (ej (o.set x.length c))=bv (2^64) x+bv (2^64) y:=by
  intro x y o n c hn lx hlen hc aZ aP hz;have aU:=p6 (b:=2^64) (l:=o) (i:=x.length) (x:=c) (by lia);rw[hz,xH,yZ,aP] at aU;have azy:lo (2^64) (o.set x.length c):=nN aZ (by lia);have hf:=oF ydo (o.set x.length c);rw[List.length_set,hlen] at hf;have⟨r,e1,hr⟩:=Db nY hf (by simp;lia)
  exact⟨r,e1,hr,Cu azy,Ct _,by rw[Cs];exact aU⟩
 by_cases hl:x.length<y.length
 .obtain ⟨n,hn⟩:∃n,n=y.length+1:=⟨_,rfl⟩;unfold ah;rw[aG h]
  simp only[go_sem,ya,yb,Lk,hv.len,hw.len,show (x.length:Int)<y.length by lia,wrapN (n:=n) (by lia),show (y.length:Int)+1=((y.length+1:Nat):Int) from rfl,<-hn,Ff (n:=n) _ (by lia)];generalize hq:D P L (.loop _ Ez) _=q;obtain⟨ex,s,rfl,tm,c,o,rfl,rfl,t0,t5,t6,hlen,hc,aZ,aP,hz⟩:=bQ hq (ad7 (P:=P) (L:=L) iz hw hv hy hx ly (by lia) hn y.length)
   ⟨0,0,yE n 0,by simp only[go_sem,ya,yb,az,av hv.pu,av hw.pu]<;>rfl,by lia,by simp,by lia,GN (by decide) n,by rw[GO];simp[bv],fun m _=>Em n m⟩
  have⟨r,e1,hr,f1,f2,f3⟩:=fin hn ly hlen hc aZ aP hz;refine⟨r,_,?_,hr,f1,f2,by rw[f3];lia⟩
  simp only[go_sem,ya,yj,az,av hw.pu,hw.len,t0,t5,t6,dd 0 0 (show y.length<n by lia),yd,me (l:=o) (o:=y.length) (by lia)]
  simp only[go_sem,Da _ (n:=n) (l:=o.set y.length c) (by simp[hlen]) ydo,e1,hr.shut,hr.dX]
 .obtain ⟨n,hn⟩:∃n,n=x.length+1:=⟨_,rfl⟩;unfold ah;rw[aG h]
  simp only[go_sem,ya,yb,Lk,hv.len,hw.len,show ¬(x.length:Int)<y.length by lia,wrapN (n:=n) (by lia),show (x.length:Int)+1=((x.length+1:Nat):Int) from rfl,<-hn,Ff (n:=n) _ (by lia)];generalize hq:D P L (.loop _ Ez) _=q;obtain⟨ex,s,rfl,tm,c,o,rfl,rfl,t0,t5,t6,hlen,hc,aZ,aP,hz⟩:=bQ hq (ad7 (P:=P) (L:=L) iz hv hw hx hy lx (by lia) hn x.length)
   ⟨0,0,yE n 0,by simp only[go_sem,ya,yb,az,av hv.pu,av hw.pu]<;>rfl,by lia,by simp,by lia,GN (by decide) n,by rw[GO];simp[bv],fun m _=>Em n m⟩
  have⟨r,e1,hr,f1,f2,f3⟩:=fin hn lx hlen hc aZ aP hz;refine⟨r,_,?_,hr,f1,f2,f3⟩
  simp only[go_sem,ya,yj,az,av hv.pu,hv.len,t0,t5,t6,dd 0 0 (show x.length<n by lia),yd,me (l:=o) (o:=x.length) (by lia)]
  simp only[go_sem,Da _ (n:=n) (l:=o.set x.length c) (by simp[hlen]) ydo,e1,hr.shut,hr.dX]
end
section
variable {v w:AV}{x y:List Nat}{c n:Nat}
def ane{b:Nat}{out:List Nat}{p j t o x y Y bo ba:Nat}(ho:o=out.getD j 0)(hj:j<out.length)(ht:t=o+x*y+c)(hv:bo+p*c=ba+p*(x*Y))(hb:bo=bv b out)(hp:p=b^j):
  bv b (out.set j (t%b))+p*b*(t/b)=ba+p*(x*(Y+0))+p*(x*y):=by
 have h1:=p6 (b:=b) (x:=t%b) hj;have h2:=NK p b t
 grind
def TX{x y:Nat}(hx:x<2^64)(hy:y<2^64)(hc:c<=1):
  (x+2^64*2-y-c)%2^64+y+c=x+2^64*(if y+c<=x then 0 else 1):=by grind
def avc(Ay:L.pure 173=F5 CC)(hv:bK v x)(hw:bK w y)(hx:lo (2^64) x)(hy:lo (2^64) y)(lx:x.length<=99999999999)(ly:y.length<=x.length)(hle:bv (2^64) y<=bv (2^64) x)(hn:n=x.length):
  ew P L [0,1,5,6,13,14] GB (fun k s=>∃(i c:Nat) (out:List Nat),s=⟨[(0,v),(1,w),(5,.ay 0 0 n),(6,uc c),(13,aa x.length),(14,aa i)],[(0,.cells ydo ydo ydo 1 (out.map uc))],1,0⟩/\i+k=x.length/\out.length=n/\c<=1/\lo (2^64) out/\
    bv (2^64) out+bv (2^64) (y.take i)=bv (2^64) (x.take i)+(2^64)^i*c/\(∀m,i<=m->out.getD m 0=0)) (fun ex s'=>∃tm out,s'=⟨tm,[(0,.cells ydo ydo ydo 1 (out.map uc))],1,0⟩/\ex=.exit 0/\aj tm 5=.ay 0 0 n/\out.length=n/\lo (2^64) out/\
    bv (2^64) out+bv (2^64) y=bv (2^64) x):=by
 apply eE;rintro k s ⟨i,c,out,rfl,hk,hlen,hc,aZ,aP,eW⟩;by_cases hi:i<x.length
 .left
  have hz:=eW i (yx _);have gx:=iL (show 0<2^64 by decide) hx i;have gy:=iL (show 0<2^64 by decide) hy i;have RJ:=TX gx gy hc;have mw:=anc (x:=x) (y:=y) (show i<out.length by lia) hz RJ aP;have e1:=UW (P:=P) (f:=D P L) Ay gx gy hc;have ex:=hv.bj hi;generalize x.getD i 0=p at*
  have kS:(if y.getD i 0+c<=p then 0 else 1)<=1:=by split<;>lia
  by_cases hj:i<y.length
  .have ey:=hw.bj hj;generalize y.getD i 0=q at*
   generalize (if q+c<=p then 0 else 1)=c1 at*
   simp only[go_sem,ya,xk,yj,GB,hw.len,show (i:Int)<x.length by lia,show (i:Int)<y.length by lia,ex,ey,e1,dd 0 0 (show i<n by lia),yd,me (l:=out) (o:=i) (by lia)]
   refine⟨_,k-1,rfl,by lia,i+1,c1,_,?_,by lia,by simp[hlen],kS,nN aZ (x:=(p+2^64*2-q-c)%2^64) (i:=i) (by lia),mw,fun m hm=>?_⟩
   .rw [wrap64 (by lia) (by lia)];simp only[go_sem,ya,yb,xk,az,av hv.pu,av hw.pu]<;>rfl
   .rw [rB (by lia)];exact eW m (by lia)
  .have fX:y.getD i 0=0:=UQ (by lia);rw[fX] at mw e1 kS;rw[show (uc 0)=AV.int .u64 0 from rfl] at e1;generalize (if 0+c<=p then 0 else 1)=c1 at*
   simp only[go_sem,ya,xk,yj,GB,hw.len,show (i:Int)<x.length by lia,show ¬(i:Int)<y.length by lia,ex,e1,dd 0 0 (show i<n by lia),yd,me (l:=out) (o:=i) (by lia)]
   refine⟨_,k-1,rfl,by lia,i+1,c1,_,?_,by lia,by simp[hlen],kS,nN aZ (x:=(p+2^64*2-0-c)%2^64) (i:=i) (by lia),mw,fun m hm=>?_⟩
   .rw [wrap64 (by lia) (by lia)];simp only[go_sem,ya,yb,xk,az,av hv.pu,av hw.pu]<;>rfl
   .rw [rB (by lia)];exact eW m (by lia)
 .right
  have:i=x.length:=by lia
  subst this;rw[xQ,yK ly] at aP;have aM:=nR aZ;rw[hlen,hn] at aM;simp only[go_sem,ya,GB,show ¬(x.length:Int)<x.length by lia];refine⟨_,_,rfl,by simp,_,out,rfl,rfl,rfl,hlen,aZ,?_⟩;rcases (show c=0\/c=1 by lia) with rfl | rfl
  .lia
  .lia
def agK(h:Has P L 159 P4)(nY:Has P L 166 C3)(Ay:L.pure 173=F5 CC)(hv:bK v x)(hw:bK w y)(hx:lo (2^64) x)(hy:lo (2^64) y)(ny:iD y)(lx:x.length<=99999999999)(hle:bv (2^64) y<=bv (2^64) x):
  ∃r out,ah P L 159 [v,w] r/\bK r out/\lo (2^64) out/\iD out/\bv (2^64) out+bv (2^64) y=bv (2^64) x:=by
 have ly:y.length<=x.length:=by
  by_cases hh:x.length<y.length
  .have:=OB (b:=2^64) (by decide) hx ny hh
   lia
  .lia
 obtain⟨n,hn⟩:∃n,n=x.length:=⟨_,rfl⟩;unfold ah;rw[aG h]
 simp only[go_sem,ya,yb,P4,hv.len,<-hn,Ff (n:=n) _ (by lia)];generalize hq:D P L (.loop _ GB) _=q;obtain⟨ex,s,rfl,tm,o,rfl,rfl,t5,hlen,aZ,aP⟩:=bQ hq (avc (P:=P) (L:=L) Ay hv hw hx hy lx ly hle hn x.length)
  ⟨0,0,yE n 0,by rw[hn];simp only[go_sem,ya,yb,az,av hv.pu,av hw.pu]<;>rfl,by lia,by simp,by lia,GN (by decide) n,by rw[GO];simp[bv],fun m _=>Em n m⟩
 have hf:=oF ydo o;rw[hlen] at hf;have⟨r,e1,hr⟩:=Db nY hf (by lia);refine⟨r,_,?_,hr,Cu aZ,Ct _,by rw[Cs];exact aP⟩
 simp only[go_sem,yb,az,t5,Da _ (n:=n) (l:=o) hlen ydo,e1,hr.shut,hr.dX]
def apl{x y o:Nat}(hx:x<2^64)(hy:y<2^64)(ho:o<2^64)(hc:c<2^64):
  o+x*y+c<2^64*2^64/\
  ((x*y%2^64+o+0)%2^64+c+0)%2^64=(o+x*y+c)%2^64/\
  x*y/2^64+(x*y%2^64+o+0)/2^64+((x*y%2^64+o+0)%2^64+c+0)/2^64=(o+x*y+c)/2^64:=by
 have h1:=xC (show x<=18446744073709551615 by lia) (show y<=18446744073709551615 by lia)
 grind
def avd(nZ:L.pure 143=F5 Aa)(iz:L.pure 171=F5 pY)(hv:bK v x)(hw:bK w y)(hx:lo (2^64) x)(hy:lo (2^64) y)(lx:x.length<=49999999999)(ly:y.length<=49999999999){i:Nat}(hn:n=x.length+y.length)(hi:i<x.length){a:Nat}(ha:a<2^64){bo:Nat}:
  ew P L [1,5,6,7,8,20,21,22,27,28,29] Kn (fun k s=>∃(j c:Nat) (out:List Nat),s=⟨[(1,w),(5,.ay 0 0 n),(6,aa i),(7,uc a),(8,uc c),(20,v),(21,aa x.length),(22,aa i),(27,w),(28,aa y.length),(29,aa j)],[(0,.cells ydo ydo ydo 1 (out.map uc))],1,0⟩/\j+k=y.length/\out.length=n/\c<2^64/\lo (2^64) out/\
    bv (2^64) out+(2^64)^(i+j)*c=bo+(2^64)^i*(a*bv (2^64) (y.take j))/\(∀m,i+y.length<=m->out.getD m 0=0)) (fun ex s'=>∃tm c out,s'=⟨tm,[(0,.cells ydo ydo ydo 1 (out.map uc))],1,0⟩/\ex=.exit 2/\aj tm 1=w/\aj tm 5=.ay 0 0 n/\aj tm 6=aa i/\aj tm 8=uc c/\aj tm 20=v/\aj tm 21=aa x.length/\aj tm 22=aa i/\out.length=n/\c<2^64/\lo (2^64) out/\
    bv (2^64) out+(2^64)^(i+y.length)*c=bo+(2^64)^i*(a*bv (2^64) y)/\(∀m,i+y.length<=m->out.getD m 0=0)):=by
 apply eE;rintro k s ⟨j,c,out,rfl,hk,hlen,hc,aZ,aP,eW⟩;by_cases hj:j<y.length
 .left
  have AQ:(0:Nat)<2^64:=by decide
  have gy:=iL AQ hy j;have pC:=iL AQ aZ (i+j);have ey:=hw.bj hj;have e3:=Bw (l:=out) (o:=i+j) (by lia);obtain⟨q,hq⟩:∃q,q=y.getD j 0:=⟨_,rfl⟩;obtain⟨o,ho⟩:∃o,o=out.getD (i+j) 0:=⟨_,rfl⟩;rw[<-hq] at gy ey;rw[<-ho] at pC e3;have⟨m1,m2,m3⟩:=apl ha gy pC hc;have Ye:a*q<2^64*2^64:=by lia
  have f1:=O1 (P:=P) (f:=D P L) nZ ha gy;have f2:=EI (P:=P) (f:=D P L) iz (x:=a*q%2^64) (y:=o) (c:=0) (xD _ AQ) pC (by lia);have f3:=EI (P:=P) (f:=D P L) iz (x:=(a*q%2^64+o+0)%2^64) (y:=c) (c:=0) (xD _ AQ) hc (by lia);obtain⟨t,ht⟩:∃t,t=o+a*q+c:=⟨_,rfl⟩;have mw:=ane (b:=2^64) (out:=out) (p:=(2^64)^(i+j)) (j:=i+j) (c:=c) (t:=t) (x:=a) (y:=q) (Y:=0) (ba:=bo+(2^64)^i*(a*bv (2^64) (y.take j))) ho (by lia) ht (by simpa using aP) rfl rfl;rw[m2,<-ht] at f3;rw[<-ht] at m1 m3;obtain⟨d1,so⟩:∃d,d=(a*q%2^64+o+0)/2^64:=⟨_,rfl⟩;obtain⟨d2,jJ⟩:∃d,d=((a*q%2^64+o+0)%2^64+c+0)/2^64:=⟨_,rfl⟩;rw[<-so] at f2 m3;rw[<-jJ] at f3 m3;rw[show (uc 0)=AV.int .u64 0 from rfl] at f2 f3;obtain⟨h1,iX⟩:∃d,d=a*q/2^64:=⟨_,rfl⟩;rw[<-iX] at f1 m3;have pk:h1+d1<2^64:=by lia
  have po:h1+d1+d2<2^64:=by lia
  simp only[go_sem,ya,yj,Kn,show (j:Int)<y.length by lia,ey,f1,wrapN (n:=i+j) (by lia),show (i:Int)+(j:Int)=((i+j:Nat):Int) from rfl,dd 0 0 (show i+j<n by lia),yd,e3,f2,f3,show (h1:Int)+(d1:Int)=((h1+d1:Nat):Int) from rfl,afy pk,show ((h1+d1:Nat):Int)+(d2:Int)=((h1+d1+d2:Nat):Int) from rfl,afy po,me (l:=out) (o:=i+j) (by lia)]
  refine⟨_,k-1,rfl,by lia,j+1,h1+d1+d2,_,?_,by lia,by simp[hlen],po,nN aZ (x:=t%2^64) (i:=i+j) (xD _ AQ),?_,fun m hm=>?_⟩
  .rw [wrap64 (by lia) (by lia)];simp only[go_sem,ya,yb,az,av hv.pu,av hw.pu]<;>rfl
  .rw [m3,show i+(j+1)=i+j+1 by lia,Ax,kI,<-hq,xL a,xL ((2^64)^i)];simp only[xH,yZ] at mw;rw[mw,xM,<-Nat.add_assoc,xm ((2^64)^i),<-xm a,xA a ((2^64)^j),xm]
  .rw [rB (by lia)];exact eW m hm
 .right
  have:j=y.length:=by lia
  subst this;rw[xQ] at aP;simp only[go_sem,ya,Kn,show ¬(y.length:Int)<y.length by lia];exact⟨_,_,rfl,by simp,_,c,out,rfl,rfl,rfl,rfl,rfl,rfl,rfl,rfl,rfl,hlen,hc,aZ,aP,eW⟩
def ave(nZ:L.pure 143=F5 Aa)(iz:L.pure 171=F5 pY)(hv:bK v x)(hw:bK w y)(hx:lo (2^64) x)(hy:lo (2^64) y)(lx:x.length<=49999999999)(ly:y.length<=49999999999)(hn:n=x.length+y.length):
  ew P L [1,5,20,21,22] Ko (fun k s=>∃(i:Nat) (out:List Nat),s=⟨[(1,w),(5,.ay 0 0 n),(20,v),(21,aa x.length),(22,aa i)],[(0,.cells ydo ydo ydo 1 (out.map uc))],1,0⟩/\i+k=x.length/\out.length=n/\lo (2^64) out/\
    bv (2^64) out=bv (2^64) (x.take i)*bv (2^64) y/\(∀m,i+y.length<=m->out.getD m 0=0)) (fun ex s'=>∃tm out,s'=⟨tm,[(0,.cells ydo ydo ydo 1 (out.map uc))],1,0⟩/\ex=.exit 0/\aj tm 5=.ay 0 0 n/\out.length=n/\lo (2^64) out/\
    bv (2^64) out=bv (2^64) x*bv (2^64) y):=by
 apply eE;rintro k s ⟨i,out,rfl,hk,hlen,aZ,aP,eW⟩;by_cases hi:i<x.length
 .left
  have gx:=iL (show 0<2^64 by decide) hx i;have ex:=hv.bj hi;obtain⟨a,ha⟩:∃a,a=x.getD i 0:=⟨_,rfl⟩;simp only[go_sem,ya,Ko,hw.len,show (i:Int)<x.length by lia,ex];generalize hq:D P L (.loop _ Kn) _=q;obtain⟨ex,s,rfl,tm,c,Az,rfl,rfl,t1,t5,t6,t8,t20,t21,t22,Vx,hc,azz,Vy,LP⟩:=bQ hq (avd (P:=P) (L:=L) nZ iz hv hw hx hy lx ly hn hi gx (bo:=bv (2^64) out) y.length)
   ⟨0,0,out,by simp only[go_sem,ya,yb,az,av hv.pu,av hw.pu]<;>rfl,by lia,hlen,by decide,aZ,by simp[bv],eW⟩
  have hz:Az.getD (i+y.length) 0=0:=LP _ (yx _);have aU:=p6 (b:=2^64) (l:=Az) (i:=i+y.length) (x:=c) (by lia);rw[hz,xH,yZ,Vy] at aU
  simp only[go_sem,ya,yj,az,t1,t5,t6,t8,t20,t21,t22,hw.len,av hv.pu,av hw.pu,wrapN (n:=i+y.length) (by lia),show (i:Int)+(y.length:Int)=((i+y.length:Nat):Int) from rfl,dd 0 0 (show i+y.length<n by lia),yd,me (l:=Az) (o:=i+y.length) (by lia)];refine⟨_,k-1,rfl,by lia,i+1,Az.set (i+y.length) c,?_,by lia,by simp[Vx],nN azz hc,?_,fun m hm=>?_⟩
  .rw [wrap64 (by lia) (by lia)];simp only[go_sem,ya,yb,az,av hv.pu,av hw.pu]<;>rfl
  .rw [aU,aP,kI,xY,<-ha,xm]
  .rw [rB (by lia)];exact LP m (by lia)
 .right
  have:i=x.length:=by lia
  subst this;rw[xQ] at aP;simp only[go_sem,ya,Ko,show ¬(x.length:Int)<x.length by lia];exact⟨_,_,rfl,by simp,_,out,rfl,rfl,rfl,hlen,aZ,aP⟩
def azA(h:Has P L 144 P2)(nY:Has P L 166 C3)(nZ:L.pure 143=F5 Aa)(iz:L.pure 171=F5 pY)(hv:bK v x)(hw:bK w y)(hx:lo (2^64) x)(hy:lo (2^64) y)(lx:x.length<=49999999999)(ly:y.length<=49999999999):
  ∃r out,ah P L 144 [v,w] r/\bK r out/\lo (2^64) out/\iD out/\bv (2^64) out=bv (2^64) x*bv (2^64) y:=by
 obtain⟨n,hn⟩:∃n,n=x.length+y.length:=⟨_,rfl⟩;unfold ah;rw[aG h]
 simp only[go_sem,ya,yb,P2,hv.len,hw.len,wrapN (n:=n) (by lia),show (x.length:Int)+(y.length:Int)=((x.length+y.length:Nat):Int) from rfl,<-hn,Ff (n:=n) _ (by lia)];generalize hq:D P L (.loop _ Ko) _=q;obtain⟨ex,s,rfl,tm,o,rfl,rfl,t5,hlen,aZ,aP⟩:=bQ hq (ave (P:=P) (L:=L) nZ iz hv hw hx hy lx ly hn x.length)
  ⟨0,yE n 0,by simp only[go_sem,ya,yb,az,av hv.pu,av hw.pu]<;>rfl,by lia,by simp,GN (by decide) n,by rw[GO];simp[bv],fun m _=>Em n m⟩
 have hf:=oF ydo o;rw[hlen] at hf;have⟨r,e1,hr⟩:=Db nY hf (by lia);refine⟨r,_,?_,hr,Cu aZ,Ct _,by rw[Cs];exact aP⟩
 simp only[go_sem,yb,az,t5,Da _ (n:=n) (l:=o) hlen ydo,e1,hr.shut,hr.dX]
end
section
variable {b s u u2 v1 v2 y:Nat}
def PA(n:Int):IntKind.wrap .u64 n=n%2^64:=by
 simp[IntKind.wrap,IntKind.signed,IntKind.bits]
def wrapM(n:Nat):IntKind.wrap .u64 (n:Int)=((n%2^64:Nat):Int):=by rw[PA];lia
def rR(a b:Nat):binOp .mul (uc a) (uc b)=F5 (uc (a*b%2^64)):=by
 rw[adf,<-xZ,wrapM]
def CZ(a b:Nat):binOp .add (uc a) (uc b)=F5 (uc ((a+b)%2^64)):=by
 rw[ade,<-Int.natCast_add,wrapM]
def Fg{a c:Nat}(h:(a+2^64-b)%2^64=c)(hb:b<=2^64):binOp .sub (uc a) (uc b)=F5 (uc c):=by
 rw[OC,PA]
 grind
def avf(k k':xg)(a b:Int):binOp .shl (.int k a) (.int k' b)=Ej .shl k a b:=rfl
def avg(k k':xg)(a b:Int):binOp .shr (.int k a) (.int k' b)=Ej .shr k a b:=rfl
def LQ(k:xg)(a:Nat)(hs:s<=64):binOp .shl (.int .u64 (a:Int)) (.int k (s:Int))=F5 (uc (a*2^s%2^64)):=by
 rw[avf];simp only[Ej,yp (show ¬(s:Int)<0 by lia),wi,IntKind.bits,xF hs];rw[show ((2:Int)^s)=((2^s:Nat):Int) by simp,<-xZ,wrapM]
def LR(k:xg)(a:Nat)(hs:s<=64):binOp .shr (.int .u64 (a:Int)) (.int k (s:Int))=F5 (uc (a/2^s)):=by
 rw[avg];simp only[Ej,yp (show ¬(s:Int)<0 by lia),wi,IntKind.bits,xF hs]
 grind
def agL(a:Nat):binOp .and (.int .u64 (a:Int)) (.int .u64 4294967295)=F5 (uc (a%4294967296)):=by
 show F5 (AV.int .u64 (IntKind.wrap .u64 ((wz 64 (a:Int)&&&wz 64 4294967295).toNat:Int)))=_
 rw[show wz 64 (a:Int)=tN 64 a from tO 64 a,show wz 64 4294967295=tN 64 4294967295 from rfl];rw[BitVec.toNat_and,ui,ui,show (4294967295%2^64:Nat)=2^32-1 from rfl,Nat.and_two_pow_sub_one_eq_mod,wrapM]
 grind
def Yf{a:Nat}(ha:a<2^64)(hb:b<2^64):binOp .or (.int .u64 (a:Int)) (.int .u64 (b:Int))=F5 (uc (a|||b)):=by
 show F5 (AV.int .u64 (IntKind.wrap .u64 ((wz 64 (a:Int)|||wz 64 (b:Int)).toNat:Int)))=_
 congr 2
 rw[show wz 64 (a:Int)=tN 64 a from tO 64 a,show wz 64 (b:Int)=tN 64 b from tO 64 b];rw[BitVec.toNat_or,ui,ui,yU (show a<2^64 from ha),yU (show b<2^64 from hb),wrapM]
 have:a|||b<2^64:=Nat.or_lt_two_pow ha hb
 lia
def UX{p c:Nat}(h:c<2^s):(p*2^s)|||c=p*2^s+c:=by
 rw[<-Nat.shiftLeft_eq,<-Nat.shiftLeft_add_eq_or_of_lt h]
def Z9:∀(f n:Nat),n<2^f->eO f n<=f/\n<2^eO f n/\(0<n->0<eO f n/\2^(eO f n-1)<=n)
 | 0,n,h=>by simp[eO];simpa using h
 | f+1,n,h=>by
  simp only[eO];by_cases h0:n=0
  .simp_all
  .rw [gF h0,yO];have⟨h1,h2,h3⟩:=Z9 f (n/2) (by lia);refine⟨by lia,?_,fun _=>⟨by lia,?_⟩⟩
   .grind
   .rw [Nat.add_sub_cancel_left];by_cases hn:0<n/2
    .have ⟨h4,h5⟩:=h3 hn;obtain⟨m,hm⟩:∃m,eO f (n/2)=m+1:=⟨eO f (n/2)-1,by lia⟩
     grind
    .have hz:n/2=0:=by lia
     have:eO f 0=0:=by cases f with
      | zero=>rfl
      | succ f=>rfl
     grind
def TY(h0:0<y)(h:y<2^64):64-eO 64 y<64/\9223372036854775808<=y*2^(64-eO 64 y)/\y*2^(64-eO 64 y)<2^64:=by
 have⟨h1,h2,h3⟩:=Z9 64 y h;have⟨h4,h5⟩:=h3 h0;generalize eO 64 y=k at*
 refine⟨by lia,?_,?_⟩
 .have:=yT (2^(64-k)) h5
  rw[<-xM,show k-1+(64-k)=63 by lia] at this;exact this
 .have:=xV h2 (xt (64-k))
  rw[<-xM,show k+(64-k)=64 by lia] at this;exact this
section
variable {P:aF}{L:Lib}{f:cu}
def ad8(h:L.pure 167=F5 G1){x:Nat}(hx:x<2^64):bW P L f 167 [uc x]=F5 (aa (64-eO 64 x:Nat)):=by
 rw[kH h];show (bif yM x (2^64) then _ else F6)=_
 rw[mv hx];rfl
def anf{t r:Nat}(dM:v2<b)(ma:t<b)(ht:t*v1+r=u)(h:b<=r\/t*v2<=b*r+u2):t*(v1*b+v2)<=u*b+u2:=by
 have h2:t*v2<=b*r+u2:=by
  rcases h with h | h
  .have:=xC (uS ma) (uS dM)
   have:=xa b h
   lia
  .exact h
 rw[xL,<-xm,<-ht,xY,xA r b];lia
def axU(n:Nat):jW (.toInt .u64) (.int .i64 (n:Int))=F5 (uc (n%2^64)):=by
 show F5 (AV.int .u64 (IntKind.wrap .u64 (n:Int)))=_
 rw[wrapM]
def ZA{q r:Nat}(hy:y=v1*4294967296+v2)(dM:v2<4294967296)(sr:0<v1)(dY:v1<4294967296)(hu:u<y)(B1:u2<4294967296)(hq:q*v1+r=u)(hr:r<4294967296)(hQ:(u*4294967296+u2)/y<=q):
  (4294967296<=q\/4294967296*r+u2<q*v2->0<q/\(q-1)*v1+(r+v1)=u/\(u*4294967296+u2)/y<=q-1/\(4294967296<=r+v1->(u*4294967296+u2)/y=q-1))/\
  (¬4294967296<=q->q*v2<=4294967296*r+u2->(u*4294967296+u2)/y=q):=by
 have fX:0<y:=by lia
 have RL:∀t s,t*v1+s=u->4294967296<=t->s<4294967296:=fun t s h1 h2=>by
  have:=yT v1 h2
  grind
 have ad9:∀t s,t*v1+s=u->t<4294967296->(4294967296<=s\/t*v2<=4294967296*s+u2)->(u*4294967296+u2)/y<=t->(u*4294967296+u2)/y=t:=fun t s h1 h2 h3 h4=>by
  have:=anf dM h2 h1 h3
  rw[<-hy] at this
  have:=(tW fX).2 this
  lia
 constructor
 .intro h;have zI:0<q:=by
   grind
  have h1:(q-1)*v1+(r+v1)=u:=by
   obtain⟨p,rfl⟩:∃p,q=p+1:=⟨q-1,by lia⟩
   grind
  have h2:(u*4294967296+u2)/y<=q-1:=by
   have aM:u*4294967296+u2<q*y:=by
    rcases h with h | h
    .have h3:u*4294967296+u2<4294967296*y:=by lia
     exact yG h3 (yT y h)
    .rw [hy,xL,<-xm,<-hq,xY,xA r];lia
   have:=(xO fX).2 aM
   lia
  exact⟨zI,h1,h2,fun h3=>ad9 _ _ h1 (by
   by_cases hb:4294967296<=q-1
   .have:=RL _ _ h1 hb;lia
   .lia) (.inl h3) h2⟩
 .intro h1 h2;exact ad9 q r hq (by lia) (.inr h2) hQ
def avh{z:Nat}(hy:y=v1*4294967296+v2)(dM:v2<4294967296)(sr:0<v1)(dY:v1<4294967296)(hu:u<y)(B1:u2<4294967296):
  ew P L [2,8,9,10,11,13,14,15,16] CD (fun k st=>∃q r:Nat,st=⟨[(2,uc y),(8,uc s),(9,uc v1),(10,uc v2),(11,uc u),(13,uc u2),(14,uc z),(15,uc q),(16,uc r)],[],0,0⟩/\q*v1+r=u/\r<4294967296/\(u*4294967296+u2)/y<=q/\q=k) (fun ex st'=>∃tm ct,st'=⟨tm,[],ct,0⟩/\ex=.exit 0/\aj tm 2=uc y/\aj tm 8=uc s/\aj tm 9=uc v1/\aj tm 10=uc v2/\aj tm 11=uc u/\aj tm 13=uc u2/\aj tm 14=uc z/\aj tm 15=uc ((u*4294967296+u2)/y)):=by
 apply eE;rintro k st ⟨q,r,rfl,hq,hr,hQ,rfl⟩;have⟨g1,g2⟩:=ZA hy dM sr dY hu B1 hq hr hQ;have hqb:q*1<=q*v1:=xa q sr;have azB:=yT 4294967296 (show v1<=4294967295 by lia);have qU:q<2^64:=by lia
 have XL:=xa 4294967296 (show r<=4294967295 by lia);have e1:=rR 4294967296 r;rw[show uc 4294967296=AV.int .u64 4294967296 from rfl,yU (show 4294967296*r<2^64 by lia)] at e1;have e2:=CZ (4294967296*r) u2;rw[yU (show 4294967296*r+u2<2^64 by lia)] at e2;have e4:=CZ r v1;rw[yU (show r+v1<2^64 by lia)] at e4;by_cases hc:4294967296<=q\/4294967296*r+u2<q*v2
 .have ⟨h0,h1,h2,h3⟩:=g1 hc;have e3:binOp .sub (uc q) (.int .u64 1)=F5 (uc (q-1)):=Fg (b:=1) (by lia) (by lia);by_cases hb:4294967296<=r+v1
  .right
   have B2:=h3 hb;rcases (show 4294967296<=q\/(¬4294967296<=q/\4294967296*r+u2<q*v2) by lia) with t1 | ⟨t1,t2⟩
   .simp only [go_sem,ya,CD,show (4294967296:Int)<=(q:Int) by lia,e3,e4,show (4294967296:Int)<=((r+v1:Nat):Int) by lia];exact⟨_,_,rfl,by simp,_,_,rfl,rfl,rfl,rfl,rfl,rfl,rfl,rfl,rfl,by rw[B2];simp only[go_sem,ya]⟩
   .have Yg:=xC (show q<=4294967295 by lia) (show v2<=4294967295 by lia);have e5:=rR q v2;rw[yU (show q*v2<2^64 by lia)] at e5;simp only[go_sem,ya,CD,show ¬(4294967296:Int)<=(q:Int) by lia,e5,e1,e2,show ((4294967296*r+u2:Nat):Int)<((q*v2:Nat):Int) by lia,e3,e4,show (4294967296:Int)<=((r+v1:Nat):Int) by lia];exact⟨_,_,rfl,by simp,_,_,rfl,rfl,rfl,rfl,rfl,rfl,rfl,rfl,rfl,by rw[B2];simp only[go_sem,ya]⟩
  .left
   rcases (show 4294967296<=q\/(¬4294967296<=q/\4294967296*r+u2<q*v2) by lia) with t1 | ⟨t1,t2⟩
   .simp only [go_sem,ya,CD,show (4294967296:Int)<=(q:Int) by lia,e3,e4,show ¬(4294967296:Int)<=((r+v1:Nat):Int) by lia];exact⟨_,q-1,rfl,by lia,q-1,r+v1,by simp only[go_sem,ya,az],h1,by lia,h2,rfl⟩
   .have Yg:=xC (show q<=4294967295 by lia) (show v2<=4294967295 by lia);have e5:=rR q v2;rw[yU (show q*v2<2^64 by lia)] at e5;simp only[go_sem,ya,CD,show ¬(4294967296:Int)<=(q:Int) by lia,e5,e1,e2,show ((4294967296*r+u2:Nat):Int)<((q*v2:Nat):Int) by lia,e3,e4,show ¬(4294967296:Int)<=((r+v1:Nat):Int) by lia];exact⟨_,q-1,rfl,by lia,q-1,r+v1,by simp only[go_sem,ya,az],h1,by lia,h2,rfl⟩
 .right
  have B2:=g2 (by lia) (by lia);have e5:=rR q v2;rw[yU (show q*v2<2^64 by lia)] at e5;simp only[go_sem,ya,CD,show ¬(4294967296:Int)<=(q:Int) by lia,e5,e1,e2,show ¬((4294967296*r+u2:Nat):Int)<((q*v2:Nat):Int) by lia];exact⟨_,_,rfl,by simp,_,_,rfl,rfl,rfl,rfl,rfl,rfl,rfl,rfl,rfl,by rw[B2];simp only[go_sem,ya]⟩
end
end
section
variable {P:aF}{L:Lib}{f:cu}
def avi{y s v1 v2 u u2 z:Nat}(hy:y=v1*4294967296+v2)(dM:v2<4294967296)(sr:0<v1)(dY:v1<4294967296)(hu:u<y)(B1:u2<4294967296):
  ew P L [2,8,9,10,14,15,16,17,18] CE (fun k st=>∃q r:Nat,st=⟨[(2,uc y),(8,uc s),(9,uc v1),(10,uc v2),(14,uc u2),(15,uc z),(16,uc r),(17,uc u),(18,uc q)],[],0,0⟩/\q*v1+r=u/\r<4294967296/\(u*4294967296+u2)/y<=q/\q=k) (fun ex st'=>∃tm ct,st'=⟨tm,[],ct,0⟩/\ex=.exit 2/\aj tm 2=uc y/\aj tm 8=uc s/\aj tm 9=uc v1/\aj tm 10=uc v2/\aj tm 14=uc u2/\aj tm 15=uc z/\aj tm 17=uc u/\aj tm 18=uc ((u*4294967296+u2)/y)):=by
 apply eE;rintro k st ⟨q,r,rfl,hq,hr,hQ,rfl⟩;have⟨g1,g2⟩:=ZA hy dM sr dY hu B1 hq hr hQ;have hqb:q*1<=q*v1:=xa q sr;have azB:=yT 4294967296 (show v1<=4294967295 by lia);have qU:q<2^64:=by lia
 have XL:=xa 4294967296 (show r<=4294967295 by lia);have e1:=rR 4294967296 r;rw[show uc 4294967296=AV.int .u64 4294967296 from rfl,yU (show 4294967296*r<2^64 by lia)] at e1;have e2:=CZ (4294967296*r) u2;rw[yU (show 4294967296*r+u2<2^64 by lia)] at e2;have e4:=CZ r v1;rw[yU (show r+v1<2^64 by lia)] at e4;by_cases hc:4294967296<=q\/4294967296*r+u2<q*v2
 .have ⟨h0,h1,h2,h3⟩:=g1 hc;have e3:binOp .sub (uc q) (.int .u64 1)=F5 (uc (q-1)):=Fg (b:=1) (by lia) (by lia);by_cases hb:4294967296<=r+v1
  .right
   have B2:=h3 hb;rcases (show 4294967296<=q\/(¬4294967296<=q/\4294967296*r+u2<q*v2) by lia) with t1 | ⟨t1,t2⟩
   .simp only [go_sem,ya,CE,show (4294967296:Int)<=(q:Int) by lia,e3,e4,show (4294967296:Int)<=((r+v1:Nat):Int) by lia];exact⟨_,_,rfl,by simp,_,_,rfl,rfl,rfl,rfl,rfl,rfl,rfl,rfl,rfl,by rw[B2];simp only[go_sem,ya]⟩
   .have Yg:=xC (show q<=4294967295 by lia) (show v2<=4294967295 by lia);have e5:=rR q v2;rw[yU (show q*v2<2^64 by lia)] at e5;simp only[go_sem,ya,CE,show ¬(4294967296:Int)<=(q:Int) by lia,e5,e1,e2,show ((4294967296*r+u2:Nat):Int)<((q*v2:Nat):Int) by lia,e3,e4,show (4294967296:Int)<=((r+v1:Nat):Int) by lia];exact⟨_,_,rfl,by simp,_,_,rfl,rfl,rfl,rfl,rfl,rfl,rfl,rfl,rfl,by rw[B2];simp only[go_sem,ya]⟩
  .left
   rcases (show 4294967296<=q\/(¬4294967296<=q/\4294967296*r+u2<q*v2) by lia) with t1 | ⟨t1,t2⟩
   .simp only [go_sem,ya,CE,show (4294967296:Int)<=(q:Int) by lia,e3,e4,show ¬(4294967296:Int)<=((r+v1:Nat):Int) by lia];exact⟨_,q-1,rfl,by lia,q-1,r+v1,by simp only[go_sem,ya,az],h1,by lia,h2,rfl⟩
   .have Yg:=xC (show q<=4294967295 by lia) (show v2<=4294967295 by lia);have e5:=rR q v2;rw[yU (show q*v2<2^64 by lia)] at e5;simp only[go_sem,ya,CE,show ¬(4294967296:Int)<=(q:Int) by lia,e5,e1,e2,show ((4294967296*r+u2:Nat):Int)<((q*v2:Nat):Int) by lia,e3,e4,show ¬(4294967296:Int)<=((r+v1:Nat):Int) by lia];exact⟨_,q-1,rfl,by lia,q-1,r+v1,by simp only[go_sem,ya,az],h1,by lia,h2,rfl⟩
 .right
  have B2:=g2 (by lia) (by lia);have e5:=rR q v2;rw[yU (show q*v2<2^64 by lia)] at e5;simp only[go_sem,ya,CE,show ¬(4294967296:Int)<=(q:Int) by lia,e5,e1,e2,show ¬((4294967296*r+u2:Nat):Int)<((q*v2:Nat):Int) by lia];exact⟨_,_,rfl,by simp,_,_,rfl,rfl,rfl,rfl,rfl,rfl,rfl,rfl,rfl,by rw[B2];simp only[go_sem,ya]⟩
def afz(a:Nat):binOp .shr (.int .u64 (a:Int)) (.int .u64 32)=F5 (uc (a/4294967296)):=LR .u64 a (s:=32) (by decide)
def agM(a:Nat){b:Nat}(ha:a<2^64)(hb:0<b):binOp .quo (uc a) (uc b)=F5 (uc (a/b)):=by
 rw[fH _ _ _ (by lia),wg (by lia),<-Int.natCast_ediv,wrapM,yU];exact wA (vD a b) ha
def azC(a:Nat){b:Nat}(hb:0<b):binOp .rem (uc a) (uc b)=F5 (uc (a%b)):=by
 rw[eL _ _ _ (by lia),we (by lia),<-Int.natCast_emod]
def ang{hi lo y s u z Y:Nat}(hs:s<64)(aZ:lo<2^64)(hY:Y=y*2^s)(hu:u=hi*2^s+lo/2^(64-s))(hz:z=lo*2^s%2^64):
  (hi*2^64+lo)*2^s=u*2^64+z:=by
 have e:2^64=2^(64-s)*2^s:=by rw[<-xM,show 64-s+s=64 by lia]
 have h1:lo*2^s/2^64=lo/2^(64-s):=by
  rw[e,tX _ _ (xt s)]
 grind
def aa2{Y q a b:Nat}(h1:a<Y)(h2:b<4294967296)(h3:q=(a*4294967296+b)/Y):q<4294967296:=by
 rw[h3];exact (xO (by lia)).2 (by lia)
def apm{u w x z z0 z1 q0 q1 Y:Nat}(so:q1*Y+w=u*4294967296+z1)(gP:q0*Y+x=w*4294967296+z0)(hz:z=z1*4294967296+z0):u*2^64+z=(q1*4294967296+q0)*Y+x:=by grind
def alO{q1 q0:Nat}(h1:q1<4294967296)(h0:q0<4294967296):q1*4294967296<2^64/\q1*4294967296+q0<2^64:=by lia
def agN(h:Has P L 165 Ll)(LS:L.pure 167=F5 G1){hi lo y:Nat}(eW:hi<y)(aZ:lo<2^64)(hy:y<2^64):
  ah P L 165 [uc hi,uc lo,uc y] (.aw [uc ((hi*2^64+lo)/y),uc ((hi*2^64+lo)%y)]):=by
 have fX:0<y:=by lia
 by_cases h0:hi=0
 .subst h0;have e1:=agM lo aZ fX;have e2:=azC lo fX;rw[vt,yd];unfold ah;rw[aG h];simp only[go_sem,ya,Ll,show ¬(y:Int)=0 by lia,show ¬(y:Int)<=0 by lia,show ((0:Nat):Int)=0 from rfl,e1,e2];rfl
 .obtain ⟨s,hs⟩:∃s,s=64-eO 64 y:=⟨_,rfl⟩;have hl:=ad8 (P:=P) (f:=D P L) LS hy;have⟨l1,l2,l3⟩:=TY fX hy;rw[<-hs] at hl l1 l2 l3;obtain⟨Y,hY⟩:∃Y,Y=y*2^s:=⟨_,rfl⟩;obtain⟨u,hu⟩:∃u,u=hi*2^s+lo/2^(64-s):=⟨_,rfl⟩;obtain⟨z,hz⟩:∃z,z=lo*2^s%2^64:=⟨_,rfl⟩;have hdiv:=ang l1 aZ hY hu hz;rw[<-hY] at l2 l3;have hp:=xt s;obtain⟨v1,dY⟩:∃v,v=Y/4294967296:=⟨_,rfl⟩;obtain⟨v2,dM⟩:∃v,v=Y%4294967296:=⟨_,rfl⟩;have hYv:Y=v1*4294967296+v2:=by lia
  obtain⟨z1,kR⟩:∃v,v=z/4294967296:=⟨_,rfl⟩;obtain⟨z0,kv⟩:∃v,v=z%4294967296:=⟨_,rfl⟩;have HY:z<2^64:=by lia
  have hhY:hi*2^s<Y:=by rw[hY];exact xV eW hp
  have fe:lo/2^(64-s)<2^s:=by
   refine (xO (xt _)).2 ?_;rw[<-xM,show s+(64-s)=64 by lia];exact aZ
  have qO:hi*2^s|||lo/2^(64-s)=u:=by rw[UX fe,hu]
  have hN:hi*2^64+lo<y*2^64:=by
   have:=yT (2^64) (show hi+1<=y from eW)
   lia
  have Yh:u<Y:=by
   have h1:=xV hN hp;rw[hdiv,Nat.mul_right_comm,<-hY] at h1
   lia
  obtain⟨q1,fY⟩:∃q,q=(u*4294967296+z1)/Y:=⟨_,rfl⟩;obtain⟨w,hw⟩:∃q,q=(u*4294967296+z1)%Y:=⟨_,rfl⟩;obtain⟨q0,zI⟩:∃q,q=(w*4294967296+z0)/Y:=⟨_,rfl⟩;obtain⟨x,hx⟩:∃q,q=(w*4294967296+z0)%Y:=⟨_,rfl⟩;have RM:w<Y:=by rw[hw];exact xD _ (by lia)
  have Yi:x<Y:=by rw[hx];exact xD _ (by lia)
  have so:=xT (u*4294967296+z1) Y;rw[<-fY,<-hw,xA] at so;have gP:=xT (w*4294967296+z0) Y;rw[<-zI,<-hx,xA] at gP;have azD:=aa2 Yh (show z1<4294967296 by lia) fY;have azE:=aa2 RM (show z0<4294967296 by lia) zI;have⟨td1,td2⟩:=alO azD azE;have Qw:(hi*2^64+lo)*2^s=(q1*4294967296+q0)*Y+x:=by
   rw[hdiv];exact apm so gP (by lia)
  have r1:(hi*2^64+lo)/y=q1*4294967296+q0:=by
   rw[<-tX _ _ hp,Qw,<-hY,xA _ Y,yar (by lia),xR Yi,yZ]
  have r2:x/2^s=(hi*2^64+lo)%y:=by
   have h1:x=(hi*2^64+lo)*2^s%(y*2^s):=by
    rw[Qw,<-hY,xA _ Y,yas,yU Yi]
   rw[h1,uD,Nat.mul_div_cancel _ hp]
  have o1:=LQ .u64 y (s:=s) (by lia);rw[<-hY,yU l3] at o1;have o2:=afz Y;rw[<-dY] at o2;have o3:=agL Y;rw[<-dM] at o3;have o4:=LQ .u64 hi (s:=s) (by lia);rw[yU (show hi*2^s<2^64 by lia)] at o4;have o5:binOp .sub (.int .u64 64) (uc s)=F5 (uc (64-s)):=Fg (a:=64) (by lia) (by lia);have o6:=LR .u64 lo (s:=64-s) (by lia);have o7:=Yf (a:=hi*2^s) (b:=lo/2^(64-s)) (by lia) (wA (vD _ _) aZ);rw[qO] at o7;have o8:=LQ .u64 lo (s:=s) (by lia);rw[<-hz] at o8;have o9:=afz z;rw[<-kR] at o9;have o10:=agL z;rw[<-kv] at o10;have Ho:0<v1:=by lia
  have afA:∀{a:Nat},a<Y->binOp .quo (uc a) (uc v1)=F5 (uc (a/v1))/\binOp .mul (uc (a/v1)) (uc v1)=F5 (uc (a/v1*v1))/\binOp .sub (uc a) (uc (a/v1*v1))=F5 (uc (a%v1)):=fun {a} ha=>by
   have h1:=xT a v1;rw[xA] at h1;have h2:=rR (a/v1) v1;generalize a/v1*v1=m at*
   rw[yU (show m<2^64 by lia)] at h2;exact⟨agM a (by lia) Ho,h2,Fg (by lia) (by lia)⟩
  have⟨g1,g2,g3⟩:=afA Yh;have⟨g4,g5,g6⟩:=afA RM;have first:∀{a b:Nat},b<4294967296->(a*4294967296+b)/Y<=a/v1:=fun {a b} hb=>by
   have:=SE (b:=4294967296) (V:=Y) (v1:=v1) (v2:=v2) (vr:=0) (U:=a*4294967296+b) (u0:=0) (u1:=a) (u2:=b) (ur:=0) (p:=1) (by lia) (by lia) (by decide) hb Ho
   simpa using this
  have back:∀{a b q x:Nat},a*4294967296+b=q*Y+x->x<Y->binOp .mul (uc a) (.int .u64 4294967296)=F5 (uc (a*4294967296%2^64))/\binOp .add (uc (a*4294967296%2^64)) (uc b)=F5 (uc ((a*4294967296%2^64+b)%2^64))/\
    binOp .mul (uc q) (uc Y)=F5 (uc (q*Y%2^64))/\binOp .sub (uc ((a*4294967296%2^64+b)%2^64)) (uc (q*Y%2^64))=F5 (uc x):=fun {a b q x} h1 h2=>by
   refine⟨rR a 4294967296,CZ _ _,rR q Y,Fg ?_ (by lia)⟩;generalize q*Y=m at*
   lia
  have⟨k1,k2,k3,k4⟩:=back so.symm RM;have⟨k5,k6,k7,k8⟩:=back gP.symm Yi;have m1:=rR q1 4294967296;rw[yU td1,show uc 4294967296=AV.int .u64 4294967296 from rfl] at m1;have m2:=CZ (q1*4294967296) q0;rw[yU td2] at m2;have m3:=LR .u64 x (s:=s) (by lia);rw[r1,<-r2];unfold ah;rw[aG h];simp only[go_sem,ya,Ll,show ¬(y:Int)=0 by lia,show ¬(y:Int)<=(hi:Int) by lia,show ¬(hi:Int)=0 by lia,hl,axU,yU (show s<2^64 by lia),o1,o2,o3,o4,o5,o6,o7,o8,o9,o10,g1,g2,g3];generalize om:D P L (.loop _ CD) _=qq
  obtain⟨ex,st,rfl,tm,ct,rfl,rfl,t2,t8,t9,t10,t11,t13,t14,t15⟩:=bQ om (avh (P:=P) (L:=L) (s:=s) (z:=z0) hYv (by lia) Ho (by lia) Yh (show z1<4294967296 by lia) (u/v1)) ⟨u/v1,u%v1,by simp only[go_sem,ya,az],by rw[xA];exact xT u v1,by have:=xD u Ho;lia,first (by lia),rfl⟩
  rw[<-fY] at t15;simp only[go_sem,ya,az,t2,t8,t9,t10,t11,t13,t14,t15,k1,k2,k3,k4,g4,g5,g6];generalize Fh:D P L (.loop _ CE) _=Yj;obtain⟨ex,st,rfl,lQ,ct2,rfl,rfl,t2,t8,t9,t10,t14,t15,t17,t18⟩:=bQ Fh (avi (P:=P) (L:=L) (s:=s) (z:=q1) hYv (by lia) Ho (by lia) RM (show z0<4294967296 by lia) (w/v1)) ⟨w/v1,w%v1,by simp only[go_sem,ya,az],by rw[xA];exact xT w v1,by have:=xD w Ho;lia,first (by lia),rfl⟩
  rw[<-zI] at t18;simp only[go_sem,ya,az,t2,t8,t14,t15,t17,t18,m1,m2,k5,k6,k7,k8,m3];rfl
end
mutual
def below(n:Nat):AV->Prop
 | .ptr id _=>id<n
 | .ay id _ _=>id<n
 | .map id=>id<n
 | .it id=>id<n
 | .fn (.f _) first cap=>oL n first/\oL n cap
 | .fn (.y l) first cap=>l<n/\first=[]/\cap=[]
 | .agg cs=>oL n cs
 | .aw cs=>oL n cs
 | _=>True
def oL(n:Nat):List AV->Prop
 | []=>True
 | v::r=>below n v/\oL n r
end
def lH(n:Nat):Env->Prop
 | []=>True
 | (_,v)::r=>below n v/\lH n r
def EJ(n:Nat):Obj->Prop
 | .cells _ pu _ _ cs=>pu=ydo\/oL n cs
 | .mp _ ks vs=>oL n ks/\oL n vs
 | .si _ _=>True
 | .lp tm _ _ _ _ _=>lH n tm
def CI(b n:Nat):Hp->Prop
 | []=>True
 | (id,o)::r=>id<b/\EJ n o/\CI b n r
mutual
def aa3{f:Nat->Option Nat}{n:Nat}(hf:∀x,x<n->f x=F5 x):∀{v:AV},below n v->br f v=v
 | .int _ _,_ | .bool _,_ | .ao _ _,_ | .df _ _ _,_ | .str _,_ | .kL,_ | .bt _,_ | .af,_ | .ap _ _ _,_ | .ir,_ | .jw,_ | .jx _ _,_ | .undef,_ | .cM _ _ _ _,_=>rfl
 | .ptr id o,h=>by simp only[br,hf id h]
 | .ay id o k,h=>by simp only[br,hf id h]
 | .map id,h=>by simp only[br,hf id h]
 | .it id,h=>by simp only[br,hf id h]
 | .fn (.y l) first cap,h=>by
  obtain⟨h1,rfl,rfl⟩:=h;simp only[br,hf l h1,dP]
 | .fn (.f _) first cap,h=>by
  simp only[br,Cm hf h.1,Cm hf h.2]
 | .agg cs,h=>by simp only[below] at h;simp only[br,Cm hf h]
 | .aw cs,h=>by simp only[below] at h;simp only[br,Cm hf h]
def Cm{f:Nat->Option Nat}{n:Nat}(hf:∀x,x<n->f x=F5 x):∀{vs:List AV},oL n vs->dP f vs=vs
 | [],_=>rfl
 | v::r,h=>by simp only[dP,aa3 hf h.1,Cm hf h.2]
end
def NL{f:Nat->Option Nat}{n:Nat}(hf:∀x,x<n->f x=F5 x):∀{tm:Env},lH n tm->gn f tm=tm
 | [],_=>rfl
 | (_,v)::r,h=>by simp only[gn,aa3 hf h.1,NL hf h.2]
def alP{f:Nat->Option Nat}{n:Nat}(hf:∀x,x<n->f x=F5 x):∀{o:Obj},EJ n o->jh f o=o
 | .cells _ pu _ _ cs,h=>by
  cases pu with
  | true=>rfl
  | false=>simp only[EJ,yD,ycK] at h;simp only[jh,yO,Cm hf h]
 | .mp _ ks vs,h=>by simp only[jh,Cm hf h.1,Cm hf h.2]
 | .si _ _,_=>rfl
 | .lp tm _ _ _ _ _,h=>by simp only[EJ] at h;simp only[jh,NL hf h]
mutual
def aaa{n:Nat}:∀{v:AV},below n v->∀x,x∈refs v->x<n
 | .int _ _,_,x,h | .bool _,_,x,h | .ao _ _,_,x,h | .df _ _ _,_,x,h | .str _,_,x,h | .kL,_,x,h | .bt _,_,x,h | .af,_,x,h | .ap _ _ _,_,x,h | .ir,_,x,h | .jw,_,x,h | .jx _ _,_,x,h | .undef,_,x,h | .cM _ _ _ _,_,x,h=>by simp[refs] at h
 | .ptr id o,h,x,hx=>by simp only[refs,wR] at hx;subst hx;exact h
 | .ay id o k,h,x,hx=>by simp only[refs,wR] at hx;subst hx;exact h
 | .map id,h,x,hx=>by simp only[refs,wR] at hx;subst hx;exact h
 | .it id,h,x,hx=>by simp only[refs,wR] at hx;subst hx;exact h
 | .fn (.y l) first cap,h,x,hx=>by simp only[refs,wR] at hx;subst hx;exact h.1
 | .fn (.f _) first cap,h,x,hx=>by
  simp only[refs,wD] at hx;exact hx.elim (Cl h.1 x) (Cl h.2 x)
 | .agg cs,h,x,hx=>by simp only[below] at h;simp only[refs] at hx;exact Cl h x hx
 | .aw cs,h,x,hx=>by simp only[below] at h;simp only[refs] at hx;exact Cl h x hx
def Cl{n:Nat}:∀{vs:List AV},oL n vs->∀x,x∈gG vs->x<n
 | [],_,x,h=>by simp[gG] at h
 | v::r,h,x,hx=>by
  simp only[gG,wD] at hx;exact hx.elim (aaa h.1 x) (Cl h.2 x)
end
def Nw{n:Nat}:∀{tm:Env},lH n tm->∀x,x∈fj tm->x<n
 | [],_,x,h=>by simp[fj] at h
 | (_,v)::r,h,x,hx=>by
  simp only[fj,wD] at hx;exact hx.elim (aaa h.1 x) (Nw h.2 x)
def ak5{n:Nat}:∀{o:Obj},EJ n o->∀x,x∈jR o->x<n
 | .cells _ pu _ _ cs,h,x,hx=>by
  cases pu with
  | true=>simp[jR] at hx
  | false=>simp only[EJ,yD,ycK] at h;exact Cl h x hx
 | .mp _ ks vs,h,x,hx=>by
  simp only[jR,wD] at hx;exact hx.elim (Cl h.1 x) (Cl h.2 x)
 | .si _ _,_,x,hx=>by simp[jR] at hx
 | .lp tm _ _ _ _ _,h,x,hx=>by simp only[EJ] at h;exact Nw h x hx
def gI(B:Nat):List (List AV)->Hp
 | []=>[]
 | cs::r=>(B+r.length,.cells ydo ydo ydo 1 cs)::gI B r
def EY(B:Nat):List (List AV)->Hp->Hp
 | [],acc=>acc
 | cs::r,acc=>EY (B+1) r ((B,.cells ydo ydo ydo 1 cs)::acc)
def aab:∀(l:List (List AV)) (B:Nat) (x:List AV) (acc:Hp),EY B (l++[x]) acc=(B+l.length,.cells ydo ydo ydo 1 x)::EY B l acc
 | [],B,x,acc=>rfl
 | c::l,B,x,acc=>by
  simp only[yB,EY,aab l,yv]
  grind
def Tp(B:Nat)(acc:Hp):∀rs:List (List AV),EY B rs.reverse acc=gI B rs++acc
 | []=>rfl
 | c::r=>by
  simp only[ybG,aab,Tp B acc r,ybw,gI,yB]
def Tq{B:Nat}{old:Hp}:∀{rs:List (List AV)} {i:Nat} (h:i<rs.length),ak (gI B rs++old) (B+i)=F5 (.cells ydo ydo ydo 1 (rs.reverse[i]'(by simpa using h)))
 | c::r,i,h=>by
  simp only[gI,yB,ybG];by_cases hi:i=r.length
  .subst hi;rw[ak,wQ,yu]
   simp
  .have aM:i<r.length:=by grind
   rw[ak,gF (by lia),yO,Tq aM]
   grind
def oM{a b:Nat}(h:a<b):yM a b=ydo:=by simp_all
def sU{a b:Nat}(h:b<=a):yM a b=ydp:=by
 cases hq:yM a b with
 | false=>rfl
 | true=>have:=yt hq;lia
def Jm{B:Nat}{old:Hp}:∀rs:List (List AV),dO B (gI B rs++old)=dO B old
 | []=>rfl
 | c::r=>by
  simp only[gI,yB];rw[dO,sU (by lia),yO,Jm r]
def SY{B:Nat}{old:Hp}{f:Nat->Option Nat}:∀rs:List (List AV),gj B f (gI B rs++old)=gj B f old
 | []=>rfl
 | c::r=>by
  simp only[gI,yB];rw[gj,sU (by lia),yO,SY r]
def SG{B n:Nat}{f:Nat->Option Nat}(hf:∀x,x<n->f x=F5 x):∀{old:Hp},CI B n old->gj B f old=old
 | [],_=>rfl
 | (id,o)::r,h=>by
  rw[gj,oM h.1,yu,alP hf h.2.1,SG hf h.2.2]
def alQ{B s x:Nat}(h:B+s<=x):jy x (wh B s)=ydp:=by
 induction s generalizing B with
 | zero=>rfl
 | succ s ih=>rw[vS,jy,gF (by lia),yO,ih (by lia)]
def NM{hp:Hp}{B R:Nat}(qt:∀i,i<R->∃rw ex sz cs,ak hp (B+i)=F5 (.cells rw ydo ex sz cs)):
  ∀(W:List Nat) (bm s:Nat),W.length<bm->s<=R->W.filter (fun x=> !yM x B)=wh (B+s) (R-s)->reach hp B bm W (wh B s)=wh B R
 | [],0,s,hf,_,_=>by simp at hf
 | [],bm+1,s,hf,hs,h=>by
  have:R-s=0:=by
   grind
  rw[reach,show R=s by lia]
 | id::W,0,s,hf,_,_=>by simp at hf
 | id::W,bm+1,s,hf,hs,h=>by
  have jH:W.length<bm:=by simp_all
  rw[reach];by_cases hid:id<B
  .rw [oM hid,Bool.true_or,yu];rw[ybQ,oM hid] at h;exact NM qt W bm s jH hs (by simpa using h)
  .rw [ybQ,sU (by lia)] at h;have hRs:R-s=(R-s-1)+1:=by
    have:=congrArg uA h
    grind
   rw[hRs,vS] at h;injection h with h1 h2
   subst h1;rw[sU (by lia),vL,alQ (yx _),yO];have⟨rw,ex,sz,cs,ho⟩:=qt s (by lia);simp only[ho,jR,yu,yL];have e:wh B s++[B+s]=wh B (s+1):=by rw[List.range'_concat];simp
   rw[e];exact NM qt W bm (s+1) jH (by lia) (by rw[h2,show R-s-1=R-(s+1) by lia,show B+s+1=B+(s+1) by lia])
def alR{B s i k:Nat}(h:i<s):iw (B+i) (wh B s) k=F5 (k+i):=by
 induction s generalizing B i k with
 | zero=>lia
 | succ s ih=>
  rw[vS,iw];by_cases hi:i=0
  .simp_all
  .rw [gF (by lia),yO]
   have:=ih (B:=B+1) (i:=i-1) (k:=k+1) (by lia)
   grind
def ZB{B R x:Nat}(h:x<B+R):ij B (wh B R) x=F5 x:=by
 unfold ij;by_cases hx:x<B
 .rw [oM hx,yu]
 .rw [sU (by lia),yO]
  have:=alR (B:=B) (s:=R) (i:=x-B) (k:=B) (by lia)
  grind
def SZ{hp:Hp}{f:Nat->Option Nat}:∀(ro:List (List AV)) (B:Nat) (acc:Hp),(∀i (h:i<ro.length),ak hp (B+i)=F5 (.cells ydo ydo ydo 1 ro[i]))->eY hp f (wh B ro.length) B acc=EY B ro acc
 | [],B,acc,_=>rfl
 | c::r,B,acc,h=>by
  have h0:=h 0 (by simp);simp only[yZ,List.getElem_cons_zero] at h0;rw[yv,vS,eY];simp only[h0,jh,yu,EY]
  exact SZ r (B+1) _ (fun i hi=>by
   have:=h (i+1) (by simpa using hi)
   rw[show B+1+i=B+(i+1) by lia,this]
   simp)
def akA{live:List Nat}{tm:Env}{B ct:Nat}{old:Hp}{rs:List (List AV)}(ht:lH B (cd tm live))(ho:CI B (B+rs.length) old)(hl:(fj (cd tm live)).length+(dO B old).length<100000)(hr:(dO B old).filter (fun x=> !yM x B)=wh B rs.length):bE live ⟨tm,gI B rs++old,ct,B⟩=⟨cd tm live,gI B rs++old,B+rs.length,B⟩:=by
 have qt:∀i (h:i<rs.length),ak (gI B rs++old) (B+i)=F5 (.cells ydo ydo ydo 1 (rs.reverse[i]'(by simpa using h))):=fun i h=>Tq h
 have Pj:reach (gI B rs++old) B 100000 (fj (cd tm live)++dO B (gI B rs++old)) []=wh B rs.length:=by
  have:=NM (hp:=gI B rs++old) (B:=B) (R:=rs.length) (fun i hi=>⟨_,_,_,_,qt i hi⟩) (fj (cd tm live)++dO B (gI B rs++old)) 100000 0 (by rw[Jm,yJ];exact hl) (tD _) (by
   rw[List.filter_append,Jm,hr,yai.2 (fun x hx=>by
    have:=Nw ht x hx
    simp[oM this])]
   simp)
  grind
 have hid:∀x,x<B+rs.length->ij B (wh B rs.length) x=F5 x:=fun x hx=>ZB hx
 have hn:=SZ (hp:=gI B rs++old) (f:=ij B (wh B rs.length)) rs.reverse B old (fun i hi=>qt i (by simpa using hi));rw[ybw] at hn;simp only[bE,Pj,SY,SG hid ho,hn,Tp,List.length_range']
 rw[NL (n:=B) (fun x hx=>hid x (by lia)) ht]
def S3{B b n:Nat}(hb:b<=B):∀{H:Hp},CI b n H->∀x,x∈dO B H->x<n
 | [],_,x,hx=>by simp[dO] at hx
 | (id,o)::r,h,x,hx=>by
  rw[dO,oM (by have:=h.1;lia),yu,wD] at hx
  exact hx.elim (ak5 h.2.1 x) (S3 hb h.2.2 x)
def SH{live:List Nat}{tm:Env}{B ct:Nat}{old:Hp}(ht:lH B (cd tm live))(ho:CI B B old)(hl:(fj (cd tm live)).length+(dO B old).length<100000):
  bE live ⟨tm,old,ct,B⟩=⟨cd tm live,old,B,B⟩:=by
 have:=akA (rs:=[]) (ct:=ct) ht (by simpa using ho) hl (by
  rw[yai.2 (fun x hx=>by have:=S3 (yx B) ho x hx;simp[oM this])]
  rfl)
 simpa[gI] using this
section
variable {hp:Hp}{ps:List Nat}{ct:Nat}
def J3{n:Nat}{F:aD}(h:Has P L n F){aq:List AV}{ex:Ex}{s:St}{v:AV}(hD:D P L F.body ⟨fG 0 aq,hp,ct,ct⟩=F5 (ex,s))(he:ex=.normal\/ex=.ret)(hr:jo s F.dX=F5 v):
  js P L (D P L) hp ct n aq=F5 (v,s.hp,s.ct):=by
 simp only[js,h.heap,h.code,hD]
 grind
def JP{l:Nat}{xs:List AV}{tm tm' gM lQ:Env}{qG zm:List Nat}{a b a1 b1 a2 b2:VC}{pe oc Rk:sZ}{s1 s2:St}(h1:ak hp l=F5 (.lp tm ps a b 0 pe))(h2:rD tm ps xs=F5 tm')(h3:D P L a ⟨tm',hp,ct,ct⟩=F5 (.normal,s1))(h4:ak s1.hp l=F5 (.lp gM qG a1 b1 0 oc))(h5:D P L b ⟨s1.tm,aU s1.hp l (.lp gM qG a1 b1 1 oc),s1.ct,s1.ct⟩=F5 (.normal,s2))(h6:ak s2.hp l=F5 (.lp lQ zm a2 b2 1 Rk)):
  ie (D P L) hp ct l xs=F5 (.bool ydo,aU s2.hp l (.lp lQ zm a2 b2 0 .none),s2.ct):=by
 simp only[ie,h1,h2,h3,h4,h5,h6]
def afB{f:X}{as_ body:VC}{s:St}{n:Nat}{first cap:List AV}{v:AV}{tm:Env}{ps':List Nat}{a b:VC}{st:Nat}(h1:ax s.tm f=.fn (.f n) first cap)(h2:L.heap n=F6)(h3:js P L (D P L) ((s.ct,.lp s.tm ps as_ body 0 .none)::s.hp) (s.ct+1) n (first++(.fn (.y s.ct) [] []::cap))=F5 (v,hp,ct))(h4:ak hp s.ct=F5 (.lp tm ps' a b st .none))(h5:st≠1):D P L (.rf f ps as_ body) s=F5 (.normal,⟨s.tm,c7 hp s.ct,ct,s.base⟩):=by
 rw[lK];simp only[bz,h1,h2,h3,h4,gF h5,yO]
mutual
def aac{n n':Nat}(h:n<=n'):∀{v:AV},below n v->below n' v
 | .int _ _,_ | .bool _,_ | .ao _ _,_ | .df _ _ _,_ | .str _,_ | .kL,_ | .bt _,_ | .af,_ | .ap _ _ _,_ | .ir,_ | .jw,_ | .jx _ _,_ | .undef,_ | .cM _ _ _ _,_=>trivial
 | .ptr _ _,k=>yG k h
 | .ay _ _ _,k=>yG k h
 | .map _,k=>yG k h
 | .it _,k=>yG k h
 | .fn (.f _) _ _,k=>⟨Jr h k.1,Jr h k.2⟩
 | .fn (.y _) _ _,k=>⟨yG k.1 h,k.2⟩
 | .agg cs,k=>by simp only[below] at k ⊢;exact Jr h k
 | .aw cs,k=>by simp only[below] at k ⊢;exact Jr h k
def Jr{n n':Nat}(h:n<=n'):∀{vs:List AV},oL n vs->oL n' vs
 | [],_=>trivial
 | _::_,k=>⟨aac h k.1,Jr h k.2⟩
end
def ZC{n n':Nat}(h:n<=n'):∀{tm:Env},lH n tm->lH n' tm
 | [],_=>trivial
 | (_,_)::_,k=>⟨aac h k.1,ZC h k.2⟩
mutual
def nF{n:Nat}:∀{v:AV},aV v=ydo->below n v
 | .int _ _,_ | .bool _,_ | .ao _ _,_ | .df _ _ _,_ | .str _,_ | .kL,_ | .bt _,_ | .af,_ | .ap _ _ _,_ | .ir,_ | .jw,_ | .jx _ _,_ | .undef,_=>trivial
 | .cM _ _ _ _,_=>trivial
 | .ptr _ _,h | .ay _ _ _,h | .map _,h | .it _,h=>by simp[aV] at h
 | .fn (.y _) _ _,h=>by simp[aV] at h
 | .fn (.f _) _ _,h=>by
  simp only[aV,ye] at h;exact⟨F7 h.1,F7 h.2⟩
 | .agg cs,h=>by simp only[aV] at h;simp only[below];exact F7 h
 | .aw cs,h=>by simp only[aV] at h;simp only[below];exact F7 h
def F7{n:Nat}:∀{vs:List AV},aE vs=ydo->oL n vs
 | [],_=>trivial
 | _::_,h=>by
  simp only[aE,ye] at h;exact⟨nF h.1,F7 h.2⟩
end
end
section
variable {pre x post:List Nat}{i:Nat}
def rC:(pre++x++post).length=pre.length+x.length+post.length:=by grind
def En(h:i<x.length):(pre++x++post).getD (pre.length+i) 0=x.getD i 0:=by grind
def OG(a:Nat)(h:i<x.length):(pre++x++post).set (pre.length+i) a=pre++x.set i a++post:=by simp_all
end
def nO(n:Nat)(k:xg)(a:Int):below n (.int k a)=True:=rfl
def oN(n id o k:Nat):below n (.ay id o k)=(id<n):=rfl
def nK(n:Nat):lH n []=True:=rfl
def nH(n i:Nat)(v:AV)(r:Env):lH n ((i,v)::r)=(below n v/\lH n r):=rfl
def sS{live:List Nat}{tm:Env}{ct:Nat}{a b:List AV}(ht:lH 2 (cd tm live))(hl:(fj (cd tm live)).length<100000):
  bE live ⟨tm,[(1,.cells ydo ydo ydo 1 a),(0,.cells ydo ydo ydo 1 b)],ct,2⟩=⟨cd tm live,[(1,.cells ydo ydo ydo 1 a),(0,.cells ydo ydo ydo 1 b)],2,2⟩:=
 SH ht ⟨by lia,.inl rfl,by lia,.inl rfl,trivial⟩ (by
  have:dO 2 [(1,Obj.cells ydo ydo ydo 1 a),(0,Obj.cells ydo ydo ydo 1 b)]=[]:=rfl
  rw[this,yI,yZ];exact hl)
def alS{x s c:Nat}(hs:s<64)(hx:x<2^64)(hc:c<2^s):
  c|||(x*2^s%2^64)<2^64/\c<2^64/\x/2^(64-s)<2^s/\(c|||(x*2^s%2^64))+2^64*(x/2^(64-s))=x*2^s+c:=by
 have e:2^64=2^(64-s)*2^s:=by rw[<-xM,show 64-s+s=64 by lia]
 have h1:x*2^s%2^64=(x%2^(64-s))*2^s:=by rw[e,uD]
 have h2:x/2^(64-s)<2^s:=by
  refine (xO (xt _)).2 ?_
  grind
 have h3:c|||(x*2^s%2^64)=(x%2^(64-s))*2^s+c:=by rw[h1,ycZ,UX hc]
 have h4:(x%2^(64-s))*2^s+c<2^64:=by
  have:=yT (2^s) (show x%2^(64-s)+1<=2^(64-s) from xD _ (xt _))
  grind
 have h5:=tq x (2^(64-s))
 grind
def avj{v:AV}{w:List Nat}(hv:bK v w)(hw:lo (2^64) w)(lw:w.length<=99999999999){s n:Nat}(hs:s<64)(hn:n=w.length+1):
  ew P L [1,5,12,13,14] GD (fun k st=>∃(i:Nat) (out:List Nat),st=⟨[(1,aa s),(5,.ay 0 0 n),(12,v),(13,aa w.length),(14,aa i)],[(0,.cells ydo ydo ydo 1 (out.map uc))],1,0⟩/\i+k=w.length/\out.length=n/\lo (2^64) out/\bv (2^64) out=bv (2^64) (w.take i)*2^s/\out.getD i 0<2^s/\(∀m,i<m->out.getD m 0=0)) (fun ex st'=>∃tm out,st'=⟨tm,[(0,.cells ydo ydo ydo 1 (out.map uc))],1,0⟩/\ex=.exit 0/\aj tm 5=.ay 0 0 n/\out.length=n/\lo (2^64) out/\bv (2^64) out=bv (2^64) w*2^s):=by
 apply eE;rintro k st ⟨i,out,rfl,hk,hlen,aZ,aP,hc,eW⟩;by_cases hi:i<w.length
 .left
  have gx:=iL (show 0<2^64 by decide) hw i;have ex:=hv.bj hi;have ec:=Bw (l:=out) (o:=i) (by lia);have aU:=p6 (b:=2^64) (l:=out) (i:=i) (x:=out.getD i 0|||(w.getD i 0*2^s%2^64)) (by lia);have hz:out.getD (i+1) 0=0:=eW _ (by lia);have fa:=kI (b:=2^64) (l:=w) i;generalize out.getD i 0=c at*
  generalize w.getD i 0=x at*
  have⟨s1,s2,s3,s4⟩:=alS hs gx hc;have o1:=LQ .i64 x (s:=s) (by lia);have o2:=Yf s2 (xD (x*2^s) (by decide));have o3:binOp .sub (.int .i64 64) (aa s)=F5 (aa (64-s:Nat)):=by
   rw[OC,wrap64 (by lia) (by lia)];congr 2;lia
  have o4:=LR .i64 x (s:=64-s) (by lia);generalize kS:c|||(x*2^s%2^64)=c' at*
  by_cases h0:0<s
  .have PB:=p6 (b:=2^64) (l:=out.set i c') (i:=i+1) (x:=x/2^(64-s)) (by simp;lia)
   rw[rB (by lia),hz,xH,yZ] at PB;have azF:x/2^(64-s)<2^64:=wA (vD _ _) gx;generalize x/2^(64-s)=y at*
   simp only[go_sem,ya,yj,GD,show (i:Int)<w.length by lia,ex,dd 0 0 (show i<n by lia),yd,ec,o1,o2,me (l:=out) (o:=i) (by lia),show (0:Int)<(s:Int) by lia,show (i:Int)+1=((i+1:Nat):Int) from rfl,wrapN (n:=i+1) (by lia),o3,o4,dd 0 0 (show i+1<n by lia),me (l:=out.set i c') (o:=i+1) (by simp;lia)]
   refine⟨_,k-1,rfl,by lia,i+1,(out.set i c').set (i+1) y,by simp only[go_sem,ya,yb,az,av hv.pu]<;>rfl,by lia,by simp[hlen],nN (nN aZ s1) azF,?_,by rw[alw (by simp;lia)];exact s3,fun m hm=>by rw[rB (by lia),rB (by lia)];exact eW m (by lia)⟩
   rw[fa,xY,PB,<-aP,Ax,xm,xm ((2^64)^i)];have e:=congrArg (fun t=>(2^64)^i*t) s4;simp only[xL] at e;generalize (2^64)^i*(2^64*y)=p1 at*
   generalize (2^64)^i*(x*2^s)=p2 at*
   generalize (2^64)^i*c'=p3 at*
   lia
  .have qH:s=0:=by lia
   subst qH;have lm:c=0:=by simpa using hc
   have nm:x/2^(64-0)=0:=xR gx;rw[nm,xH,yZ,uP,yj] at s4
   simp only[go_sem,ya,yj,GD,show (i:Int)<w.length by lia,ex,dd 0 0 (show i<n by lia),yd,ec,o1,o2,me (l:=out) (o:=i) (by lia),show ¬(0:Int)<((0:Nat):Int) by lia,show (i:Int)+1=((i+1:Nat):Int) from rfl,wrapN (n:=i+1) (by lia)];refine⟨_,k-1,rfl,by lia,i+1,out.set i c',by simp only[go_sem,ya,yb,az,av hv.pu]<;>rfl,by lia,by simp[hlen],nN aZ s1,?_,by rw[rB (by lia),hz];exact xt _,fun m hm=>by rw[rB (by lia)];exact eW m (by lia)⟩
   rw[uP,yj] at aP ⊢;rw[fa,<-aP];rw[lm,xH,yZ] at aU;rw[aU,s4,lm,yZ]
 .right
  have:i=w.length:=by lia
  subst this;rw[xQ] at aP;simp only[go_sem,ya,GD,show ¬(w.length:Int)<w.length by lia];exact⟨_,_,rfl,by simp,_,out,rfl,rfl,rfl,hlen,aZ,aP⟩
def agO(h:Has P L 168 P6){v:AV}{w:List Nat}(hv:bK v w)(hw:lo (2^64) w)(lw:w.length<=99999999999){s:Nat}(hs:s<64):
  ∃out,ah P L 168 [v,aa s] (.cM ydo 1 (w.length+1) (out.map uc))/\out.length=w.length+1/\lo (2^64) out/\bv (2^64) out=bv (2^64) w*2^s:=by
 obtain⟨n,hn⟩:∃n,n=w.length+1:=⟨_,rfl⟩;unfold ah;rw[aG h]
 simp only[go_sem,ya,yb,P6,hv.len,wrapN (n:=n) (by lia),show (w.length:Int)+1=((w.length+1:Nat):Int) from rfl,<-hn,Ff (n:=n) _ (by lia)];generalize hq:D P L (.loop _ GD) _=q;obtain⟨ex,st,rfl,tm,o,rfl,rfl,t5,hlen,aZ,aP⟩:=bQ hq (avj (P:=P) (L:=L) hv hw lw hs hn w.length)
  ⟨0,yE n 0,by simp only[go_sem,ya,yb,az,av hv.pu]<;>rfl,by lia,by simp,GN (by decide) n,by rw[GO];simp[bv],by rw[Em];exact xt _,fun m _=>Em n m⟩
 refine⟨o,?_,hlen,aZ,aP⟩;simp only[go_sem,yb,az,t5];exact SW (pR _ _ _) (by simp[hlen]) (by decide)
abbrev H2(a b:List Nat):Hp:=[(1,.cells ydo ydo ydo 1 (a.map uc)),(0,.cells ydo ydo ydo 1 (b.map uc))]
structure iS(x vs:List Nat)(n v1 v2 u0 u1 u2:Nat):Prop where
 n2:2<=n
 nb:n<=99999999999
 lx:x.length=n+1
 lv:vs.length=n
 gx:lo (2^64) x
 gv:lo (2^64) vs
 dY:vs.getD (n-1) 0=v1
 dM:vs.getD (n-2) 0=v2
 h0:x.getD n 0=u0
 h1:x.getD (n-1) 0=u1
 h2:x.getD (n-2) 0=u2
 pos:0<v1
 lt:bv (2^64) x<2^64*bv (2^64) vs
def axV(b p a v1 v2:Nat):a+p*v2+p*b*v1=(v1*b+v2)*p+a:=by grind
def axW(b p a v0 v1 v2:Nat):a+p*v2+p*b*v1+p*b*b*v0=((v0*b+v1)*b+v2)*p+a:=by grind
section
variable {x vs:List Nat}{n v1 v2 u0 u1 u2:Nat}
def iS.MR(h:iS x vs n v1 v2 u0 u1 u2):v1<2^64:=h.dY▸iL (by decide) h.gv _
def iS.FL(h:iS x vs n v1 v2 u0 u1 u2):v2<2^64:=h.dM▸iL (by decide) h.gv _
def iS.MS(h:iS x vs n v1 v2 u0 u1 u2):u1<2^64:=h.h1▸iL (by decide) h.gx _
def iS.MU(h:iS x vs n v1 v2 u0 u1 u2):u2<2^64:=h.h2▸iL (by decide) h.gx _
def iS.parts(h:iS x vs n v1 v2 u0 u1 u2):∃p vr ur,bv (2^64) vs=(v1*2^64+v2)*p+vr/\vr<p/\bv (2^64) x=((u0*2^64+u1)*2^64+u2)*p+ur/\ur<p:=by
 obtain⟨m,hm⟩:∃m,n=m+2:=⟨n-2,by have:=h.n2;lia⟩
 subst hm;have e1:=kI (b:=2^64) (l:=vs) (m+1);have e2:=kI (b:=2^64) (l:=vs) m;have f0:=kI (b:=2^64) (l:=x) (m+2);have f1:=kI (b:=2^64) (l:=x) (m+1);have f2:=kI (b:=2^64) (l:=x) m;have dY:vs.getD (m+1) 0=v1:=h.dY;have dM:vs.getD m 0=v2:=h.dM;have h0:x.getD (m+2) 0=u0:=h.h0;have h1:x.getD (m+1) 0=u1:=h.h1;have h2:x.getD m 0=u2:=h.h2
 rw[yK (by have:=h.lv;lia),dY,e2,dM] at e1
 rw[yK (by have:=h.lx;lia),h0,f1,h1,f2,h2] at f0
 have g1:=nR (Cz h.gv m)
 rw[yR,xF (by have:=h.lv;lia)] at g1
 have g2:=nR (Cz h.gx m)
 rw[yR,xF (by have:=h.lx;lia)] at g2
 refine⟨(2^64)^m,_,_,?_,g1,?_,g2⟩
 .grind
 .grind
def iS.down(h:iS x vs n v1 v2 u0 u1 u2){t r:Nat}(ht:t*v1+r=u0*2^64+u1)(hr:r*2^64+u2<t*v2):bv (2^64) x/bv (2^64) vs<=t-1:=by
 have⟨p,vr,ur,h1,h2,h3,h4⟩:=h.parts;exact Z4 h1 h3 h4 ht hr
def iS.stop(h:iS x vs n v1 v2 u0 u1 u2){t r:Nat}(ma:t<2^64)(ht:t*v1+r=u0*2^64+u1)(hr:2^64<=r\/t*v2<=r*2^64+u2):t<=bv (2^64) x/bv (2^64) vs+1:=by
 have⟨p,vr,ur,h1,h2,h3,h4⟩:=h.parts;exact aaS (by decide) h1 h2 h3 h.pos h.FL ma ht hr
def iS.first(h:iS x vs n v1 v2 u0 u1 u2):bv (2^64) x/bv (2^64) vs<=(u0*2^64+u1)/v1:=by
 have⟨p,vr,ur,h1,h2,h3,h4⟩:=h.parts;exact SE h1 h3 h4 h.MU h.pos
def iS.top(h:iS x vs n v1 v2 u0 u1 u2):u0<=v1:=by
 have⟨p,vr,ur,h1,h2,h3,h4⟩:=h.parts;exact aaT h1 h3 h2 h.FL h.lt
def iS.digit(h:iS x vs n v1 v2 u0 u1 u2):bv (2^64) x/bv (2^64) vs<2^64:=by
 refine (xO ?_).2 h.lt;rcases xx (bv (2^64) vs) with h0 | h0
 .have:=h.lt;rw[h0] at this;simp at this
 .exact h0
end
def aea(nZ:L.pure 143=F5 Aa)(iz:L.pure 171=F5 pY){w:AV}{x vs pre post qs:List Nat}(hw:bK w vs){n v1 v2 u0 u1 u2:Nat}(hl:iS x vs n v1 v2 u0 u1 u2):
  ew P L [0,1,5,6,7,8] Bo (fun k s=>∃q r:Nat,s=⟨[(0,.ay 0 pre.length (n+1)),(1,w),(5,aa n),(6,uc q),(7,uc (r%2^64)),(8,uc (r/2^64))],H2 qs (pre++x++post),2,2⟩/\q*v1+r=u0*2^64+u1/\r<2*2^64/\q<2^64/\bv (2^64) x/bv (2^64) vs<=q/\q=k) (fun ex s'=>∃tm q,s'=⟨tm,H2 qs (pre++x++post),2,2⟩/\ex=.exit 0/\aj tm 0=.ay 0 pre.length (n+1)/\aj tm 1=w/\aj tm 5=aa n/\aj tm 6=uc q/\q<2^64/\bv (2^64) x/bv (2^64) vs<=q/\q<=bv (2^64) x/bv (2^64) vs+1):=by
 apply eE;rintro k s ⟨q,r,rfl,hq,hr,qU,hQ,rfl⟩;have cE:=hl.n2;have sf:=hl.nb;by_cases mE:r<2^64
 .have HZ:r%2^64=r:=yU mE;have DH:r/2^64=0:=xR mE;rw[HZ,DH];have Hr:=hl.MR;have Wv:=hl.FL;have agP:=hl.MU;have ss:=hw.bj (i:=n-2) (by have:=hl.lv;lia)
  have fg:=hw.bj (i:=n-1) (by have:=hl.lv;lia)
  rw[hl.dM] at ss;rw[hl.dY] at fg;have AS:=Bw (l:=pre++x++post) (o:=pre.length+(n-2)) (by rw[rC];have:=hl.lx;lia)
  rw[En (by have:=hl.lx;lia),hl.h2] at AS
  have f1:=O1 (P:=P) (f:=D P L) nZ qU Wv;have f2:=EI (P:=P) (f:=D P L) iz (x:=r) (y:=v1) (c:=0) mE Hr (by lia);rw[show (uc 0)=AV.int .u64 0 from rfl] at f2;have fR:=xT (q*v2) (2^64);have aZ:=xD (q*v2) (show 0<2^64 by decide);obtain⟨H,hH⟩:∃H,H=q*v2/2^64:=⟨_,rfl⟩;obtain⟨G,hG⟩:∃G,G=q*v2%2^64:=⟨_,rfl⟩;rw[<-hH,<-hG] at f1 fR;rw[<-hG] at aZ;have B3:(n:Int)-2=((n-2:Nat):Int):=by lia
  have su:(n:Int)-1=((n-1:Nat):Int):=by lia
  by_cases c1:H<r
  .right
   simp only[go_sem,ya,Bo,H2,show ((0:Nat):Int)=0 from rfl,B3,wrapN (n:=n-2) (by lia),ss,f1,show (H:Int)<(r:Int) by lia];exact⟨_,_,rfl,by simp,_,q,rfl,rfl,rfl,rfl,rfl,rfl,qU,hQ,hl.stop qU hq (.inr (by lia))⟩
  .by_cases c2:H=r/\G<=u2
   .right
    have⟨c2,c3⟩:=c2
    simp only[go_sem,ya,Bo,H2,show ((0:Nat):Int)=0 from rfl,B3,wrapN (n:=n-2) (by lia),ss,f1,show (H:Int)=(r:Int) by lia];simp only[show ¬(r:Int)<(r:Int) by lia,yP]
    simp only[go_sem,ya,yj,B3,wrapN (n:=n-2) (by lia),dd 0 pre.length (show n-2<n+1 by lia),AS,show (G:Int)<=(u2:Int) by lia];exact⟨_,_,rfl,by simp,_,q,rfl,rfl,rfl,rfl,rfl,rfl,qU,hQ,hl.stop qU hq (.inr (by lia))⟩
   .left
    have Dy:r*2^64+u2<q*v2:=by lia
    have zI:0<q:=by
     rcases xx q with h0 | h0
     .subst h0;lia
     .exact h0
    have e3:binOp .sub (uc q) (.int .u64 1)=F5 (uc (q-1)):=Fg (b:=1) (by lia) (by lia);have h1:(q-1)*v1+(r+v1)=u0*2^64+u1:=by
     obtain⟨p,rfl⟩:∃p,q=p+1:=⟨q-1,by lia⟩;rw[xY,yaU] at hq;rw[uX];lia
    have FM:=hl.down hq Dy;rw[yZ] at f2;by_cases c3:H=r
    .have c4:¬G<=u2:=fun h=>c2 ⟨c3,h⟩
     subst c3
     simp only[go_sem,ya,xk,yj,Bo,H2,show ((0:Nat):Int)=0 from rfl,B3,su,wrapN (n:=n-2) (by lia),wrapN (n:=n-1) (by lia),ss,fg,f1,f2,show ¬(H:Int)<(H:Int) by lia,dd 0 pre.length (show n-2<n+1 by lia),AS,show ¬(G:Int)<=(u2:Int) by lia,e3];refine⟨_,q-1,rfl,by lia,q-1,H+v1,?_,h1,by lia,by lia,FM,rfl⟩;rw[sS (by simp only[go_sem,ya,yq,nO,oN,nK,nH,nF hw.pu,vU]) (by simp only[go_sem,ya,yb,yq,jL hw.pu])];simp only[go_sem,ya]
    .simp only [go_sem,ya,xk,Bo,H2,show ((0:Nat):Int)=0 from rfl,B3,su,wrapN (n:=n-2) (by lia),wrapN (n:=n-1) (by lia),ss,fg,f1,f2,show ¬(H:Int)<(r:Int) by lia,show ¬(H:Int)=(r:Int) by lia,e3];refine⟨_,q-1,rfl,by lia,q-1,r+v1,?_,h1,by lia,by lia,FM,rfl⟩;rw[sS (by simp only[go_sem,ya,yq,nO,oN,nK,nH,nF hw.pu,vU]) (by simp only[go_sem,ya,yb,yq,jL hw.pu])];simp only[go_sem,ya]
 .right
  have DH:r/2^64=1:=by lia
  rw[DH];simp only[go_sem,ya,Bo,H2,show ((1:Nat):Int)=1 from rfl,yba];exact⟨_,_,rfl,by simp,_,q,rfl,rfl,rfl,rfl,rfl,rfl,qU,hQ,hl.stop qU hq (.inl (by lia))⟩
def anh{b p x y z lz c bo B4 ca q v X Y:Nat}(h1:q*v+c=b*ca+lz)(h2:z+lz+bo=x+b*B4)(h3:Y+q*X=y+p*(c+bo))(W:Nat)(hW:W+p*x=Y+p*z):
  W+q*(X+p*v)=y+p*b*(ca+B4):=by grind
def ani{q v c:Nat}(hq:q<2^64)(hv:v<2^64)(hc:c<2^64):
  q*v+c=2^64*(q*v/2^64+(q*v%2^64+c+0)/2^64)+(q*v%2^64+c+0)%2^64/\
  q*v/2^64+(q*v%2^64+c+0)/2^64<2^64:=by
 have h:=xC (show q<=18446744073709551615 by lia) (show v<=18446744073709551615 by lia)
 grind
def avk(nZ:L.pure 143=F5 Aa)(iz:L.pure 171=F5 pY)(Ay:L.pure 173=F5 CC){w:AV}{x vs pre post qs:List Nat}(hw:bK w vs){n:Nat}(sf:n<=99999999999)(lv:vs.length=n)(gv:lo (2^64) vs){q:Nat}(hq:q<2^64):
  ew P L [0,1,5,6,11,12,104,105] Kp (fun k s=>∃(i c bo:Nat) (y:List Nat),s=⟨[(0,.ay 0 pre.length (n+1)),(1,w),(5,aa n),(6,uc q),(11,uc bo),(12,uc c),(104,aa n),(105,aa i)],H2 qs (pre++y++post),2,2⟩/\i+k=n/\y.length=n+1/\lo (2^64) y/\c<2^64/\bo<=1/\
    bv (2^64) y+q*bv (2^64) (vs.take i)=bv (2^64) x+(2^64)^i*(c+bo)) (fun ex s'=>∃tm c bo y,s'=⟨tm,H2 qs (pre++y++post),2,2⟩/\ex=.exit 2/\aj tm 0=.ay 0 pre.length (n+1)/\aj tm 1=w/\aj tm 5=aa n/\aj tm 6=uc q/\aj tm 11=uc bo/\aj tm 12=uc c/\y.length=n+1/\lo (2^64) y/\c<2^64/\bo<=1/\
    bv (2^64) y+q*bv (2^64) vs=bv (2^64) x+(2^64)^n*(c+bo)):=by
 apply eE;rintro k s ⟨i,c,bo,y,rfl,hk,ly,gy,hc,kz,aP⟩;by_cases hi:i<n
 .left
  have dR:(0:Nat)<2^64:=by decide
  have zJ:=iL dR gv i;have sA:=iL dR gy i;have ev:=hw.bj (i:=i) (by lia);have ey:=Bw (l:=pre++y++post) (o:=pre.length+i) (by rw[rC];lia)
  rw[En (by lia)] at ey;have fa:=kI (b:=2^64) (l:=vs) i;obtain⟨a,ha⟩:∃a,a=vs.getD i 0:=⟨_,rfl⟩;obtain⟨d,hd⟩:∃d,d=y.getD i 0:=⟨_,rfl⟩;rw[<-ha] at zJ ev fa;rw[<-hd] at sA ey;have⟨m1,m2⟩:=ani hq zJ hc;have f1:=O1 (P:=P) (f:=D P L) nZ hq zJ;have f2:=EI (P:=P) (f:=D P L) iz (x:=q*a%2^64) (y:=c) (c:=0) (xD _ dR) hc (by lia);obtain⟨lz,agQ⟩:∃t,t=(q*a%2^64+c+0)%2^64:=⟨_,rfl⟩;obtain⟨c1,eQ⟩:∃t,t=(q*a%2^64+c+0)/2^64:=⟨_,rfl⟩;have agR:lz<2^64:=by rw[agQ];exact xD _ dR
  rw[<-agQ,<-eQ] at f2 m1;rw[<-eQ] at m2;obtain⟨h1,iX⟩:∃t,t=q*a/2^64:=⟨_,rfl⟩;rw[<-iX] at f1 m1 m2;rw[show (uc 0)=AV.int .u64 0 from rfl] at f2;have f3:=UW (P:=P) (f:=D P L) Ay sA agR kz;have pD:=TX sA agR kz;obtain⟨z,hz⟩:∃t,t=(d+2^64*2-lz-bo)%2^64:=⟨_,rfl⟩;obtain⟨b',bI⟩:∃t,t=(if lz+bo<=d then 0 else 1):=⟨_,rfl⟩;have fV:b'<=1:=by rw[bI];split<;>lia
  have HY:z<2^64:=by rw[hz];exact xD _ dR
  rw[<-hz,<-bI] at f3 pD;have f4:binOp .add (uc h1) (uc c1)=F5 (uc (h1+c1)):=by
   rw[CZ,yU m2]
  have aU:=p6 (b:=2^64) (l:=y) (i:=i) (x:=z) (by lia);rw[<-hd] at aU;have aR:=fun (hp:Hp) (ct:Nat)=>me (hp:=hp) (ct:=ct) (id:=0) (v:=z) (ex:=ydo) (l:=pre++y++post) (o:=pre.length+i) (by rw[rC];lia)
  have qu:=OG (pre:=pre) (x:=y) (post:=post) (i:=i) z (by lia);simp only[go_sem,ya,yj,Kp,H2,show (i:Int)<(n:Int) by lia,ev,f1,f2,f4,dd 0 pre.length (show i<n+1 by lia),ey,f3,aR,qu];refine⟨_,k-1,rfl,by lia,i+1,h1+c1,b',y.set i z,?_,by lia,by simp[ly],nN gy HY,m2,fV,?_⟩
  .rw [sS (by simp only[go_sem,ya,yq,nO,oN,nK,nH,nF hw.pu,vU]) (by simp only[go_sem,ya,yb,yq,jL hw.pu])];rw[wrap64 (by lia) (by lia)];simp only[go_sem,ya]<;>rfl
  .rw [fa,Ax];exact anh m1 pD aP _ aU
 .right
  have:i=n:=by lia
  subst this;rw[yK (by lia)] at aP;simp only[go_sem,ya,Kp,H2,show ¬(i:Int)<(i:Int) by lia];exact⟨_,_,rfl,by simp,_,c,bo,y,rfl,rfl,rfl,rfl,rfl,rfl,rfl,rfl,ly,gy,hc,kz,aP⟩
def avl(iz:L.pure 171=F5 pY){w:AV}{y0 vs pre post qs:List Nat}(hw:bK w vs){n:Nat}(sf:n<=99999999999)(lv:vs.length=n)(gv:lo (2^64) vs){q:Nat}:
  ew P L [0,1,5,6,17,156,157] Kq (fun k s=>∃(i c:Nat) (y:List Nat),s=⟨[(0,.ay 0 pre.length (n+1)),(1,w),(5,aa n),(6,uc q),(17,uc c),(156,aa n),(157,aa i)],H2 qs (pre++y++post),2,2⟩/\i+k=n/\y.length=n+1/\lo (2^64) y/\c<=1/\
    bv (2^64) y+(2^64)^i*c=bv (2^64) y0+bv (2^64) (vs.take i)) (fun ex s'=>∃tm c y,s'=⟨tm,H2 qs (pre++y++post),2,2⟩/\ex=.exit 4/\aj tm 0=.ay 0 pre.length (n+1)/\aj tm 5=aa n/\aj tm 6=uc q/\aj tm 17=uc c/\y.length=n+1/\lo (2^64) y/\c<=1/\
    bv (2^64) y+(2^64)^n*c=bv (2^64) y0+bv (2^64) vs):=by
 apply eE;rintro k s ⟨i,c,y,rfl,hk,ly,gy,hc,aP⟩;by_cases hi:i<n
 .left
  have dR:(0:Nat)<2^64:=by decide
  have zJ:=iL dR gv i;have sA:=iL dR gy i;have ev:=hw.bj (i:=i) (by lia);have ey:=Bw (l:=pre++y++post) (o:=pre.length+i) (by rw[rC];lia)
  rw[En (by lia)] at ey;have fa:=kI (b:=2^64) (l:=vs) i;obtain⟨a,ha⟩:∃a,a=vs.getD i 0:=⟨_,rfl⟩;obtain⟨d,hd⟩:∃d,d=y.getD i 0:=⟨_,rfl⟩;rw[<-ha] at zJ ev fa;rw[<-hd] at sA ey;have f1:=EI (P:=P) (f:=D P L) iz sA zJ hc;have aU:=p6 (b:=2^64) (l:=y) (i:=i) (x:=(d+a+c)%2^64) (by lia);rw[<-hd] at aU;have ki:=NK ((2^64)^i) (2^64) (d+a+c);have kS:(d+a+c)/2^64<=1:=by lia
  have HY:(d+a+c)%2^64<2^64:=xD _ dR;generalize (d+a+c)%2^64=z at*
  generalize (d+a+c)/2^64=c' at*
  have aR:=fun (hp:Hp) (ct:Nat)=>me (hp:=hp) (ct:=ct) (id:=0) (v:=z) (ex:=ydo) (l:=pre++y++post) (o:=pre.length+i) (by rw[rC];lia)
  have qu:=OG (pre:=pre) (x:=y) (post:=post) (i:=i) z (by lia);simp only[go_sem,ya,yj,Kq,H2,show (i:Int)<(n:Int) by lia,ev,f1,dd 0 pre.length (show i<n+1 by lia),ey,aR,qu];refine⟨_,k-1,rfl,by lia,i+1,c',y.set i z,?_,by lia,by simp[ly],nN gy HY,kS,?_⟩
  .rw [sS (by simp only[go_sem,ya,yq,nO,oN,nK,nH,nF hw.pu,vU]) (by simp only[go_sem,ya,yb,yq,jL hw.pu])];rw[wrap64 (by lia) (by lia)];simp only[go_sem,ya]<;>rfl
  .rw [fa,Ax];rw[xL,xL] at ki
   lia
 .right
  have:i=n:=by lia
  subst this;rw[yK (by lia)] at aP;simp only[go_sem,ya,Kq,H2,show ¬(i:Int)<(i:Int) by lia];exact⟨_,_,rfl,by simp,_,c,y,rfl,rfl,rfl,rfl,rfl,rfl,ly,gy,hc,aP⟩
def step_end{A V q Y B bo:Nat}(hV:0<V)(h:Y+q*V=A+B*bo)(h1:A/V<=q)(h2:q<=A/V+1)(hY:Y<B)(hVB:V<=B)(kz:bo<=1):
  (bo=0->q=A/V/\Y=A%V)/\(bo=1->q=A/V+1/\Y+V=B+A%V):=by
 have fR:=xT A V;have hm:=xD A hV;generalize A/V=Q at*
 have hq:q=Q\/q=Q+1:=by lia
 constructor
 .rintro rfl;rcases hq with rfl | rfl
  .grind
  .grind
 .grind
structure Wd(P:aF)(L:Lib):Prop where
 nZ:L.pure 143=F5 Aa
 iz:L.pure 171=F5 pY
 Ay:L.pure 173=F5 CC
 LS:L.pure 167=F5 G1
 agS:Has P L 165 Ll
 nY:Has P L 166 C3
 agT:Has P L 168 P6
 azG:Has P L 169 At
 agU:Has P L 158 Hf
 azH:Has P L 157 Lk
 agV:Has P L 159 P4
 azI:Has P L 144 P2
 Ww:Has P L 137 Li
def aC:VC->VC
 | .seq _ b=>b
 | c=>c
def avm(h:Wd P L){w:AV}{x vs pre post qs:List Nat}(hw:bK w vs){n v1 v2 u0 u1 u2:Nat}(hl:iS x vs n v1 v2 u0 u1 u2){q:Nat}(hq:q<2^64)(fY:bv (2^64) x/bv (2^64) vs<=q)(DI:q<=bv (2^64) x/bv (2^64) vs+1):
  ∃tm x',D P L (aC (aC (aC (aC (aC (aC At.body)))))) ⟨[(0,.ay 0 pre.length (n+1)),(1,w),(5,aa n),(6,uc q)],H2 qs (pre++x++post),2,2⟩=F5 (.ret,⟨tm,H2 qs (pre++x'++post),2,2⟩)/\aj tm 4=uc (bv (2^64) x/bv (2^64) vs)/\x'.length=n+1/\lo (2^64) x'/\bv (2^64) x'=bv (2^64) x%bv (2^64) vs:=by
 have cE:=hl.n2;have sf:=hl.nb;have dR:(0:Nat)<2^64:=by decide
 have hV:0<bv (2^64) vs:=by
  rcases xx (bv (2^64) vs) with h0 | h0
  .have:=hl.lt;rw[h0] at this;simp at this
  .exact h0
 have AT:below 2 w:=nF hw.pu;have MV:=nR hl.gv;rw[hl.lv] at MV;have aFx:(2^64)^n<=(2^64)^(n+1):=xd (by decide) (by lia);have aFy:aC (aC (aC (aC (aC (aC At.body)))))=aC (aC (aC (aC (aC (aC At.body))))):=rfl;simp only[go_sem,ya,At,aC,H2];generalize om:D P L (.loop _ Kp) _=qq;obtain⟨ex,s,rfl,tm,c,bo,y,rfl,rfl,t0,t1,t5,t6,t11,t12,ly,gy,hc,kz,aP⟩:=bQ om (avk (P:=P) (L:=L) h.nZ h.iz h.Ay hw sf hl.lv hl.gv hq (x:=x) (pre:=pre) (post:=post) (qs:=qs) n) ⟨0,0,0,x,by
  rw[sS (by simp only[go_sem,ya,yq,nO,oN,nK,nH,AT,vU]) (by simp only[go_sem,ya,yb,yq,jL hw.pu])]
  simp only[go_sem,ya]<;>rfl,by lia,hl.lx,hl.gx,dR,by lia,by simp[bv]⟩
 have Yk:=iL dR gy n;have ey:=Bw (l:=pre++y++post) (o:=pre.length+n) (by rw[rC];lia)
 rw[En (by lia)] at ey;obtain⟨d,hd⟩:∃d,d=y.getD n 0:=⟨_,rfl⟩;rw[<-hd] at Yk ey;have f3:=UW (P:=P) (f:=D P L) h.Ay Yk hc kz;have pD:=TX Yk hc kz;obtain⟨z,hz⟩:∃t,t=(d+2^64*2-c-bo)%2^64:=⟨_,rfl⟩;obtain⟨b',bI⟩:∃t,t=(if c+bo<=d then 0 else 1):=⟨_,rfl⟩;have fV:b'<=1:=by rw[bI];split<;>lia
 have HY:z<2^64:=by rw[hz];exact xD _ dR
 rw[<-hz,<-bI] at f3 pD;have aU:=p6 (b:=2^64) (l:=y) (i:=n) (x:=z) (by lia);rw[<-hd] at aU;have aR:=fun (hp:Hp) (ct:Nat)=>me (hp:=hp) (ct:=ct) (id:=0) (v:=z) (ex:=ydo) (l:=pre++y++post) (o:=pre.length+n) (by rw[rC];lia)
 have qu:=OG (pre:=pre) (x:=y) (post:=post) (i:=n) z (by lia);have FN:lo (2^64) (y.set n z):=nN gy HY;have DJ:(y.set n z).length=n+1:=by simp[ly]
 have hY:=nR FN;rw[DJ] at hY;have azJ:bv (2^64) (y.set n z)+q*bv (2^64) vs=bv (2^64) x+(2^64)^(n+1)*b':=by
  have e2:=congrArg (fun t=>(2^64)^n*t) pD;rw[Ax,xm];simp only[xL] at e2 aP;generalize (2^64)^n*(2^64*b')=p1 at*
  generalize (2^64)^n*z=p2 at*
  generalize (2^64)^n*d=p3 at*
  generalize (2^64)^n*c=p4 at*
  generalize (2^64)^n*bo=p5 at*
  lia
 have⟨s0,s1⟩:=step_end hV azJ fY DI hY (by lia) fV;simp only[go_sem,ya,yb,yq,yj,sS,nO,oN,nK,nH,AT,vU,jL hw.pu,t0,t1,t5,t6,t11,t12,dd 0 pre.length (show n<n+1 by lia),ey,f3,aR,qu];by_cases kv:b'=0
 .have ⟨e1,e2⟩:=s0 kv;simp only[go_sem,ya,show (b':Int)=0 by lia];exact⟨_,y.set n z,rfl,by rw[<-e1];simp only[go_sem],DJ,FN,e2⟩
 .have ⟨e1,e2⟩:=s1 (by lia);simp only[go_sem,ya,show ¬(b':Int)=0 by lia];generalize Fh:D P L (.loop _ Kq) _=Yj;obtain⟨ex,s,rfl,lQ,c2,y2,rfl,rfl,t0,t5,t6,t17,Yl,RN,Du,axX⟩:=bQ Fh (avl (P:=P) (L:=L) h.iz hw sf hl.lv hl.gv (y0:=y.set n z) (pre:=pre) (post:=post) (qs:=qs) (q:=q) n) ⟨0,0,y.set n z,by
   rw[sS (by simp only[go_sem,ya,yq,nO,oN,nK,nH,AT,vU]) (by simp only[go_sem,ya,yb,yq,jL hw.pu])]
   simp only[go_sem,ya]<;>rfl,by lia,DJ,FN,by lia,by simp[bv]⟩
  have azK:=iL dR RN n;have Ym:=Bw (l:=pre++y2++post) (o:=pre.length+n) (by rw[rC];lia)
  rw[En (by lia)] at Ym;obtain⟨d2,jJ⟩:∃d,d=y2.getD n 0:=⟨_,rfl⟩;rw[<-jJ] at azK Ym;have f4:=CZ d2 c2;have PB:=p6 (b:=2^64) (l:=y2) (i:=n) (x:=(d2+c2)%2^64) (by lia);rw[<-jJ] at PB;have ki:=NK ((2^64)^n) (2^64) (d2+c2);have azL:(d2+c2)%2^64<2^64:=xD _ dR;have hc3:(d2+c2)/2^64<=1:=by lia
  generalize (d2+c2)%2^64=z2 at*
  generalize (d2+c2)/2^64=c3 at*
  have Qx:=fun (hp:Hp) (ct:Nat)=>me (hp:=hp) (ct:=ct) (id:=0) (v:=z2) (ex:=ydo) (l:=pre++y2++post) (o:=pre.length+n) (by rw[rC];lia)
  have PC:=OG (pre:=pre) (x:=y2) (post:=post) (i:=n) z2 (by lia);have RO:lo (2^64) (y2.set n z2):=nN RN azL;have MW:(y2.set n z2).length=n+1:=by simp[Yl]
  have hY3:=nR RO;rw[MW] at hY3;have zI:0<q:=by rw[e1];exact Nat.succ_pos _
  have hq3:bv (2^64) x/bv (2^64) vs=q-1:=by rw[e1,uX]
  have f5:binOp .sub (uc q) (.int .u64 1)=F5 (uc (q-1)):=Fg (b:=1) (by lia) (by lia);simp only[go_sem,ya,yb,yq,yj,sS,nO,oN,nK,nH,vU,t0,t5,t6,t17,dd 0 pre.length (show n<n+1 by lia),Ym,f4,Qx,PC,f5];refine⟨_,y2.set n z2,rfl,by rw[hq3];simp only[go_sem],MW,RO,?_⟩;have e3:bv (2^64) (y2.set n z2)+(2^64)^(n+1)*c3=(2^64)^(n+1)+bv (2^64) x%bv (2^64) vs:=by
   rw[<-e2,<-axX,Ax];rw[xL] at ki;omega
  rcases (show c3=0\/c3=1 by lia) with rfl | rfl
  .omega
  .lia
def azM(h:Wd P L){w:AV}{x vs pre post qs:List Nat}(hw:bK w vs){n v1 v2 u0 u1 u2:Nat}(hl:iS x vs n v1 v2 u0 u1 u2):
  ∃x',js P L (D P L) (H2 qs (pre++x++post)) 2 169 [.ay 0 pre.length (n+1),w]=F5 (uc (bv (2^64) x/bv (2^64) vs),H2 qs (pre++x'++post),2)/\x'.length=n+1/\lo (2^64) x'/\bv (2^64) x'=bv (2^64) x%bv (2^64) vs:=by
 have cE:=hl.n2;have sf:=hl.nb;have AT:below 2 w:=nF hw.pu;have su:(n:Int)-1=((n-1:Nat):Int):=by lia
 have fg:=hw.bj (i:=n-1) (by have:=hl.lv;lia)
 rw[hl.dY] at fg;have DK:=Bw (l:=pre++x++post) (o:=pre.length+n) (by rw[rC];have:=hl.lx;lia)
 rw[En (by have:=hl.lx;lia),hl.h0] at DK
 have DL:=Bw (l:=pre++x++post) (o:=pre.length+(n-1)) (by rw[rC];have:=hl.lx;lia)
 rw[En (by have:=hl.lx;lia),hl.h1] at DL
 have Hr:=hl.MR;have Qy:=hl.MS;have qv:=hl.top;have jY:∃tm x',D P L At.body ⟨fG 0 [.ay 0 pre.length (n+1),w],H2 qs (pre++x++post),2,2⟩=F5 (.ret,⟨tm,H2 qs (pre++x'++post),2,2⟩)/\aj tm 4=uc (bv (2^64) x/bv (2^64) vs)/\x'.length=n+1/\lo (2^64) x'/\bv (2^64) x'=bv (2^64) x%bv (2^64) vs:=by
  have behind:∀(gM:Env) (q:Nat),aj gM 0=.ay 0 pre.length (n+1)->aj gM 1=w->aj gM 5=aa n->aj gM 6=uc q->q<2^64->bv (2^64) x/bv (2^64) vs<=q->q<=bv (2^64) x/bv (2^64) vs+1->
    ∃tm x',rK P L (rK P L (Bv 0 (F5 (Ex.exit 0,⟨gM,H2 qs (pre++x++post),2,2⟩))) (.kp [0,1,5,6])) (aC (aC (aC (aC (aC (aC At.body))))))=F5 (.ret,⟨tm,H2 qs (pre++x'++post),2,2⟩)/\aj tm 4=uc (bv (2^64) x/bv (2^64) vs)/\x'.length=n+1/\lo (2^64) x'/\bv (2^64) x'=bv (2^64) x%bv (2^64) vs:=by
   intro gM q t0 t1 t5 t6 g1 g2 g3;have hk:cd gM [0,1,5,6]=[(0,.ay 0 pre.length (n+1)),(1,w),(5,aa n),(6,uc q)]:=by simp only[go_sem,t0,t1,t5,t6]
   rw[adb,jb,agD,sS (by rw[hk];simp only[go_sem,yq,nO,oN,nK,nH,AT,vU]) (by rw[hk];simp only[go_sem,yb,yq,jL hw.pu]),jb,hk];exact avm h hw hl g1 g2 g3
  by_cases hc:u0<v1
  .have f1:=agN h.agS h.LS (P:=P) (L:=L) hc Qy Hr;have fR:=xT (u0*2^64+u1) v1;have oZ:=xD (u0*2^64+u1) hl.pos;have qU:(u0*2^64+u1)/v1<2^64:=by
    refine (xO hl.pos).2 ?_
    have:=yT (2^64) (show u0+1<=v1 from hc)
    rw[xA (2^64) v1]
    lia
   have O2:=hl.first;rw[xA] at fR;generalize (u0*2^64+u1)/v1=q0 at*
   generalize (u0*2^64+u1)%v1=r0 at*
   simp only[go_sem,ya,yj,At,H2,hw.len,hl.lv,su,wrapN (n:=n-1) (by lia),fg,dd 0 pre.length (show n<n+1 by lia),dd 0 pre.length (show n-1<n+1 by lia),DK,DL,show ¬(v1:Int)<=(u0:Int) by lia,f1];generalize om:D P L (.loop _ Bo) _=qq;obtain⟨ex,s,rfl,gM,q,rfl,rfl,t0,t1,t5,t6,g1,g2,g3⟩:=bQ om (aea (P:=P) (L:=L) h.nZ h.iz hw hl (pre:=pre) (post:=post) (qs:=qs) q0) ⟨q0,r0,by
    rw[sS (by simp only[go_sem,ya,yq,nO,oN,nK,nH,AT,vU]) (by simp only[go_sem,ya,yb,yq,jL hw.pu])];rw[yU (show r0<2^64 by lia),xR (show r0<2^64 by lia)]
    simp only[go_sem,ya]<;>rfl,fR,by lia,qU,O2,rfl⟩
   exact behind gM q t0 t1 t5 t6 g1 g2 g3
  .have zE:u0=v1:=by lia
   have f1:=EI (P:=P) (f:=D P L) h.iz Qy Hr (c:=0) (by lia);rw[yZ,show (uc 0)=AV.int .u64 0 from rfl] at f1;have Qz:=hl.digit
   simp only[go_sem,ya,yj,At,H2,hw.len,hl.lv,su,wrapN (n:=n-1) (by lia),fg,dd 0 pre.length (show n<n+1 by lia),dd 0 pre.length (show n-1<n+1 by lia),DK,DL,show (v1:Int)<=(u0:Int) by lia,f1];generalize om:D P L (.loop _ Bo) _=qq;obtain⟨ex,s,rfl,gM,q,rfl,rfl,t0,t1,t5,t6,g1,g2,g3⟩:=bQ om (aea (P:=P) (L:=L) h.nZ h.iz hw hl (pre:=pre) (post:=post) (qs:=qs) 18446744073709551615) ⟨18446744073709551615,u1+v1,by
    rw[sS (by simp only[go_sem,ya,yq,nO,oN,nK,nH,AT,vU]) (by simp only[go_sem,ya,yb,yq,jL hw.pu])]
    simp only[go_sem,ya]<;>rfl,by rw[zE];lia,by lia,by decide,by lia,rfl⟩
   exact behind gM q t0 t1 t5 t6 g1 g2 g3
 have⟨tm,x',g1,g2,g3,g4,g5⟩:=jY;refine⟨x',?_,g3,g4,g5⟩;exact J3 h.azG g1 (.inr rfl) (by show jo _ [RV.t 4]=_;rw[Wo,Vw,g2])
def WN(v:AV)(m:Nat):Prop:=∃l,bK v l/\lo (2^64) l/\iD l/\bv (2^64) l=m
def apo(i:Nat)(q:List Nat)(x:Nat):(yE (i+1) 0++q).set i x=yE i 0++x::q:=by
 rw[List.replicate_succ',xK]
 simp_all
def OH{b:Nat}{l:List Nat}{i:Nat}(h:i<l.length):bv b (l.drop i)=l.getD i 0+b*bv b (l.drop (i+1)):=by
 rw[yW h,gd h];rfl
def UY{v w:AV}{x y:List Nat}(hv:bK v x)(hw:bK w y)(hp:Hp):result hp (.aw [v,w])=F5 (.aw [v,w]):=by
 rcases hv with ⟨rfl,_⟩ | ⟨e,rfl⟩<;>rcases hw with ⟨rfl,_⟩ | ⟨e',rfl⟩<;>rfl
def arK{hp:Hp}{id n l h:Nat}{pu ex:Bool}{cs:List AV}{tm:Env}{x y:X}(hg:ak hp id=F5 (.cells ydo pu ex 1 cs))(hx:cX tm 0 (F5 x)=F5 l)(hy:cX tm n (F5 y)=F5 h)(h1:l<h)(h2:h<=n):
  fI hp (.sl 1) (.ay id 0 n) tm (F5 x) (F5 y)=F5 (.ay id l (h-l)):=by
 simp only[fI,hg,hx,hy,yy (uS h1),yy h2,wQ,wG,yu,gF (Nat.ne_of_lt h1),wW,yO,yd,yj]
def ab7{hp:Hp}{id n h:Nat}{pu ex:Bool}{cs:List AV}{tm:Env}{y:X}(hg:ak hp id=F5 (.cells ydo pu ex 1 cs))(hy:cX tm n (F5 y)=F5 h)(h1:0<h)(h2:h<=n):
  fI hp (.sl 1) (.ay id 0 n) tm F6 (F5 y)=F5 (.ay id 0 h):=by
 have hx:cX tm 0 F6=F5 0:=rfl;simp only[fI,hg,hx,hy,yy (tD h),yy h2,wQ,wG,yu,gF (show (0:Nat)≠h by lia),wW,yO,vt,yZ,ycM]
def afC(P:aF)(L:Lib)(f:cu)(hp:Hp)(ct n:Nat)(xs:List AV):eR P L f hp ct .heap (.fn (.f n) [] []) xs=js P L f hp ct n xs:=by
 simp only[eR,yL,wL]
def avn(h:Wd P L){v w:AV}{x:List Nat}(hv:bK v x)(hx:lo (2^64) x)(lx:x.length<=99999999999){d:Nat}(hw:bK w [d])(gP:0<d)(Yn:d<2^64){n:Nat}(hn:n=x.length):
  ew P L [0,1,6,7,8] Kl (fun k s=>∃(i r:Nat) (q:List Nat),s=⟨[(0,v),(1,w),(6,.ay 0 0 n),(7,uc r),(8,aa ((i:Int)-1))],[(0,.cells ydo ydo ydo 1 ((yE i 0++q).map uc))],1,0⟩/\i=k/\i+q.length=n/\lo (2^64) q/\r<d/\bv (2^64) (x.drop i)=bv (2^64) q*d+r) (fun ex s'=>∃tm r q,s'=⟨tm,[(0,.cells ydo ydo ydo 1 (q.map uc))],1,0⟩/\ex=.exit 0/\aj tm 6=.ay 0 0 n/\aj tm 7=uc r/\q.length=n/\lo (2^64) q/\r<d/\bv (2^64) x=bv (2^64) q*d+r):=by
 apply eE;rintro k s ⟨i,r,q,rfl,rfl,hlen,aZ,hr,aP⟩
 cases i with
 | zero=>
  right
  simp only[go_sem,ya,Kl,show ¬(0:Int)<=((0:Nat):Int)-1 by lia];exact⟨_,_,rfl,by simp,_,r,q,rfl,rfl,rfl,rfl,by lia,aZ,hr,by simpa using aP⟩
 | succ i=>
  left
  have gx:=iL (show 0<2^64 by decide) hx i;have e1:=hv.bj (i:=i) (by lia);have e2:=hw.bj (i:=0) (by simp);have kj:=OH (b:=2^64) (l:=x) (i:=i) (by lia);rw[show ([d]:List Nat).getD 0 0=d from rfl] at e2;generalize x.getD i 0=a at*
  have e3:=agN (P:=P) (L:=L) h.agS h.LS hr gx Yn;have fR:=xT (r*2^64+a) d;have oZ:=xD (r*2^64+a) gP;have qU:(r*2^64+a)/d<2^64:=by
   refine (xO gP).2 ?_
   lia
  generalize (r*2^64+a)/d=q1 at*
  generalize (r*2^64+a)%d=r1 at*
  have aR:=fun (hp:Hp) (ct:Nat)=>me (hp:=hp) (ct:=ct) (id:=0) (v:=q1) (ex:=ydo) (l:=yE (i+1) 0++q) (o:=i) (by simp;lia)
  simp only[go_sem,ya,yj,Kl,show ((i+1:Nat):Int)-1=(i:Int) by lia,show (0:Int)<=(i:Int) by lia,e1,e2,e3,dd 0 0 (show i<n by lia),yd,aR,apo];refine⟨_,i,rfl,by lia,i,r1,q1::q,?_,rfl,by simp;lia,NY.2 ⟨GM.2 qU,aZ⟩,oZ,?_⟩
  .rw [wrap64 (by lia) (by lia)];simp only[go_sem,ya,yb,az,av hv.pu,av hw.pu]<;>rfl
  .rw [kj,aP];simp only[bv];rw[xY,xL,<-xm (2^64)];rw[xA d q1] at fR
   lia
def anj{s u u1:Nat}(hs:s<64)(hu:u<2^64):u/2^s<2^64/\(0<s->u/2^s|||(u1*2^(64-s)%2^64)<2^64)/\
  (if 0<s then (u/2^s|||(u1*2^(64-s)%2^64)) else u/2^s)*2^s+u%2^s=u+2^64*(u1%2^s):=by
 have e:2^64=2^s*2^(64-s):=by rw[<-xM,show s+(64-s)=64 by lia]
 have h1:u1*2^(64-s)%2^64=(u1%2^s)*2^(64-s):=by rw[e,uD]
 have hp:=xt s;have h2:u/2^s<2^(64-s):=by
  refine (xO hp).2 ?_
  grind
 have h3:u/2^s|||(u1*2^(64-s)%2^64)=(u1%2^s)*2^(64-s)+u/2^s:=by rw[h1,ycZ,UX h2]
 have h4:(u1%2^s)*2^(64-s)+u/2^s<2^64:=by
  have:=yT (2^(64-s)) (show u1%2^s+1<=2^s from xD _ hp)
  grind
 have h5:=tq u (2^s)
 grind
def avo{us qs:List Nat}{n la m s:Nat}(hs:s<64)(lu:us.length=la)(gu:lo (2^64) us)(hn:n<la)(MX:la<=100000000000):
  ew P L [9,11,12,13,96,97] GA (fun k st=>∃(i:Nat) (rs:List Nat),st=⟨[(9,aa s),(11,.ay 0 0 la),(12,aa n),(13,.ay 1 0 m),(96,aa n),(97,aa i)],H2 qs (rs++us.drop i),2,0⟩/\i+k=n/\rs.length=i/\lo (2^64) rs/\bv (2^64) rs*2^s+us.getD 0 0%2^s=bv (2^64) (us.take i)+(2^64)^i*(us.getD i 0%2^s)) (fun ex st'=>∃tm rs,st'=⟨tm,H2 qs (rs++us.drop n),2,0⟩/\ex=.exit 4/\aj tm 11=.ay 0 0 la/\aj tm 12=aa n/\aj tm 13=.ay 1 0 m/\rs.length=n/\lo (2^64) rs/\bv (2^64) rs*2^s+us.getD 0 0%2^s=bv (2^64) (us.take n)+(2^64)^n*(us.getD n 0%2^s)):=by
 apply eE;rintro k st ⟨i,rs,rfl,hk,lr,gr,aP⟩;by_cases hi:i<n
 .left
  have dR:(0:Nat)<2^64:=by decide
  have g0:=iL dR gu i;have g1:=iL dR gu (i+1);have d0:us.drop i=us.getD i 0::us.getD (i+1) 0::us.drop (i+2):=by
   rw[yW (show i<us.length by lia),yW (show i+1<us.length by lia),gd,gd]
  have fa:=kI (b:=2^64) (l:=us) i;have jX:∀r,r<2^64->r*2^s+us.getD i 0%2^s=us.getD i 0+2^64*(us.getD (i+1) 0%2^s)->lo (2^64) (rs++[r])/\bv (2^64) (rs++[r])*2^s+us.getD 0 0%2^s=bv (2^64) (us.take (i+1))+(2^64)^(i+1)*(us.getD (i+1) 0%2^s):=fun r h1 h2=>by
   refine⟨NY.2 ⟨gr,GM.2 h1⟩,?_⟩;rw[zV,CH,lr,fa,xY,Ax,xm,xm];have e2:=congrArg (fun t=>(2^64)^i*t) h2;simp only[xL] at e2;generalize (2^64)^i*(r*2^s)=p1 at*
   generalize (2^64)^i*(us.getD i 0%2^s)=p2 at*
   generalize (2^64)^i*us.getD i 0=p3 at*
   generalize (2^64)^i*(2^64*(us.getD (i+1) 0%2^s))=p4 at*
   lia
  have Wx:us.drop (i+1)=us.getD (i+1) 0::us.drop (i+2):=by
   rw[yW (show i+1<us.length by lia),gd]
  generalize us.getD i 0=a at*
  obtain⟨c,hc⟩:∃c,c=us.getD (i+1) 0:=⟨_,rfl⟩;rw[<-hc] at g1 d0 Wx jX;generalize us.drop (i+2)=dr at*
  rw[d0];have⟨n1,n2,n3⟩:=anj (u1:=c) hs g0;have o1:=LR .i64 a (s:=s) (by lia);have o2:=LQ .i64 c (s:=64-s) (by lia);have o3:binOp .sub (.int .i64 64) (aa s)=F5 (aa (64-s:Nat)):=by
   rw[OC,wrap64 (by lia) (by lia)];congr 2;lia
  have o4:=Yf n1 (xD (c*2^(64-s)) dR);have sa:∀z y,(rs++z::y).set i a=rs++a::y:=fun z y=>by rw[ybk _ _ (by lia),lr];simp
  have e0:∀z y,uB i ((rs++z::y).map uc)=uc z::y.map uc:=fun z y=>by
   rw[xG,tG (by simp[lr])];rfl
  have e1:∀z y u,uB (i+1) ((rs++z::y::u).map uc)=uc y::u.map uc:=fun z y u=>by
   rw[show rs++z::y::u=(rs++[z])++y::u by simp,xG,tG (by simp[lr])];rfl
  have r9:∀(hp:Hp) (ct x z:Nat) (y:List Nat),gO hp ct 0 i 1 [.int .u64 (x:Int)] (F5 (.cells ydo ydo ydo 1 ((rs++z::y).map uc)))=F5 (.aw [],aU hp 0 (.cells ydo ydo ydo 1 ((rs++x::y).map uc)),ct):=fun hp ct x z y=>by
   rw[me (by simp;lia),ybk _ _ (by lia),lr];simp
  by_cases h0:0<s
  .rw [yz h0] at n3;have⟨f1,f2⟩:=jX _ (n2 h0) n3;generalize a/2^s=a1 at*
   generalize a1|||(c*2^(64-s)%2^64)=r at*
   simp only[go_sem,ya,yj,GA,H2,show (i:Int)<(n:Int) by lia,dd 0 0 (show i<la by lia),yd,e0,o1,r9,show (0:Int)<(s:Int) by lia,show (i:Int)+1=((i+1:Nat):Int) from rfl,wrapN (n:=i+1) (by lia),show ((i+1:Nat):Int)<(la:Int) by lia,dd 0 0 (show i+1<la by lia),e1,o3,o2,o4];refine⟨_,k-1,rfl,by lia,i+1,rs++[r],by simp only[go_sem,ya,yb,az];rw[Wx];simp,by lia,by simp[lr],f1,by rw[<-hc];exact f2⟩
  .rw [yp h0] at n3;have⟨f1,f2⟩:=jX _ n1 n3;generalize a/2^s=a1 at*
   simp only[go_sem,ya,yj,GA,H2,show (i:Int)<(n:Int) by lia,dd 0 0 (show i<la by lia),yd,e0,o1,r9,show ¬(0:Int)<(s:Int) by lia,show (i:Int)+1=((i+1:Nat):Int) from rfl,wrapN (n:=i+1) (by lia)];refine⟨_,k-1,rfl,by lia,i+1,rs++[a1],by simp only[go_sem,ya,yb,az];rw[Wx];simp,by lia,by simp[lr],f1,by rw[<-hc];exact f2⟩
 .right
  have:i=n:=by lia
  subst this;simp only[go_sem,ya,GA,H2,show ¬(i:Int)<(i:Int) by lia];exact⟨_,_,rfl,by simp,_,rs,rfl,rfl,rfl,rfl,rfl,lr,gr,aP⟩
section
variable {v w:AV}{l x:List Nat}
def aa4{b p A V bu bq0 U0 pre:Nat}(h1:bu=pre+p*A)(h2:bu+bq0*V=U0):(pre+p*(A%V))+(bq0+p*(A/V))*V=U0:=by
 have fR:=xT A V
 grind
def axY(hp:Hp)(ct:Nat)(ex:Bool)(sz n:Nat)(cs:List AV):own hp ct (.cM ex sz n cs)=(.ay ct 0 n,(ct,.cells ydo ydo ex sz cs)::hp,ct+1):=rfl
def avp(h:Wd P L){vs:List Nat}(hw:bK w vs)(gv:lo (2^64) vs){n la m:Nat}(lv:vs.length=n)(cE:2<=n)(Mw:n<=la)(MX:la<=99999999999)(hm:m=la-n+1)(dY:0<vs.getD (n-1) 0){s U0:Nat}:
  ew P L [9,10,11,12,13,14] Km (fun k st=>∃(j:Nat) (us qs:List Nat),st=⟨[(9,aa s),(10,w),(11,.ay 0 0 (la+1)),(12,aa n),(13,.ay 1 0 m),(14,aa ((j:Int)-1))],H2 qs us,2,0⟩/\j=k/\j<=m/\us.length=la+1/\qs.length=m/\lo (2^64) us/\lo (2^64) qs/\(∀i,i<j->qs.getD i 0=0)/\
    bv (2^64) us+bv (2^64) qs*bv (2^64) vs=U0/\bv (2^64) (us.drop j)<bv (2^64) vs) (fun ex st'=>∃tm us qs,st'=⟨tm,H2 qs us,2,0⟩/\ex=.exit 2/\aj tm 9=aa s/\aj tm 11=.ay 0 0 (la+1)/\aj tm 12=aa n/\aj tm 13=.ay 1 0 m/\us.length=la+1/\qs.length=m/\lo (2^64) us/\lo (2^64) qs/\
    bv (2^64) us+bv (2^64) qs*bv (2^64) vs=U0/\bv (2^64) us<bv (2^64) vs):=by
 apply eE;rintro k st ⟨j,us,qs,rfl,rfl,hj,lu,lq,gu,gq,hz,aP,qv⟩
 cases j with
 | zero=>
  right
  simp only[go_sem,ya,Km,H2,show ¬(0:Int)<=((0:Nat):Int)-1 by lia];exact⟨_,_,rfl,by simp,_,us,qs,rfl,rfl,rfl,rfl,rfl,rfl,lu,lq,gu,gq,aP,by simpa using qv⟩
 | succ j=>
  left
  have dR:(0:Nat)<2^64:=by decide
  obtain⟨pre,eN⟩:∃p,p=us.take j:=⟨_,rfl⟩;obtain⟨x,hx⟩:∃p,p=(us.drop j).take (n+1):=⟨_,rfl⟩;obtain⟨post,fT⟩:∃p,p=us.drop (j+(n+1)):=⟨_,rfl⟩;have lp:pre.length=j:=by rw[eN,yR];lia
  have lx:x.length=n+1:=by rw[hx,yR,xU];lia
  have lI:us=pre++x++post:=by
   rw[eN,hx,fT,<-vQ,xK,wb,wb]
  have gx:lo (2^64) x:=by rw[hx];exact Cz (ac8 gu _) _
  have Wy:lo (2^64) pre:=by rw[eN];exact Cz gu _
  have axZ:lo (2^64) post:=by rw[fT];exact ac8 gu _
  have hA:bv (2^64) (us.drop j)=us.getD j 0+2^64*bv (2^64) (us.drop (j+1)):=OH (by lia);have hgj:=iL dR gu j;have Yo:us.drop j=x++post:=by rw[fT,hx,<-vQ,wb]
  have B5:bv (2^64) (us.drop j)=bv (2^64) x+(2^64)^(n+1)*bv (2^64) post:=by rw[Yo,zV,lx]
  have MV:=nR gv;rw[lv] at MV;have aM:bv (2^64) (us.drop j)<2^64*bv (2^64) vs:=by lia
  have hp0:bv (2^64) post=0:=by
   rcases xx (bv (2^64) post) with e | e
   .exact e
   .have h1:=xa ((2^64)^(n+1)) e;rw[yj,Ax] at h1;rw[Ax] at B5
    lia
  rw[hp0,xH,yZ] at B5;have hl:iS x vs n (vs.getD (n-1) 0) (vs.getD (n-2) 0) (x.getD n 0) (x.getD (n-1) 0) (x.getD (n-2) 0):=
   ⟨cE,by lia,lx,lv,gx,gv,rfl,rfl,rfl,rfl,rfl,dY,by rw[<-B5];exact aM⟩
  have Qz:=hl.digit;have⟨x',e1,Yp,RP,MY⟩:=azM h hw hl (pre:=pre) (post:=post) (qs:=qs);rw[lp,<-lI] at e1;have Yq:bv (2^64) us=bv (2^64) pre+(2^64)^j*bv (2^64) x:=by
   have:=JL (b:=2^64) us j (by lia)
   rw[B5,<-eN] at this;exact this
  have Wz:bv (2^64) (pre++x'++post)=bv (2^64) pre+(2^64)^j*bv (2^64) x':=by
   rw[xK,zV,zV,hp0,xH,yZ,lp]
  have aU:=p6 (b:=2^64) (l:=qs) (i:=j) (x:=bv (2^64) x/bv (2^64) vs) (by lia);rw[hz j (by lia),xH,yZ] at aU;have jX:=aa4 (b:=0) Yq aP;have aR:=fun (hp:Hp) (ct:Nat)=>me (hp:=hp) (ct:=ct) (id:=1) (v:=bv (2^64) x/bv (2^64) vs) (ex:=ydo) (l:=qs) (o:=j) (by lia)
  have zH:0<bv (2^64) vs:=by lia
  have oZ:=xD (bv (2^64) x) zH;have oY:∀tm (x y:X),cX tm 0 (F5 x)=F5 j->cX tm (la+1) (F5 y)=F5 (j+n+1)->fI (H2 qs us) (.sl 1) (.ay 0 0 (la+1)) tm (F5 x) (F5 y)=F5 (.ay 0 j (n+1)):=fun tm x y h1 h2=>by
   rw[arK (cs:=us.map uc) (pu:=ydo) (ex:=ydo) rfl h1 h2 (by lia) (by lia),show j+n+1-j=n+1 by lia]
  simp only[go_sem,ya,yj,Km,H2,show ((j+1:Nat):Int)-1=(j:Int) by lia,show (0:Int)<=(j:Int) by lia,show (j:Int)+(n:Int)=((j+n:Nat):Int) from rfl,wrapN (n:=j+n) (by lia),show ((j+n:Nat):Int)+1=((j+n+1:Nat):Int) from rfl,wrapN (n:=j+n+1) (by lia),oY,eC,afC,e1,dd 1 0 (show j<m by lia),yd,aR];refine⟨_,j,rfl,by lia,j,pre++x'++post,qs.set j (bv (2^64) x/bv (2^64) vs),?_,rfl,by lia,by rw[rC,lp,Yp,fT,xU];lia,by simp[lq],NY.2 ⟨NY.2 ⟨Wy,RP⟩,axZ⟩,nN gq Qz,fun i hi=>by rw[rB (by lia)];exact hz i (by lia),?_,?_⟩
  .rw [wrap64 (by lia) (by lia)];simp only[go_sem,ya,yb,az,av hw.pu]<;>rfl
  .rw [Wz,MY,aU];exact jX
  .rw [xK,tG lp,zV,hp0,xH,yZ,MY];exact oZ
def ax0{n:Nat}(h:l.length=n+1):(2^64)^n*l.getD n 0<=bv (2^64) l:=by
 have:=kI (b:=2^64) (l:=l) n
 grind
def qw{m K:Nat}(hn:iD l)(hv:bv (2^64) l=m)(h:m<(2^64)^K):l.length<=K:=amF (b:=2^64) (by decide) hn (by rw[hv];exact h)
def avq(h:Wd P L){d:Nat}(hv:bK v x)(hw:bK w [d])(gx:lo (2^64) x)(lx:x.length<=90000000000)(gP:0<d)(Yn:d<2^64)(ec:ah P L 158 [v,w] (aa (dW (bv (2^64) x) d)))(hc:d<=bv (2^64) x):
  ∃q r,ah P L 137 [v,w] (.aw [q,r])/\WN q (bv (2^64) x/d)/\WN r (bv (2^64) x%d):=by
 have eQ:¬dW (bv (2^64) x) d<0:=by unfold dW;rw[yp (by lia)];split<;>decide
 obtain⟨n,hn⟩:∃n,n=x.length:=⟨_,rfl⟩;have main:∃r l,(∀c:Nat->AV->AV->Option AV,True)/\r<d/\l.length=n/\lo (2^64) l/\bv (2^64) x=bv (2^64) l*d+r/\
   ∃q1 r1,bK q1 (ej l)/\bK r1 (ej [r])/\ah P L 137 [v,w] (.aw [q1,r1]):=by
  unfold ah;rw[aG h.Ww]
  simp only[go_sem,ya,Li,hv.len,hv.ai,hw.len,hw.ai,ec,eQ,yv,yI,yd,show ((1:Nat):Int)=(1:Int) from rfl,<-hn,Ff (n:=n) _ (by lia)];generalize hq:D P L (.loop _ Kl) _=q;obtain⟨ex,s,rfl,tm,r,l,rfl,rfl,t6,t7,AM,aZ,hr,aP⟩:=bQ hq (avn (P:=P) (L:=L) h hv gx (by lia) hw gP Yn hn n) ⟨n,0,[],by
   rw[wrap64 (by lia) (by lia),wL]
   simp only[go_sem,ya,yb,az,av hv.pu,av hw.pu]<;>rfl,rfl,rfl,OY,gP,by rw[xh (by lia)];simp[bv]⟩
  have hf:=oF ydo l;rw[AM] at hf;have⟨q1,e1,fY⟩:=Db h.nY hf (by lia);have⟨r1,e2,et⟩:=Db h.nY (oF ydo [r]) (by simp);simp only[yv,yI,yd,xe,List.map_nil] at e2;refine⟨r,l,fun _=>trivial,hr,AM,aZ,aP,q1,r1,fY,et,?_⟩
  simp only[go_sem,ya,yb,yq,yi,yj,az,t6,t7,Da _ (n:=n) (l:=l) AM ydo,e1,fY.shut,e2,et.shut];exact UY fY et _
 have⟨r,l,_,hr,AM,aZ,aP,q1,r1,fY,et,e⟩:=main;have hq:bv (2^64) l=bv (2^64) x/d:=by
  rw[aP,xA,yar gP,xR hr,yZ]
 have hm:r=bv (2^64) x%d:=by
  rw[aP,xA,yas,yU hr]
 exact⟨q1,r1,e,⟨_,fY,Cu aZ,Ct _,by rw[Cs,hq]⟩,⟨_,et,Cu (GM.2 (by lia)),Ct _,by rw[Cs,CH,hm]⟩⟩
def avr(h:Wd P L){y:List Nat}(hv:bK v x)(hw:bK w y)(gx:lo (2^64) x)(gy:lo (2^64) y)(nx:iD x)(ny:iD y)(lx:x.length<=90000000000)(ly:2<=y.length)(ec:ah P L 158 [v,w] (aa (dW (bv (2^64) x) (bv (2^64) y))))(hc:bv (2^64) y<=bv (2^64) x):
  ∃q r,ah P L 137 [v,w] (.aw [q,r])/\WN q (bv (2^64) x/bv (2^64) y)/\WN r (bv (2^64) x%bv (2^64) y):=by
 have dR:(0:Nat)<2^64:=by decide
 have eQ:¬dW (bv (2^64) x) (bv (2^64) y)<0:=by unfold dW;rw[yp (by lia)];split<;>decide
 have hyx:y.length<=x.length:=by
  by_cases hh:x.length<y.length
  .have:=OB (b:=2^64) (by decide) gx ny hh;lia
  .lia
 obtain⟨n,hn⟩:∃n,n=y.length:=⟨_,rfl⟩;obtain⟨la,MX⟩:∃la,la=x.length:=⟨_,rfl⟩;have rM:=Oe ny (fun e=>by subst e;simp at ly);have FO:=iL dR gy (y.length-1);have Yr:=hw.bj (i:=y.length-1) (by lia);have j9:=ax0 (l:=y) (n:=n-1) (by lia);rw[<-hn] at rM FO Yr;obtain⟨top,qv⟩:∃top,y.getD (n-1) 0=top:=⟨_,rfl⟩;rw[qv] at rM FO Yr j9;have elz:=ad8 (P:=P) (f:=D P L) h.LS FO;have⟨z1,z2,z3⟩:=TY (yam rM) FO;generalize 64-eO 64 top=s at*
 have⟨ov,ev,lov,gov,vov⟩:=agO h.agT hw gy (by lia) z1;have⟨ou,eu,lou,gou,vou⟩:=agO h.agT hv gx (by lia) z1;have⟨v',Ys,eV⟩:=Db h.nY (oF ydo ov) (by lia);rw[lov,<-hn] at Ys;rw[<-hn] at ev;rw[<-MX] at eu lou;have ki:=xt s;obtain⟨vs,BW⟩:∃vs,vs=ej ov:=⟨_,rfl⟩;rw[<-BW] at eV;have FP:lo (2^64) vs:=by rw[BW];exact Cu gov
 have MZ:iD vs:=by rw[BW];exact Ct _
 have AU:bv (2^64) vs=bv (2^64) y*2^s:=by rw[BW,Cs,vov]
 have hyW:bv (2^64) y*2^s<(2^64)^n:=by
  have e:2^64=2^(64-s)*2^s:=by rw[<-xM,show 64-s+s=64 by lia]
  have e1:=kI (b:=2^64) (l:=y) (n-1);rw[show n-1+1=n by lia,yK (by lia),qv] at e1;have e2:=nR (Cz gy (n-1));rw[yR,xF (by lia)] at e2;have e3:top<2^(64-s):=uY (a:=2^s) (Nat.lt_of_lt_of_eq z3 e);have e4:=yT (2^s) (show top+1<=2^(64-s) from e3);rw[<-e] at e4;have e5:bv (2^64) y<(2^64)^(n-1)*(top+1):=by rw[xL,yj];lia
  have e6:=xV e5 ki;rw[xm] at e6;have e7:=xa ((2^64)^(n-1)) e4;rw[<-Ax,show n-1+1=n by lia] at e7;exact yG e6 e7
 have azN:(2^64)^(n-1)*2^s<=bv (2^64) vs:=by
  rw[AU];refine yT _ (xu ?_ j9)
  have:=xa ((2^64)^(n-1)) (show 1<=top by lia)
  lia
 have B6:vs.length=n:=by
  have h1:vs.length<=n:=by
   refine qw MZ AU ?_;exact hyW
  have h2:¬vs.length<n:=fun hh=>by
   have e1:=nR FP;have e2:(2^64)^vs.length<=(2^64)^(n-1):=xd dR (by lia);have e3:=yT (2^s) j9;rw[xm,<-AU] at e3;have e4:=xa ((2^64)^(n-1)) (show 1<=top*2^s by lia)
   lia
  lia
 have dY:0<vs.getD (n-1) 0:=by
  have:=Oe MZ (fun e=>by rw[e] at B6;simp at B6;lia)
  rw[B6] at this;exact yam this
 obtain⟨m,hm⟩:∃m,m=la-n+1:=⟨_,rfl⟩;have Vz:bv (2^64) (ou.drop m)<bv (2^64) vs:=by
  have e1:=JL (b:=2^64) ou m (by lia);have e2:=nR gx;rw[<-MX] at e2;have e3:=xV e2 ki;rw[<-vou] at e3;have e4:(2^64)^la=(2^64)^m*(2^64)^(n-1):=by rw[<-xM];congr 1;lia
  rw[e4,xm] at e3;have e5:(2^64)^m*bv (2^64) (ou.drop m)<(2^64)^m*((2^64)^(n-1)*2^s):=by lia
  exact yG (Nat.lt_of_mul_lt_mul_left e5) azN
 have e1y:(y.length:Int)-1=((n-1:Nat):Int):=by lia
 have azO:((la:Nat):Int)-(n:Int)=((m-1:Nat):Int):=by lia
 have jY:∃tm us qs rs,(us.length=la+1/\qs.length=m/\lo (2^64) us/\lo (2^64) qs/\bv (2^64) us+bv (2^64) qs*bv (2^64) vs=bv (2^64) x*2^s/\bv (2^64) us<bv (2^64) vs/\
   rs.length=n/\lo (2^64) rs/\bv (2^64) rs*2^s+us.getD 0 0%2^s=bv (2^64) (us.take n)+(2^64)^n*(us.getD n 0%2^s))/\aj tm 0=v/\
   ∃q1 r1,bK q1 (ej qs)/\bK r1 (ej rs)/\ah P L 137 [v,w] (.aw [q1,r1]):=by
  unfold ah at ec ev eu Ys;unfold ah;rw[aG h.Ww];have hfo:=Da (n:=n+1) (l:=ov) (hp:=[]) (by lia) ydo
  simp only[go_sem,ya,yb,Li,hv.len,hv.ai,hw.len,hw.ai,ec,eQ,show ¬(y.length:Int)=1 by lia,e1y,wrapN (n:=n-1) (by lia),Yr,elz,ev,axY,Da _ (n:=n+1) (l:=ov) (by lia) ydo,Ys,eV.len,eV.shut,eu,B6,<-MX,azO,wrapN (n:=m-1) (by lia),show ((m-1:Nat):Int)+1=(m:Int) by lia,wrapN (n:=m) (by lia),Ff (n:=m) _ (by lia)];generalize om:D P L (.loop _ Km) _=qq;obtain⟨ex,st,rfl,tm,us,qs,rfl,rfl,t9,t11,t12,t13,RQ,RR,H4,Yt,aP,aM⟩:=bQ om (avp (P:=P) (L:=L) h eV FP B6 (by lia) (by lia) (by lia) hm dY (s:=s) (U0:=bv (2^64) x*2^s) m) ⟨m,ou,yE m 0,by
   rw[show ((m-1:Nat):Int)=(m:Int)-1 by lia]
   simp only[go_sem,ya,yb,az,av eV.pu]<;>rfl,rfl,yx _,lou,by simp,gou,GN dR m,fun i _=>Em m i,by rw[GO,vt,yZ,vou],Vz⟩
  simp only[go_sem,ya,yb,az,t9,t11,t12,t13];generalize Fh:D P L (.loop _ GA) _=Yj;obtain⟨ex,st,rfl,lQ,rs,rfl,rfl,t11,t12,t13,Yu,Yv,QA⟩:=bQ Fh (avo (P:=P) (L:=L) (qs:=qs) (m:=m) (la:=la+1) (n:=n) z1 RQ H4 (by lia) (by lia) n) ⟨0,[],by simp only[go_sem,ya,yb,az]<;>rfl,by lia,rfl,OY,by simp[bv]⟩
  have oY:∀(hp:Hp) tm (y:X),ak hp 0=F5 (.cells ydo ydo ydo 1 ((rs++us.drop n).map uc))->cX tm (la+1) (F5 y)=F5 n->fI hp (.sl 1) (.ay 0 0 (la+1)) tm F6 (F5 y)=F5 (.ay 0 0 n):=fun hp tm y h1 h2=>ab7 h1 h2 (by lia) (by lia)
  have M0:=oF ydo qs;rw[RR] at M0;have⟨q1,f1,fY⟩:=Db h.nY M0 (by lia);have fa:(rs++us.drop n).take n=rs:=by rw[List.take_append_of_le_length (by lia),yK (by lia)]
  have M1:∃e,∀hp:Hp,nc 0 n (F5 (ydo,1,(rs++us.drop n).map uc,hp))=F5 (.ap e n (rs.map uc),hp):=by
   refine⟨ydo&&yM 0 1&&yo n ((rs++us.drop n).map uc).length,fun hp=>?_⟩;simp only[nc,yd,yj,slice,yg,<-yaW,fa];rw[yy (by simp;lia)]
   rfl
  have⟨e,M1⟩:=M1;have iU:=oF e rs;rw[Yu] at iU;have⟨r1,f2,et⟩:=Db h.nY iU (by lia);unfold ah at f1 f2;refine⟨[(0,v)],us,qs,rs,⟨RQ,RR,H4,Yt,aP,aM,Yu,Yv,QA⟩,rfl,q1,r1,fY,et,?_⟩
  simp only[go_sem,ya,yb,az,t11,t12,t13,Da _ (n:=m) (l:=qs) RR ydo,f1,fY.shut,oY,eC,M1,f2,et.shut];exact UY fY et _
 have⟨tm,us,qs,rs,⟨RQ,RR,H4,Yt,aP,aM,Yu,Yv,QA⟩,_,q1,r1,fY,et,e⟩:=jY;have fX:0<bv (2^64) y:=by
  have:=xa ((2^64)^(n-1)) (show 1<=top by lia)
  have:=ycI (n:=n-1) dR
  lia
 rw[AU] at aP aM;have LU:bv (2^64) qs=bv (2^64) x/bv (2^64) y:=by
  rw[<-tX _ _ ki,<-aP,ycb,xA,yar (vO fX ki),xR aM,yZ]
 have RS:bv (2^64) us=(bv (2^64) x%bv (2^64) y)*2^s:=by
  rw[<-uD,<-aP,ycb,xA (bv _ qs),yas,yU aM]
 have lI:=JL (b:=2^64) us n (by lia);have gP:bv (2^64) (us.drop n)=0:=by
  rcases xx (bv (2^64) (us.drop n)) with h0 | h0
  .exact h0
  .have:=xa ((2^64)^n) h0
   lia
 have hun:us.getD n 0=0:=by
  have:=OH (b:=2^64) (l:=us) (i:=n) (by lia)
  lia
 rw[gP,xH,yZ] at lI;have DF:us.getD 0 0%2^s=0:=by
  have e1:=OH (b:=2^64) (l:=us) (i:=0) (by lia);rw[yg,RS] at e1;have e2:2^64=2^s*2^(64-s):=by rw[<-xM,show s+(64-s)=64 by lia]
  have e3:(us.getD 0 0+2^64*bv (2^64) (us.drop (0+1)))%2^s=us.getD 0 0%2^s:=by
   conv=>lhs;rw[e2,xm]
   exact Nat.add_mul_mod_self_left _ _ _
  rw[<-e3,<-e1,Nat.mul_mod_left]
 rw[hun,DF,Nat.zero_mod,xH,yZ,yZ,<-lI,RS] at QA;have afD:bv (2^64) rs=bv (2^64) x%bv (2^64) y:=Nat.eq_of_mul_eq_mul_right ki QA;exact⟨q1,r1,e,⟨_,fY,Cu Yt,Ct _,by rw[Cs,LU]⟩,⟨_,et,Cu Yv,Ct _,by rw[Cs,afD]⟩⟩
def agW(h:Wd P L){a b K:Nat}(hv:WN v a)(hw:WN w b)(hb:0<b)(ha:a<(2^64)^K)(hbK:b<(2^64)^K)(hK:K<=90000000000):
  ∃q r,ah P L 137 [v,w] (.aw [q,r])/\WN q (a/b)/\WN r (a%b):=by
 have⟨x,H5,gx,nx,vx⟩:=hv;have⟨y,RU,gy,ny,vy⟩:=hw;have lx:x.length<=90000000000:=xu (qw nx vx ha) hK;have ly:y.length<=90000000000:=xu (qw ny vy hbK) hK;have ec:=agJ h.agU H5 RU gx gy nx ny (by lia) (by lia);subst vx;subst vy;by_cases hc:bv (2^64) x<bv (2^64) y
 .have eQ:dW (bv (2^64) x) (bv (2^64) y)= -1:=by unfold dW;rw[yz hc]
  rw[eQ] at ec;refine⟨.af,v,?_,⟨[],zX,OY,rfl,by rw[xR hc];rfl⟩,⟨x,H5,gx,nx,by rw[yU hc]⟩⟩
  unfold ah;rw[aG h.Ww];simp only[go_sem,ya,Li,H5.ai,RU.ai,ec,show (-1:Int)<0 by decide];exact UY zX H5 _
 .rcases (show y.length=0\/y.length=1\/2<=y.length by lia) with h0 | h1 | h2
  .rw [yQ h0] at hb;simp[bv] at hb
  .obtain ⟨d,rfl⟩:∃d,y=[d]:=by
    cases y with
    | nil=>simp at h1
    | cons d r=>cases r with
     | nil=>exact⟨d,rfl⟩
     | cons e r=>simp at h1
   exact avq h H5 RU gx lx hb (GM.1 gy) ec (by lia)
  .exact avr h H5 RU gx gy nx ny lx h2 ec (by lia)
end
def mf(v:AV)(n:Int):Prop:=∃w l,v=.agg [.bool (decide (n<0)),w]/\bk w l/\dg l/\nz l/\dv l=n.natAbs
def kJ{l:List Int}{k:Nat}(hd:dg l)(hn:nz l)(h:dv l<1000000000^k):l.length<=k:=by
 by_cases h0:l=[]
 .grind
 .have h1:=Pu hn hd h0;have h2:1000000000^(l.length-1)<1000000000^k:=wA h1 h;have h3:=(uv (show 1<1000000000 by decide)).1 h2
  lia
def jg{hp:Hp}{ct id:Nat}{a b x y:AV}(h1:db a=ydo)(h2:db b=ydo)(p1:aV a=ydo)(p2:aV b=ydo):
  gO hp ct id 0 2 [a,b] (F5 (.cells ydo ydo ydo 2 [x,y]))=F5 (.aw [],aU hp id (.cells ydo ydo ydo 2 [a,b]),ct):=by
 rw[Am (by rfl) (by simp) (by simp[bP,h1,h2])];simp[aE,p1,p2,over]
def cC(neg:Bool)(m:Nat):Int:=if neg=ydo then -(m:Int) else m
def BK(h:Has P L 294 C5)(cZ:Has P L 300 mZ)(neg:Bool){v:AV}{l:List Int}(hv:bk v l)(hd:dg l)(hl:l.length<=20000000000):
  ∃r,ah P L 294 [.bool neg,v] r/\mf r (cC neg (dv l)):=by
 have⟨w,e1,hw,kA⟩:=C9 cZ hv hl;have qV:=Bf l;have DM:=Gn l;have mI:=Cr hd;have hc:(neg&&decide ((0:Int)<((eh l).length:Nat)))=decide (cC neg (dv l)<0):=by
  unfold cC
  cases neg with
  | false=>simp
  | true=>
   simp only[wM,xJ];by_cases h0:eh l=[]
   .rw [h0] at qV ⊢;simp only[dv] at qV;simp[<-qV]
   .have h1:0<(eh l).length:=tj.2 h0;have h2:0<dv l:=by
     rw[<-qV];rcases xx (dv (eh l)) with h | h
     .exact absurd (ac6 DM mI h) h0
     .exact h
    rw[xf (by lia),xf (by lia)]
 refine⟨.agg [.bool (decide (cC neg (dv l)<0)),w],?_,w,eh l,rfl,hw,mI,DM,?_⟩
 .rw [<-hc];unfold ah at e1 ⊢;rw[aG h]
  cases neg with
  | false=>
   simp only[go_sem,ya,yb,yi,C5,aO,hv.ai,e1,hw.pu,hw.shut,hw.one,hw.cells,jg];rcases hw with ⟨rfl,_⟩ | ⟨e,rfl⟩<;>rfl
  | true=>
   simp only[go_sem,ya,yb,yi,C5,aO,hv.ai,e1,hw.len,hw.pu,hw.shut,hw.one,hw.cells,jg];rcases hw with ⟨rfl,_⟩ | ⟨e,rfl⟩<;>rfl
 .rw [qV];unfold cC;split<;>lia
def agX(h:Has P L 298 Qe)(lL:Has P L 294 C5)(cZ:Has P L 300 mZ){v:AV}{n:Int}{K:Nat}(hK:K<=20000000000)(hv:mf v n)(hn:n.natAbs<1000000000^K):∃r,ah P L 298 [v] r/\mf r (-n):=by
 obtain⟨w,l,rfl,hw,hd,hz,qV⟩:=hv;have⟨r,e1,hr⟩:=BK lL cZ (!decide (n<0)) hw hd (xu (kJ hd hz (by rw[qV];exact hn)) hK)
 have e:cC (!decide (n<0)) (dv l)= -n:=by
  rw[qV];unfold cC;by_cases h0:n<0
  .simp [h0];lia
  .simp [h0];lia
 rw[e] at hr;obtain⟨w2,l2,rfl,iY,jJ,iV,BL⟩:=hr;refine⟨_,?_,w2,l2,rfl,iY,jJ,iV,BL⟩;unfold ah at e1 ⊢;rw[aG h];simp only[go_sem,ya,yb,Qe,aO,hw.pu,hw.ai,hw.one,iY.pu,iY.one,bg,yd,cO,e1,jg,bi];rcases iY with ⟨rfl,_⟩ | ⟨e,rfl⟩<;>rfl
section
variable {w:AV}{a b z:Int}{k m:Nat}
def dH(s:Int)(w:AV)(z:Int):Prop:=
 (w=.af/\s=z/\-9223372036854775808<=z/\z<9223372036854775808)\/
 (∃e l,w=.ap e l.length (l.map uc)/\lo (2^64) l/\iD l/\bv (2^64) l=z.natAbs/\s=(if z<0 then -1 else 1)/\9223372036854775808<=z.natAbs)
def cD(v:AV)(z:Int):Prop:=∃s w,v=.agg [aa s,w]/\dH s w z
def Bd(k:Nat)(z:Int):Prop:=z.natAbs<2^k
def CJ(k:Nat):2^k<=(2^64)^k:=Nat.pow_le_pow_left (by decide) k
def Bd.mono(h:Bd k z)(hk:k<=m):Bd m z:=yG h (xd (by decide) hk)
def Bd.neg(h:Bd k z):Bd k (-z):=by unfold Bd at h ⊢;rwa[Int.natAbs_neg]
def Bd.add(ha:Bd k a)(hb:Bd m b):Bd (max k m+1) (a+b):=by
 have h1:Bd (max k m) a:=ha.mono (by lia);have h2:Bd (max k m) b:=hb.mono (by lia);unfold Bd at h1 h2 ⊢
 grind
def Bd.mul(ha:Bd k a)(hb:Bd m b):Bd (k+m) (a*b):=by
 unfold Bd at*
 rw[Int.natAbs_mul,xM];exact Nat.mul_lt_mul'' ha hb
def Bd.le(hb:Bd k b)(h:a.natAbs<=b.natAbs):Bd k a:=wA h hb
def WN.pos{v:AV}(h:WN v m)(h0:0<m):∃e l,v=.ap e l.length (l.map uc)/\l≠[]/\lo (2^64) l/\iD l/\bv (2^64) l=m:=by
 have⟨l,hv,g,n,hb⟩:=h;have hl:l≠[]:=fun e=>by subst e;simp[bv] at hb;lia
 rcases hv with ⟨_,e⟩ | ⟨e,rfl⟩
 .simp_all
 .exact ⟨e,l,by simp,hl,g,n,hb⟩
def WN.aK{v:AV}(h:WN v m):∃l,bK v l/\lo (2^64) l/\iD l/\bv (2^64) l=m:=h
def p7(e:Bool)(n:Nat)(cs:List AV):kO .sl (.ap e n cs) .af=F5 ydp:=rfl
def iO:kO .sl .af .af=F5 ydo:=rfl
def OI(hp:Hp)(ct id:Nat)(a:Int)(e:Bool)(n:Nat)(cs:List AV)(x y:AV):gO hp ct id 0 2 [.int .i64 a,.ap e n cs] (F5 (.cells ydo ydo ydo 2 [x,y]))=F5 (.aw [],aU hp id (.cells ydo ydo ydo 2 [.int .i64 a,.ap e n cs]),ct):=jg rfl rfl rfl rfl
def z6{tm:Env}{a x y:AV}{r:List (Nat×Nat×X)}(h:db a=ydo):fJ tm [x,y] 0 1 [a] r=fill tm [a,y] r:=zZ (by simp) h
def dH.rm(h1: -9223372036854775808<=z)(h2:z<9223372036854775808):cD (.agg [aa z,.af]) z:=⟨z,.af,rfl,.inl ⟨rfl,rfl,h1,h2⟩⟩
def dH.bV{s:Int}(h:dH s w z):(s<0↔z<0)/\(s=0↔z=0)/\-9223372036854775808<=s/\s<9223372036854775808:=by
 rcases h with ⟨_,rfl,h1,h2⟩ | ⟨e,l,_,_,_,_,rfl,h1⟩
 .grind
 .grind
structure Nu(P:aF)(L:Lib):Prop extends Wd P L where
 azP:Has P L 117 PZ
 azQ:Has P L 142 P1
 WA:Has P L 136 Lh
 LV:Has P L 145 BF
 azR:Has P L 146 V9
 WB:Has P L 147 Lj
 agY:Has P L 163 P5
 azS:Has P L 118 E6
 agZ:Has P L 119 c119
 azT:Has P L 156 Wb
 QB:Has P L 100 nU
 WC:Has P L 164 nV
 azU:Has P L 148 Wa
 azV:Has P L 130 V8
def Fi(h:Nu P L)(h1: -9223372036854775808<=z)(h2:z<9223372036854775808):ah P L 117 [aa z] (.agg [aa z,.af])/\cD (.agg [aa z,.af]) z:=⟨n117 h.azP z,dH.rm h1 h2⟩
def WD(h:Nu P L){n:Int}(h1: -9223372036854775808<=n)(h2:n<9223372036854775808):ah P L 142 [aa n] (uc n.natAbs):=by
 unfold ah;rw[aG h.azQ];by_cases h0:n<0
 .have e:IntKind.wrap .u64 (IntKind.wrap .i64 (0-n))=(n.natAbs:Int):=by
   by_cases hm:n= -9223372036854775808
   .subst hm;rfl
   .rw [wrap64 (by lia) (by lia),PA];lia
  simp only[go_sem,ya,P1,h0,ad6,e]
 .have e:IntKind.wrap .u64 n=(n.natAbs:Int):=by rw[PA];lia
  simp only[go_sem,ya,P1,h0,ad6,e]
def BM(h:Nu P L){s:Int}(hz:dH s w z):∃r,ah P L 136 [.agg [aa s,w]] (.aw [.bool (decide (z<0)),r])/\WN (bJ r) z.natAbs:=by
 rcases hz with ⟨rfl,rfl,h1,h2⟩ | ⟨e,l,rfl,g,n,hb,hs,h1⟩
 .by_cases h0:s=0
  .subst h0;refine⟨.af,?_,[],zX,OY,rfl,rfl⟩;unfold ah;rw[aG h.WA];simp only[go_sem,ya,yb,Lh,aO,bg,yd,cO,iO,KL,Int.reduceLT];rfl
  .have e1:=WD h h1 h2;refine⟨.cM ydo 1 1 [uc s.natAbs],?_,[s.natAbs],oF ydo [s.natAbs],GM.2 (by lia),Ga (by lia) [],CH _⟩;unfold ah;rw[aG h.WA];simp only[go_sem,ya,yb,yi,yj,Lh,aO,bg,yd,cO,iO,KL,h0,e1];rfl
 .have qH:decide (s<0)=decide (z<0):=by rw[hs];split<;>simp<;>lia
  refine⟨.ap e l.length (l.map uc),?_,l,oF e l,g,n,hb⟩;unfold ah;rw[aG h.WA];simp only[go_sem,ya,yb,Lh,aO,bg,yd,cO,p7,KL,qH];rfl
def aa5{d:Nat}(h:d<=9223372036854775807):IntKind.wrap .i64 (d:Int)=d:=wrapN (by lia)
def Fj(h:Nu P L)(neg:Bool){K:Nat}(hw:WN w m)(hm:m<(2^64)^K)(hK:K<=90000000000):∃r,ah P L 145 [.bool neg,w] r/\cD r (cC neg m):=by
 have⟨l,hu,g,n,hb⟩:=hw;have AM:l.length<=90000000000:=xu (qw n hb hm) hK;by_cases h0:l=[]
 .subst h0
  have:m=0:=by rw[<-hb];rfl
  subst this;have e:cC neg 0=0:=by unfold cC;cases neg<;>rfl
  rw[e];refine⟨.agg [aa 0,.af],?_,dH.rm (by decide) (by decide)⟩;unfold ah;rw[aG h.LV];simp only[go_sem,ya,yb,BF,aO,hu.len,yI,show (((0:Nat):Nat):Int)=0 from rfl,Ad];rfl
 .have lR:0<l.length:=tj.2 h0;by_cases h1:l.length=1/\l.getD 0 0<=9223372036854775807
  .have ⟨h1,h2⟩:=h1;obtain⟨d,rfl⟩:∃d,l=[d]:=by
    cases l with
    | nil=>simp at h1
    | cons d r=>cases r with
     | nil=>exact⟨d,rfl⟩
     | cons e r=>simp at h1
   have h2:d<=9223372036854775807:=h2;rw[CH] at hb;subst hb;have ex:=hu.bj (i:=0) (by simp);rw[show ([d]:List Nat).getD 0 0=d from rfl] at ex;have hlen:∀hp,iM hp 1 w=F5 (.int .i64 1):=fun hp=>hu.len
   cases neg with
   | true=>
    refine⟨.agg [aa (0-(d:Int)),.af],?_,?_⟩
    .unfold ah;rw[aG h.LV]
     simp only[go_sem,ya,yb,yi,BF,aO,hlen,yba,ex,show (d:Int)<=9223372036854775807 by lia,O0,aa5 h2,wrap64 (n:=0-(d:Int)) (by lia) (by lia),Ad];rfl
    .have:cC ydo d=0-(d:Int):=by unfold cC;simp
     rw[this];exact dH.rm (by lia) (by lia)
   | false=>
    refine⟨.agg [aa (d:Int),.af],?_,?_⟩
    .unfold ah;rw[aG h.LV];simp only[go_sem,ya,yb,yi,BF,aO,hlen,yba,ex,show (d:Int)<=9223372036854775807 by lia,O0,aa5 h2,Ad];rfl
    .have:cC ydp d=(d:Int):=by unfold cC;simp
     rw[this];exact dH.rm (by lia) (by lia)
  .have FQ:9223372036854775808<=m:=by
    rw[<-hb];by_cases h2:l.length=1
    .obtain ⟨d,rfl⟩:∃d,l=[d]:=by
      cases l with
      | nil=>simp at h2
      | cons d r=>cases r with
       | nil=>exact⟨d,rfl⟩
       | cons e r=>simp at h2
     have:¬d<=9223372036854775807:=fun hd=>h1 ⟨h2,hd⟩
     rw[CH];lia
    .have h3:=UR (b:=2^64) (by decide) n h0;have h4:(2^64)^1<=(2^64)^(l.length-1):=xd (by decide) (by lia);rw[Nat.pow_one] at h4
     lia
   have dM:∃e,w=.ap e l.length (l.map uc):=by
    rcases hu with ⟨rfl,hh⟩ | ⟨e,rfl⟩
    .simp at hh;exact absurd hh h0
    .exact ⟨e,by simp⟩
   obtain⟨e,rfl⟩:=dM;have ex:=hu.bj (i:=0) lR;have first:(decide ((l.length:Int)=1)=ydo/\¬((l.getD 0 0:Nat):Int)<=9223372036854775807)\/decide ((l.length:Int)=1)=ydp:=by
    by_cases h2:l.length=1
    .left;refine⟨by simp;lia,fun hd=>h1 ⟨h2,by lia⟩⟩
    .right;simp;lia
   cases neg with
   | true=>
    refine⟨.agg [aa (-1),.ap e l.length (l.map uc)],?_,-1,_,rfl,.inr ⟨e,l,rfl,g,n,by rw[hb];unfold cC;simp,by unfold cC;simp;lia,by unfold cC;simp;lia⟩⟩
    unfold ah;rw[aG h.LV];rcases first with ⟨f1,f2⟩ | f1
    .simp only [go_sem,ya,yb,yi,BF,aO,show ¬(l.length:Int)=0 by lia,f1,f2,ex,z6,OI];rfl
    .simp only [go_sem,ya,yb,yi,BF,aO,show ¬(l.length:Int)=0 by lia,f1,z6,OI];rfl
   | false=>
    refine⟨.agg [aa 1,.ap e l.length (l.map uc)],?_,1,_,rfl,.inr ⟨e,l,rfl,g,n,by rw[hb];unfold cC;simp,by unfold cC;simp,by unfold cC;simp;lia⟩⟩
    unfold ah;rw[aG h.LV];rcases first with ⟨f1,f2⟩ | f1
    .simp only [go_sem,ya,yb,yi,BF,aO,show ¬(l.length:Int)=0 by lia,f1,f2,ex,z6,OI];rfl
    .simp only [go_sem,ya,yb,yi,BF,aO,show ¬(l.length:Int)=0 by lia,f1,z6,OI];rfl
end
section
variable {v w:AV}{a b s z:Int}{l:List Nat}{K:Nat}
def bw:VC->VC
 | .seq a _=>a
 | c=>c
def apq{x y:Nat}(ha:a.natAbs=x)(hb:b.natAbs=y)(h:decide (a<0)=decide (b<0)):cC (decide (a<0)) (x+y)=a+b:=by
 unfold cC
 grind
def ab8{m:Nat}(hm:m+b.natAbs=a.natAbs)(h:¬decide (a<0)=decide (b<0)):cC (decide (a<0)) m=a+b:=by
 unfold cC
 grind
def apr:cC (!decide (a<0)) a.natAbs= -a:=by
 unfold cC
 grind
def ab9:cC (decide (a<0) !=decide (b<0)) (a.natAbs*b.natAbs)=a*b:=by
 unfold cC
 grind
def oQ(h:bK w l)(hp:Hp):result hp (.agg [aa s,w])=F5 (.agg [aa s,w]):=by
 rcases h with ⟨rfl,_⟩ | ⟨e,rfl⟩<;>rfl
def ep(h:bK w l)(hp:Hp)(ct id:Nat)(x y:AV):gO hp ct id 0 2 [.int .i64 s,w] (F5 (.cells ydo ydo ydo 2 [x,y]))=F5 (.aw [],aU hp id (.cells ydo ydo ydo 2 [.int .i64 s,w]),ct):=jg rfl h.one rfl h.pu
def dH.aK(h:dH s w z):∃l,bK w l:=by
 rcases h with ⟨rfl,_⟩ | ⟨e,l,rfl,_⟩
 .exact ⟨[],zX⟩
 .exact ⟨l,oF e l⟩
def afE(hp:Hp)(sz:Nat)(ag:Bool):AV->Option AV
 | .ptr id o=>RH sz ag o (ak hp id)
 | .bt cs=>fU sz ag cs
 | _=>F6
def cJ(tm:Env)(hp:Hp)(ct base i sz:Nat)(ag:Bool):results1 ⟨tm,hp,ct,base⟩ (.cell i sz ag)=afE hp sz ag (aj tm i):=by
 rfl
def cK(hp:Hp)(sz:Nat)(ag:Bool)(id o:Nat):afE hp sz ag (.ptr id o)=RH sz ag o (ak hp id):=rfl
def Hs(h:Nu P L)(hv:cD v z):ah P L 146 [v] (aa (bV z)):=by
 obtain⟨s,w,rfl,hn⟩:=hv;have⟨l,hu⟩:=hn.aK;have e:bV s=bV z:=by
  have⟨h1,h2,_⟩:=hn.bV;unfold bV;by_cases h0:z<0
  .rw [yz h0,yz (h1.2 h0)]
  .by_cases h3:z=0
   .rw [yp (fun h=>h0 (h1.1 h)),yz (h2.2 h3),yp h0,yz h3]
   .rw [yp (fun h=>h0 (h1.1 h)),yp (fun h=>h3 (h2.1 h)),yp h0,yp h3]
 unfold ah;rw[aG h.azR];simp only[go_sem,ya,yb,V9,aO,hu.pu,hu.one,bg,yd,ad5,jf,ab2,JN,au9,e]
def Ht(h:Nu P L)(hv:cD v z)(hz:Bd K z)(hK:K<=90000000000):∃r,ah P L 147 [v] r/\cD r (-z):=by
 obtain⟨s,w,rfl,hn⟩:=hv;have⟨p,e1,hp⟩:=BM h hn;have⟨lp,iT,_⟩:=hp.aK;have⟨r,e2,hr⟩:=Fj h (!decide (z<0)) hp (yG hz (CJ K)) hK;rw[apr] at hr;have bB:=hr;obtain⟨s',w',rfl,lS⟩:=hr;have⟨l',kB⟩:=lS.aK;rcases hn with ⟨rfl,rfl,h1,h2⟩ | ⟨e,l0,rfl,g,n,hb,hs,h1⟩
 .by_cases h0:s= -9223372036854775808
  .refine ⟨_,?_,bB⟩;unfold ah;rw[aG h.WB];simp only[go_sem,ya,yb,Lj,aO,bg,yd,cO,iO,eH,h0];rw[h0] at e1 e2;simp only[go_sem,ya,bY,cm,e1,e2,iT.ai,bi,cJ,cK,bY,yg,oQ kB,ep kB]
  .refine ⟨.agg [aa (-s),.af],?_,dH.rm (by lia) (by lia)⟩;unfold ah;rw[aG h.WB]
   simp only[go_sem,ya,yb,Lj,aO,bg,yd,cO,iO,eH,h0,wrap64 (n:=0-s) (by lia) (by lia),Ad,z6];rw[Int.zero_sub];rfl
 .refine ⟨_,?_,bB⟩;unfold ah;rw[aG h.WB];simp only[go_sem,ya,yb,Lj,aO,bg,yd,cO,p7,eH,bY,cm,e1,e2,iT.ai,bi,cJ,cK,bY,yg,oQ kB,ep kB]
def ag0(h:Nu P L)(hv:cD v z)(hz:Bd K z)(hK:K<=90000000000):∃r,ah P L 163 [v] r/\cD r (z.natAbs:Nat):=by
 have eV:=hv;obtain⟨s,w,rfl,hn⟩:=hv;have⟨l,hu⟩:=hn.aK;have B7:=hn.bV.1;by_cases h0:z<0
 .have ⟨r,e1,hr⟩:=Ht h eV hz hK;rw[show -z=(z.natAbs:Int) by lia] at hr;have bB:=hr;obtain⟨s',w',rfl,lS⟩:=hr;have⟨l',kB⟩:=lS.aK;refine⟨_,?_,bB⟩;unfold ah;rw[aG h.agY];simp only[go_sem,ya,yb,P5,aO,hu.pu,hu.ai,hu.one,bg,yd,B7.2 h0,bY,cm,e1,bi,cJ,cK,bY,yg,oQ kB,ep kB]
 .rw [show ((z.natAbs:Nat):Int)=z by lia];refine⟨_,?_,eV⟩;unfold ah;rw[aG h.agY];simp only[go_sem,ya,yb,P5,aO,hu.pu,hu.one,bg,yd,show ¬s<0 from fun h=>h0 (B7.1 h),bY,cJ,cK,bY,yg,oQ hu,ep hu]
def avt(h:Nu P L){s1 s2:Int}{w1 w2:AV}(ha:dH s1 w1 a)(hb:dH s2 w2 b)(ka:Bd K a)(kb:Bd K b)(hK:K<=40000000000):
  ∃r,cD r (a+b)/\∀tm,aj tm 2=.ptr 0 0->aj tm 3=.ptr 1 0->aj tm 4=.ptr 2 0->gJ [.cell 4 2 ydo] (D P L (aC (aC c119.body)) ⟨tm,[(2,.cells ydo ydo ydo 2 [.int .i64 0,.af]),(1,.cells ydo ydo ydo 2 [aa s2,w2]),(0,.cells ydo ydo ydo 2 [aa s1,w1])],3,0⟩)=F5 r:=by
 have⟨l1,u1⟩:=ha.aK;have⟨l2,u2⟩:=hb.aK;have⟨p,e1,hp⟩:=BM h ha;have⟨q,e2,hq⟩:=BM h hb;have⟨lp,iT,gp,np,vp⟩:=hp.aK;have⟨lq,qW,gq,nq,vq⟩:=hq.aK;have DN:=yG ka (CJ K);have H6:=yG kb (CJ K);have llp:lp.length<=40000000000:=xu (qw np vp DN) hK;have llq:lq.length<=40000000000:=xu (qw nq vq H6) hK;by_cases hs:decide (a<0)=decide (b<0)
 .have ⟨o,lz,e3,ho,pC,no,vo⟩:=azx h.azH h.nY h.iz iT qW gp gq (by lia) (by lia);have⟨r,e4,hr⟩:=Fj h (decide (a<0)) ⟨lz,ho,pC,no,vo⟩ (K:=K+1) (by rw[vp,vq,xq];lia) (by lia)
  rw[apq vp.symm vq.symm hs] at hr;have bB:=hr;obtain⟨s',w',rfl,lS⟩:=hr;have⟨l',kB⟩:=lS.aK;refine⟨_,bB,fun tm t2 t3 t4=>?_⟩;simp only[go_sem,ya,c119,aC,t2,t3,bY,cm,u1.ai,u2.ai,e1,e2,iT.ai,qW.ai,eH,rL,hs,yah];rw[hs] at e4;simp only[go_sem,ya,t4,e3,ho.ai,ho.shut,e4,bi,cJ,cK,bY,yg,oQ kB,ep kB]
 .have qX:(decide (a<0)==decide (b<0))=ydp:=by simpa using hs
  have e3:=agJ h.agU iT qW gp gq np nq (by lia) (by lia);rw[vp,vq] at e3;by_cases hc:b.natAbs<=a.natAbs
  .have ⟨o,lz,e4,ho,pC,no,vo⟩:=agK h.agV h.nY h.Ay iT qW gp gq nq (by lia) (by rw[vp,vq];exact hc)
   rw[vp,vq] at vo;have⟨r,e5,hr⟩:=Fj h (decide (a<0)) ⟨lz,ho,pC,no,rfl⟩ (K:=K) (by lia) (by lia);rw[ab8 vo hs] at hr;have bB:=hr;obtain⟨s',w',rfl,lS⟩:=hr;have⟨l',kB⟩:=lS.aK;have eQ:(0:Int)<=dW a.natAbs b.natAbs:=by unfold dW;rw[yp (by lia)];split<;>decide
   refine⟨_,bB,fun tm t2 t3 t4=>?_⟩;simp only[go_sem,ya,c119,aC,t2,t3,t4,bY,cm,u1.ai,u2.ai,e1,e2,iT.ai,qW.ai,eH,rL,qX,e3,eQ,e4,ho.ai,ho.shut,e5,bi,cJ,cK,bY,yg,oQ kB,ep kB]
  .have ⟨o,lz,e4,ho,pC,no,vo⟩:=agK h.agV h.nY h.Ay qW iT gq gp np (by lia) (by rw[vp,vq];lia)
   rw[vp,vq] at vo;have⟨r,e5,hr⟩:=Fj h (decide (b<0)) ⟨lz,ho,pC,no,rfl⟩ (K:=K) (by lia) (by lia);rw[ab8 vo (fun e=>hs e.symm),Int.add_comm] at hr;have bB:=hr;obtain⟨s',w',rfl,lS⟩:=hr;have⟨l',kB⟩:=lS.aK;have eQ:¬(0:Int)<=dW a.natAbs b.natAbs:=by unfold dW;rw[yz (by lia)];decide
   refine⟨_,bB,fun tm t2 t3 t4=>?_⟩;simp only[go_sem,ya,c119,aC,t2,t3,t4,bY,cm,u1.ai,u2.ai,e1,e2,iT.ai,qW.ai,eH,rL,qX,e3,eQ,e4,ho.ai,ho.shut,e5,bi,cJ,cK,bY,yg,oQ kB,ep kB]
def LW(h:Nu P L)(hv:cD v a)(hw:cD w b)(ka:Bd K a)(kb:Bd K b)(hK:K<=40000000000):∃r,ah P L 119 [v,w] r/\cD r (a+b):=by
 obtain⟨s1,w1,rfl,h1⟩:=hv;obtain⟨s2,w2,rfl,h2⟩:=hw;have⟨l2,u2⟩:=h2.aK;have⟨r,hr,tail⟩:=avt h h1 h2 ka kb hK;have fin:∀tm,aj tm 2=.ptr 0 0->aj tm 3=.ptr 1 0->aj tm 4=.ptr 2 0->
   D P L (.seq (bw c119.body) (bw (aC c119.body))) ⟨[(0,.agg [aa s1,w1]),(1,.agg [aa s2,w2])],[],0,0⟩=F5 (.normal,⟨tm,[(2,.cells ydo ydo ydo 2 [.int .i64 0,.af]),(1,.cells ydo ydo ydo 2 [aa s2,w2]),(0,.cells ydo ydo ydo 2 [aa s1,w1])],3,0⟩)->ah P L 119 [.agg [aa s1,w1],.agg [aa s2,w2]] r:=fun tm t2 t3 t4 e=>by
  unfold ah;rw[aG h.agZ];show gJ [.cell 4 2 ydo] (D P L (.seq (bw c119.body) (.seq (bw (aC c119.body)) (aC (aC c119.body)))) ⟨[(0,.agg [aa s1,w1]),(1,.agg [aa s2,w2])],[],0,0⟩)=_
  have e2:D P L (.seq (bw c119.body) (.seq (bw (aC c119.body)) (aC (aC c119.body)))) ⟨[(0,.agg [aa s1,w1]),(1,.agg [aa s2,w2])],[],0,0⟩=rK P L (D P L (.seq (bw c119.body) (bw (aC c119.body))) ⟨[(0,.agg [aa s1,w1]),(1,.agg [aa s2,w2])],[],0,0⟩) (aC (aC c119.body)):=by
   rw[nS,nS]
   cases D P L (bw c119.body) ⟨[(0,.agg [aa s1,w1]),(1,.agg [aa s2,w2])],[],0,0⟩ with
   | none=>rfl
   | some q=>
    have⟨ex,st⟩:=q
    cases ex with
    | normal=>rw[jb,jb,nS]
    | ret=>rfl
    | exit id=>rfl
  rw[e2,e,jb];exact tail tm t2 t3 t4
 rcases h1 with ⟨rfl,rfl,a1,a2⟩ | ⟨e,l,rfl,ga,na,va,sa,a1⟩
 .rcases h2 with ⟨rfl,rfl,b1,b2⟩ | ⟨e,l,rfl,gb,nb,vb,sb,b1⟩
  .by_cases bZ: -9223372036854775808<=s1+s2/\s1+s2<9223372036854775808
   .refine ⟨.agg [aa (s1+s2),.af],?_,dH.rm bZ.1 bZ.2⟩;have e:decide (s1<s1+s2)=decide (0<s2):=by
     by_cases h:0<s2
     .simp only [h,yN];exact xf (by lia)
     .simp only [h,yP];exact yY (by lia)
    unfold ah;rw[aG h.agZ]
    simp only[go_sem,ya,yb,c119,aO,Ad,iO,eH,rL,bg,yd,cO,wrap64 (n:=s1+s2) bZ.1 bZ.2,e,yah,z6];rfl
   .have e:(decide (s1<IntKind.wrap .i64 (s1+s2))==decide (0<s2))=ydp:=by
     have hw:(9223372036854775808<=s1+s2/\IntKind.wrap .i64 (s1+s2)=s1+s2-2^64)\/(s1+s2< -9223372036854775808/\IntKind.wrap .i64 (s1+s2)=s1+s2+2^64):=by
      simp only[IntKind.wrap,IntKind.bits,IntKind.signed,wM]
      split<;>rename_i h<;>simp at h<;>lia
     by_cases h0:0<s2
     .rw [xf h0,yY (by lia)];rfl
     .rw [yY h0,xf (by lia)];rfl
    refine⟨r,fin _ ?_ ?_ ?_ (by simp only[go_sem,ya,yb,bw,aC,c119,aO,iO,eH,rL,bg,yd,cO,e]<;>rfl),hr⟩<;>simp only[go_sem,ya]
  .refine ⟨r,fin _ ?_ ?_ ?_ (by simp only[go_sem,ya,yb,bw,aC,c119,aO,iO,p7,eH,bg,yd,cO]<;>rfl),hr⟩<;>simp only[go_sem,ya]
 .refine ⟨r,fin _ ?_ ?_ ?_ (by simp only[go_sem,ya,yb,bw,aC,c119,aO,u2.pu,u2.one,p7,eH,bg,yd,cO]<;>rfl),hr⟩<;>simp only[go_sem,ya]
end
end VE
