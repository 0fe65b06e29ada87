import Derived.ChangeSlices
import Derived.ChangeReads
import Derived.ChangeSame
import Derived.OpenShut
import Derived.Lib.AtoiErrMem
import Derived.Laws.Externs
import Derived.Attr
import Derived.Test.YtebpicijmcnecaaGreatDoorTao
set_option linter.all false
set_option maxRecDepth 100000
open Array renaming getElem?_eq_some_iff->xv
open BitVec renaming ofInt->wu,ofInt_natCast->tF,ofNat->tE,toNat_ofNat->vZ
open Bool renaming and_eq_true->yf,and_self->wL,and_true->uO,false_and->wU,false_eq_true->yC,false_or->vh,true_and->wS
open Go renaming Addr->uN,ChangeSpec->ycv,DataW->xS,Field->ua,IntKind->xc,MemPlace->wK,Program->xp,TypeId->yA,Value->yh,World->yj
open Int renaming ediv_emod_unique->yae,gcd->vv,gcd_dvd_left->yah,gcd_dvd_right->yaa,mul_ediv_cancel'->yaY,natAbs_ediv_of_dvd->tf,natCast_mul->xM,reduceEq->yay,tdiv_eq_ediv_of_dvd->yaH,tdiv_eq_ediv_of_nonneg->xP,tmod_eq_emod_of_nonneg->xO,toNat_natCast->xV
open List renaming all_cons->yaf,append_assoc->xy,append_nil->xT,cons_append->ym,drop->um,drop_drop->vO,drop_eq_getElem_cons->yZ,drop_eq_nil_of_le->xa,drop_left'->tv,drop_zero->ye,eq_nil_of_length_eq_zero->yL,filter_cons->ybx,filter_eq_nil_iff->yaI,flatMap_cons->ybl,getD_cons_succ->yaX,getD_eq_getElem?_getD->xd,getElem?_cons_zero->ui,getElem?_eq_getElem->xo,length->wb,length_append->yN,length_cons->yy,length_drop->xY,length_map->yU,length_nil->yJ,length_pos_iff->tg,length_reverse->yaZ,length_singleton->tD,length_take->yT,mapM_cons->uS,mapM_nil->yaw,map_append->xb,map_cons->y7,map_take->yau,mem_append->xJ,mem_append_left->tJ,mem_append_right->uj,mem_flatMap->tk,mem_singleton->xz,nil_append->yG,range->xx,range'->wo,range'_succ->vQ,range'_zero->ybu,range_eq_range'->yaP,replicate->yF,replicate_succ->wN,reverse_cons->ybm,set_append_right->yaM,set_cons_succ->ybg,set_eq_take_append_cons_drop->uv,take_append_drop->we,take_length->xN,take_of_length_le->yK,take_succ_eq_append_getElem->xK
open Nat renaming add_comm->ybK,add_mul->xH,add_sub_cancel->uV,add_zero->y5,beq->yq,beq_refl->wO,ble->yE,ble_eq_true_of_le->yB,blt->yO,div_add_mod->xQ,div_eq_of_lt->xW,div_le_self->vI,div_lt_iff_lt_mul->xB,eq_of_beq_eq_true->yg,eq_zero_or_pos->xj,gcd->wJ,gcd_comm->tU,gcd_rec->ycI,le_div_iff_mul_le->tH,le_max_left->uJ,le_max_right->uz,le_of_ble_eq_true->yv,le_of_lt->uP,le_refl->yu,le_trans->xi,lt_of_le_of_lt->wh,lt_of_lt_of_le->yP,lt_of_mul_lt_mul_right->uW,min_eq_left->xF,mod_add_div->uk,mod_eq_of_lt->yS,mod_lt->xG,mul_add->xE,mul_add_div->tY,mul_add_mod->tZ,mul_assoc->xe,mul_comm->xn,mul_div_mul_right->tI,mul_le_mul->xf,mul_le_mul_left->yW,mul_le_mul_right->yI,mul_lt_mul_of_pos_right->xZ,mul_mod_mul_right->ux,mul_one->yi,mul_pos->vt,mul_zero->xC,one_mul->uR,or_comm->ycJ,pos_of_ne_zero->yat,pow_add->xD,pow_le_pow_right->y9,pow_lt_pow_iff_right->uh,pow_pos->ybM,pow_succ->xh,pow_zero->vP,reduceAdd->yb,reduceEqDiff->ya,reduceLT->yz,reduceLeDiff->yk,reduceMul->xq,strongRecOn->vR,sub_zero->ycu,two_pow_pos->xg,zero_add->yd,zero_le->tq,zero_mul->wq
open Option renaming bind_eq_bind->vX,bind_some->wF,map_some->wM,pure_def->ve
open Option.some renaming injEq->yc
open Prod.mk renaming injEq->yo
open Option renaming some->FL,none->FM
open Bool renaming true->ycZ,false->yda
namespace VE
open Go (IntKind)
variable {P:aF}{L:Lib}
section
open Go
section
variable (P:xp)
def FP(self:yA->Bool):List ua->Nat->Nat->Bool
 | [],o,n=>yq o n
 | f::r,o,n=>yq f.offset o&&(self f.type&&FP self r (o+P.cellsOf f.type) n)
def flat:Nat->yA->Bool
 | 0,_=>yda
 | n+1,t=>
  match P.underlying t with
  | some .bool | some (.int _) | some (.float _) | some .string=>yq (P.cellsOf t) 1
  | some (.slice e)=>yq (P.cellsOf t) 1&&(yO 0 (P.cellsOf e)&&flat n e)
  | some (.struct fs)=>FP P (fun u=>flat n u) fs.toList 0 (P.cellsOf t)
  | some (.array k e)=>yq (P.cellsOf t) (k*P.cellsOf e)&&flat n e
  | _=>yda
def cS{H:Type}:Nat->yA->xS H->List AV
 | 0,_,_=>[]
 | n+1,t,d=>
  match P.underlying t,d with
  | some .bool,.lit (.bool b)=>[.bool b]
  | some (.int k),.lit (.int _ m)=>[.int k m]
  | some (.float k),.lit (.float _ b)=>[.av k b]
  | some .string,.lit (.string s)=>[.str (s.map UInt8.toNat)]
  | some (.slice _),.nil=>[.ah]
  | some (.slice e),.slice kU spare=>[.au spare.isEmpty kU.length (kU.flatMap fun x=>cS n e x)]
  | some (.struct fs),.agg parts=>(fs.toList.zip parts).flatMap fun x=>cS n x.1.type x.2
  | some (.array _ e),.agg parts=>parts.flatMap fun x=>cS n e x
  | _,_=>[]
end
section
variable {ae:Nat->Nat}{m:Mp}{S:Nat->Prop}{w:yj}
def aa9:∀{a b:List AV} {ew o:Nat},bU ae m S w a ew o->bU ae m S w b ew (o+a.length)->bU ae m S w (a++b) ew o
 | [],b,ew,o,_,h=>by simpa using h
 | x::a,b,ew,o,h1,h2=>by
  exact⟨h1.1,aa9 h1.2 (by rw[yy] at h2;rw[show o+1+a.length=o+(a.length+1) by lia];exact h2)⟩
def NB:∀{a b:List AV},aG a=ycZ->aG b=ycZ->aG (a++b)=ycZ
 | [],_,_,h=>h
 | x::a,b,h1,h2=>by
  simp only[aG,ym,yf] at h1 ⊢;exact⟨h1.1,NB h1.2 h2⟩
def aba:∀{a:List AV} {us:List yh},aB ae m S w a us->a.length=us.length
 | [],us,h=>by simp only[aB] at h;subst h;rfl
 | x::a,us,h=>by
  obtain⟨u,r,rfl,_,h2⟩:=h;simp[aba h2]
end
section
variable {H:Type}{enc:yA×yh->H}{P:xp}{w:yj}{held:Bool}{ae:Nat->Nat}{m:Mp}{S:Nat->Prop}
def adf{a:uN}{i:Nat}{u:yh}(h:w.cell? (a.add i)=FL u):w.cell? ⟨a.block,a.off+i,FM⟩=FL u/\(i=0->a.spot=FM):=by
 by_cases hi:i=0
 .subst hi;have e:a.add 0=a:=by simp[Addr.add]
  rw[e] at h;have hs:a.spot=FM:=by
   cases hq:a.spot with
   | none=>rfl
   | some k=>
    unfold World.cell? at h
    split at h
    .simp [hq] at h
    all_goals simp_all
  have⟨b,o,sp⟩:=a;simp only at hs;subst hs;exact⟨by simpa using h,fun _=>rfl⟩
 .have e:a.add i=⟨a.block,a.off+i,FM⟩:=by simp[Addr.add,hi]
  rw[e] at h;exact⟨h,fun h=>(hi h).elim⟩
def amt(a:uN)(i:Nat):(a.add i).block=a.block:=by unfold Addr.add;split<;>rfl
def aqy(a:uN)(i:Nat):(a.add i).off=a.off+i:=by unfold Addr.add;split<;>simp_all
def NP{α β:Type}{f:α->Option β}:∀{l:List α} {r:List β},l.mapM f=FL r->r.length=l.length
 | [],r,h=>by simp only[yaw,ve,yc] at h;subst h;rfl
 | x::l,r,h=>by
  rw[uS] at h
  cases h1:f x with
  | none=>simp[h1] at h
  | some y=>
   cases h2:l.mapM f with
   | none=>simp[h1,h2] at h
   | some ys=>
    simp only[h1,h2,wF,vX,ve,yc] at h;subst h;simp[NP h2]
def aot{c:AV}{l:List AV}{b o:Nat}(h:bU ae m S w (c::l) b o):b<w.heap.size:=by
 have⟨⟨u,h1,_⟩,_⟩:=h;unfold World.cell? at h1
 cases hq:w.heap[b]? with
 | none=>simp[hq] at h1
 | some o=>exact (xv.1 hq).1
def S6{e:yA}{bn sz:Nat}{f:xS H->List AV}{a:uN}(eG:0<sz)(IH:∀(cs:List yh) (d:xS H) (ps:List wK),DataW.trod enc P w 0 (fun _=>ycZ) held bn e cs=FL (d,ps)->aB ae m S w (f d) cs/\aG (f d)=ycZ/\cs.length=sz):
  ∀(k j:Nat) (xs:List (xS H×List wK)),(wo j k).mapM (fun i=>(w.cells? 0 (a.add (i*sz)) sz).bind (DataW.trod enc P w 0 (fun _=>ycZ) held bn e))=FL xs->
   bU ae m S w ((xs.map (·.1)).flatMap f) a.block (a.off+j*sz)/\aG ((xs.map (·.1)).flatMap f)=ycZ/\((xs.map (·.1)).flatMap f).length=k*sz/\xs.length=k/\(0<k->a.spot=FM\/0<j)
 | 0,j,xs,h=>by
  simp only[ybu,yaw,ve,yc] at h;subst h;simp[bU,aG]
 | k+1,j,xs,h=>by
  rw[vQ,uS] at h
  cases h1:(w.cells? 0 (a.add (j*sz)) sz) with
  | none=>simp[h1] at h
  | some us=>
   cases h2:DataW.trod enc P w 0 (fun _=>ycZ) held bn e us with
   | none=>simp[h1,h2] at h
   | some x=>
    cases h3:(wo (j+1) k).mapM (fun i=>(w.cells? 0 (a.add (i*sz)) sz).bind (DataW.trod enc P w 0 (fun _=>ycZ) held bn e)) with
    | none=>simp[h1,h2,h3] at h
    | some ys=>
     simp only[h1,h2,h3,wF,vX,ve,yc] at h;subst h;have⟨d,ps⟩:=x;have⟨g1,g2,g3⟩:=IH us d ps h2;have⟨k1,k2,k3,k4,_⟩:=S6 eG IH k (j+1) ys h3;have⟨_,c2,c3⟩:=World.cells?_some h1;have hl:(f d).length=sz:=by rw[aba g1,g3]
     have hc:∀(i:Nat) (u:yh),us[i]? =FL u->w.cell? ⟨a.block,a.off+j*sz+i,FM⟩=FL u:=by
      intro i u hi;have sW:i<sz:=by grind
      have h:=c3 i sW;rw[hi] at h
      have:=(adf h).1
      rwa[amt,aqy] at this
     refine⟨?_,?_,?_,by simp[k4],?_⟩
     .simp only [y7,ybl];refine aa9 (FY _ us _ g1 hc) ?_
      grind
     .simp only [y7,ybl];exact NB g2 k2
     .grind
     .intro _;rcases xj j with hj | hj
      .left
       have h:=c3 0 eG;have hu:us[0]? =FL us[0]:=by simp_all
       rw[hu] at h
       have:=(adf h).2 rfl
       subst hj;simpa[Addr.add] using this
      .grind
def aan{bn N:Nat}{n:Nat}{cs:List yh}(hN:cs.length=N)(IH:∀(t:yA) (cs:List yh) (d:xS H) (ps:List wK),flat P n t=ycZ->DataW.trod enc P w 0 (fun _=>ycZ) held bn t cs=FL (d,ps)->aB ae m S w (cS P n t d) cs/\aG (cS P n t d)=ycZ/\cs.length=P.cellsOf t):
  ∀(r:List ua) (o:Nat) (xs:List (xS H×List wK)),FP P (fun u=>flat P n u) r o N=ycZ->r.mapM (fun f=>DataW.trod enc P w 0 (fun _=>ycZ) held bn f.type ((cs.drop f.offset).take (P.cellsOf f.type)))=FL xs->
   aB ae m S w ((r.zip (xs.map (·.1))).flatMap fun x=>cS P n x.1.type x.2) (cs.drop o)/\aG ((r.zip (xs.map (·.1))).flatMap fun x=>cS P n x.1.type x.2)=ycZ
 | [],o,xs,hf,h=>by
  have:=yg hf
  rw[xa (by lia)];simp[aB,aG]
 | f::r,o,xs,hf,h=>by
  simp only[FP,yf] at hf;have⟨e1,e2,e3⟩:=hf;have e1:=yg e1;rw[uS] at h
  cases h2:DataW.trod enc P w 0 (fun _=>ycZ) held bn f.type ((cs.drop f.offset).take (P.cellsOf f.type)) with
  | none=>simp[h2] at h
  | some x=>
   cases h3:r.mapM (fun f=>DataW.trod enc P w 0 (fun _=>ycZ) held bn f.type ((cs.drop f.offset).take (P.cellsOf f.type))) with
   | none=>simp[h2,h3] at h
   | some ys=>
    simp only[h2,h3,wF,vX,ve,yc] at h;subst h;have⟨d,ps⟩:=x;have⟨g1,g2,g3⟩:=IH f.type _ d ps e2 h2;have⟨k1,k2⟩:=aan hN IH r _ ys e3 h3;rw[e1] at g1;have e:cs.drop o=(cs.drop o).take (P.cellsOf f.type)++cs.drop (o+P.cellsOf f.type):=by rw[<-vO];exact (we _ _).symm
    rw[e];exact⟨mz g1 k1,NB g2 k2⟩
def adg{bn sz:Nat}{e:yA}{f:xS H->List AV}{cs:List yh}(IH:∀(cs:List yh) (d:xS H) (ps:List wK),DataW.trod enc P w 0 (fun _=>ycZ) held bn e cs=FL (d,ps)->aB ae m S w (f d) cs/\aG (f d)=ycZ/\cs.length=sz):
  ∀(k j:Nat) (xs:List (xS H×List wK)),(wo j k).mapM (fun i=>DataW.trod enc P w 0 (fun _=>ycZ) held bn e ((cs.drop (i*sz)).take sz))=FL xs->cs.length=(j+k)*sz->
   aB ae m S w ((xs.map (·.1)).flatMap f) (cs.drop (j*sz))/\aG ((xs.map (·.1)).flatMap f)=ycZ
 | 0,j,xs,h,hl=>by
  simp only[ybu,yaw,ve,yc] at h;subst h;rw[xa (by rw[hl];simp)]
  simp[aB,aG]
 | k+1,j,xs,h,hl=>by
  rw[vQ,uS] at h
  cases h2:DataW.trod enc P w 0 (fun _=>ycZ) held bn e ((cs.drop (j*sz)).take sz) with
  | none=>simp[h2] at h
  | some x=>
   cases h3:(wo (j+1) k).mapM (fun i=>DataW.trod enc P w 0 (fun _=>ycZ) held bn e ((cs.drop (i*sz)).take sz)) with
   | none=>simp[h2,h3] at h
   | some ys=>
    simp only[h2,h3,wF,vX,ve,yc] at h;subst h;have⟨d,ps⟩:=x;have⟨g1,g2,g3⟩:=IH _ d ps h2;have⟨k1,k2⟩:=adg IH k (j+1) ys h3 (by rw[hl];congr 1;lia)
    have e:cs.drop (j*sz)=(cs.drop (j*sz)).take sz++cs.drop ((j+1)*sz):=by rw[xH,uR,<-vO];exact (we _ _).symm
    rw[e];exact⟨mz g1 k1,NB g2 k2⟩
def ab2(hS:∀b,b<w.heap.size->S b):∀(n bn:Nat) (t:yA) (cs:List yh) (d:xS H) (ps:List wK),flat P n t=ycZ->DataW.trod enc P w 0 (fun _=>ycZ) held bn t cs=FL (d,ps)->
  aB ae m S w (cS P n t d) cs/\aG (cS P n t d)=ycZ/\cs.length=P.cellsOf t
 | 0,bn,t,cs,d,ps,hf,h=>by simp[flat] at hf
 | n+1,0,t,cs,d,ps,hf,h=>by simp[DataW.trod] at h
 | n+1,bn+1,t,cs,d,ps,hf,h=>by
  have IH:=ab2 hS n bn;unfold DataW.trod at h;simp only[flat] at hf
  split at h
  .rename_i hu;simp only[hu] at hf;simp only[yc,yo] at h;obtain⟨rfl,rfl⟩:=h;simp only[cS,hu];exact⟨by simp[aB,af],by simp[aG,aX],by rw[yg hf];rfl⟩
  .rename_i hu;simp only[hu] at hf
   split at h
   .rename_i hk;simp only[yc,yo] at h;obtain⟨rfl,rfl⟩:=h;simp only[cS,hu];refine⟨?_,by simp[aG,aX],by rw[yg hf];rfl⟩
    rw[hk.1];simp[aB,af]
   .cases h
  .rename_i hu;simp only[hu] at hf
   split at h
   .rename_i hk;simp only[yc,yo] at h;obtain⟨rfl,rfl⟩:=h;simp only[cS,hu];refine⟨?_,by simp[aG,aX],by rw[yg hf];rfl⟩
    rw[hk.1];simp[aB,af]
   .cases h
  .rename_i hu;simp only[hu] at hf
   split at h
   .simp only [yc,yo] at h;obtain⟨rfl,rfl⟩:=h;simp only[cS,hu];refine⟨?_,by simp[aG,aX],by rw[yg hf];rfl⟩
    simp only[aB,af];exact⟨_,_,rfl,⟨_,rfl,rfl⟩,rfl⟩
   .cases h
  .rename_i hu;simp[hu] at hf
  .rename_i hu;simp[hu] at hf
  .rename_i hu;simp only[hu,yf] at hf;simp only[yc,yo] at h;obtain⟨rfl,rfl⟩:=h;simp only[cS,hu];exact⟨by simp[aB,af],by simp[aG,aX],by rw[yg hf.1];rfl⟩
  .rename_i e a len cap hu;simp only[hu,yf] at hf;have⟨f1,f2,f3⟩:=hf;have eG:=qD.1 f2;simp only at h
   split at h
   case isFalse=>cases h
   rename_i hc;simp only[xA] at h
   cases h1:(xx len).mapM fun i=>(w.cells? 0 (a.add (i*P.cellsOf e)) (P.cellsOf e)).bind (DataW.trod enc P w 0 (fun _=>ycZ) held bn e) with
   | none=>rw[h1] at h;simp at h
   | some kU=>
    cases h2:(xx (cap-len)).mapM fun j=>(w.cells? 0 (a.add ((len+j)*P.cellsOf e)) (P.cellsOf e)).bind (DataW.trod enc P w 0 (fun _=>ycZ) held bn e) with
    | none=>rw[h1] at h;simp[h2] at h
    | some rest=>
     rw[h1] at h;simp only[wF,h2,wM,yc,yo] at h;obtain⟨rfl,rfl⟩:=h;have hIH:=fun cs d ps h=>IH e cs d ps f3 h
     rw[yaP] at h1 h2;have⟨k1,k2,k3,k4,k5⟩:=S6 (ae:=ae) (m:=m) (S:=S) eG hIH len 0 kU h1;have Ys:rest.length=cap-len:=by rw[NP h2];simp
     have jV:cap≠0->a.spot=FM:=by
      intro Wp;rcases xj len with h0 | h0
      .subst h0;simp only[yd,ycu] at h2;have⟨_,_,_,_,q5⟩:=S6 (ae:=ae) (m:=m) (S:=S) eG hIH cap 0 rest h2;exact (q5 (by lia)).resolve_right (by lia)
      .exact (k5 h0).resolve_right (by lia)
     simp only[cS,hu,yU];refine⟨?_,by simp[aG,aX],by rw[yg f1];rfl⟩
     simp only[aB];refine⟨_,_,rfl,?_,rfl⟩;simp only[af];by_cases Wp:cap=0
     .subst Wp;have lL:len=0:=by lia
      subst lL;have he:kU=[]:=yL k4;subst he;exact .inr ⟨a,rfl,rfl,rfl⟩
     .have ⟨b,o,sp⟩:=a;have jV:=jV Wp;simp only at jV;subst jV;refine .inl ⟨b,o,cap,by rw[k4],by lia,fun hx=>?_,?_,k2,by simpa using k1⟩
      .have:rest.length=0:=by simpa using hx
       lia
      .generalize hg:((kU.map (·.1)).flatMap fun x=>cS P n e x)=l at k1
       cases l with
       | nil=>exact .inl rfl
       | cons c l=>exact .inr (hS b (aot k1))
  .rename_i Al x1 MG fs hu;simp only[hu] at hf
   split at h
   case isFalse=>cases h
   rename_i hlen
   cases h1:fs.toList.mapM fun f=>DataW.trod enc P w 0 (fun _=>ycZ) held bn f.type ((Al.drop f.offset).take (P.cellsOf f.type)) with
   | none=>rw[h1] at h;simp at h
   | some xs=>
    rw[h1] at h;simp only[wM,yc,yo] at h;obtain⟨rfl,rfl⟩:=h;have⟨k1,k2⟩:=aan hlen (fun t cs d ps hf h=>IH t cs d ps hf h) fs.toList 0 xs hf h1;simp only[cS,hu];exact⟨by simpa using k1,k2,hlen⟩
  .rename_i Al x1 MG k e hu;simp only[hu,yf] at hf;have⟨f1,f2⟩:=hf;have f1:=yg f1
   split at h
   case isFalse=>cases h
   rename_i hlen
   cases h1:(xx k).mapM fun i=>DataW.trod enc P w 0 (fun _=>ycZ) held bn e ((Al.drop (i*P.cellsOf e)).take (P.cellsOf e)) with
   | none=>rw[h1] at h;simp at h
   | some xs=>
    rw[h1] at h;simp only[wM,yc,yo] at h;obtain⟨rfl,rfl⟩:=h;rw[yaP] at h1;have⟨k1,k2⟩:=adg (ae:=ae) (m:=m) (S:=S) (fun cs d ps h=>IH e cs d ps f2 h) k 0 xs h1 (by rw[hlen,f1];simp)
    simp only[cS,hu];exact⟨by simpa using k1,k2,hlen⟩
  all_goals first
   | (cases h;done)
   | (simp_all;done)
def mL(P:xp)(n:Nat)(t:yA)(d:xS H):AV:=
 match P.underlying t with
 | some (.struct _) | some (.array _ _)=>.agg (cS P n t d)
 | _=>(cS P n t d).headD .undef
def aqz(hS:∀b,b<w.heap.size->S b){n base:Nat}{t:yA}{v:yh}{d:xS H}{ps:List wK}(hf:flat P n t=ycZ)(h:DataW.Trod enc P w 0 (fun _=>ycZ) held t v d ps)(hv:Value.okWide P w .any base t v):af ae m S w (mL P n t d) v/\aX (mL P n t d)=ycZ:=by
 have⟨bn,h⟩:=h;have⟨h1,h2,h3⟩:=ab2 (ae:=ae) (m:=m) hS n bn t _ d ps hf h;have one:v.cells=#[v]->(∀fs,P.underlying t≠FL (.struct fs))->(∀k e,P.underlying t≠FL (.array k e))->af ae m S w (mL P n t d) v/\aX (mL P n t d)=ycZ:=by
  intro hc HE hna;have e:mL P n t d=(cS P n t d).headD .undef:=by
   unfold mL
   grind
  rw[e];rw[hc] at h1;generalize cS P n t d=l at h1 h2
  cases l with
  | nil=>simp[aB] at h1
  | cons x l=>
   simp only[aB] at h1;simp only[aG,yf] at h2
   grind
 cases n with
 | zero=>simp[flat] at hf
 | succ n=>
  unfold Value.okWide at hv;simp only[flat] at hf
  cases hu:P.underlying t with
  | none=>simp[hu] at hf
  | some ty=>
   rw[hu] at hv hf;cases ty<;>simp only[yC] at hf hv
   case struct fs=>
    obtain⟨cs,rfl,_,_⟩:=hv;have e:mL P (n+1) t d=.agg (cS P (n+1) t d):=by simp only[mL,hu]
    rw[e];exact⟨by simp only[af];exact⟨cs,rfl,h1⟩,by simpa only[aX] using h2⟩
   case array k e=>
    obtain⟨cs,rfl,_,_⟩:=hv;have e:mL P (n+1) t d=.agg (cS P (n+1) t d):=by simp only[mL,hu]
    rw[e];exact⟨by simp only[af];exact⟨cs,rfl,h1⟩,by simpa only[aX] using h2⟩
   all_goals
    refine one ?_ (by simp[hu]) (by simp[hu])
    cases v with
    | agg cs=>exfalso;simp only[Cell.okWide,Cell.ok,hu] at hv
    | _=>rfl
def A1(P:xp)(n:Nat):List yA->List (xS H)->List AV
 | t::ts,d::ds=>mL P n t d::A1 P n ts ds
 | _,_=>[]
def ab3(hS:∀b,b<w.heap.size->S b){n base:Nat}:∀{ts:List yA} {vs:List yh} {ds:List (xS H)} {ps:List wK},ts.all (flat P n)=ycZ->DataW.TrodAll enc P w 0 (fun _=>ycZ) held ts vs ds ps->
  (∀(j:Nat) t v,ts[j]? =FL t->vs[j]? =FL v->Value.okWide P w .any base t v)->aB ae m S w (A1 P n ts ds) vs/\aG (A1 P n ts ds)=ycZ
 | [],[],[],_,_,_,_=>by simp[A1,aB,aG]
 | t::ts,v::vs,d::ds,ps,hf,h,hv=>by
  simp only[yaf,yf] at hf;have⟨p,q,h1,h2,_⟩:=h;have⟨a1,a2⟩:=aqz (ae:=ae) (m:=m) hS hf.1 h1 (hv 0 t v rfl rfl);have⟨b1,b2⟩:=ab3 hS hf.2 h2 (fun j t v h1 h2=>hv (j+1) t v h1 h2);simp only[A1,aB,aG,yf]
  grind
 | [],_::_,_,_,_,h,_=>by simp[DataW.TrodAll] at h
 | [],[],_::_,_,_,h,_=>by simp[DataW.TrodAll] at h
 | _::_,[],_,_,_,h,_=>by simp[DataW.TrodAll] at h
 | _::_,_::_,[],_,_,h,_=>by simp[DataW.TrodAll] at h
end
end
section
open Go
section
variable {H:Type}{enc:yA×yh->H}{P:xp}{w w':yj}{held:Bool}{sp:Nat->Bool}
def alj(hs:∀b,b<w.heap.size->w'.heap[b]? =w.heap[b]?){a:uN}{u:yh}(h:w.cell? a=FL u):w'.cell? a=FL u:=by
 unfold World.cell? at h ⊢
 grind
def akL(hs:∀b,b<w.heap.size->w'.heap[b]? =w.heap[b]?){base:Nat}{a:uN}{n:Nat}{us:List yh}(h:w.cells? base a n=FL us):w'.cells? base a n=FL us:=by
 unfold World.cells? at h ⊢
 split at h
 .rename_i hb;rw[yD hb];exact mapM_carry h (fun x y _ _ hx=>alj hs hx)
 .cases h
def aqA{a:uN}{n:Nat}(h:0<n):MemPlace.cell a.block (a.off+0)∈MemPlace.row a n:=by
 unfold MemPlace.row
 simp_all
def aao(hs:∀b,b<w.heap.size->w'.heap[b]? =w.heap[b]?):∀(n bn:Nat) (t:yA) (cs:List yh) (d:xS H) (ps:List wK),flat P n t=ycZ->DataW.trod enc P w 0 (fun _=>ycZ) held bn t cs=FL (d,ps)->
  (∀p,p∈ps->sp p.block=ycZ)->DataW.trod enc P w' 0 sp held bn t cs=FL (d,ps)
 | 0,bn,t,cs,d,ps,hf,h,hp=>by simp[flat] at hf
 | n+1,0,t,cs,d,ps,hf,h,hp=>by simp[DataW.trod] at h
 | n+1,bn+1,t,cs,d,ps,hf,h,hp=>by
  have IH:=aao hs n bn;have elem:∀{e:yA} {a:uN} {y:xS H×List wK},flat P n e=ycZ->(w.cells? 0 a (P.cellsOf e)).bind (DataW.trod enc P w 0 (fun _=>ycZ) held bn e)=FL y->(∀p,p∈y.2->sp p.block=ycZ)->
    (w'.cells? 0 a (P.cellsOf e)).bind (DataW.trod enc P w' 0 sp held bn e)=FL y:=by
   intro e a y he h hq
   cases h1:w.cells? 0 a (P.cellsOf e) with
   | none=>simp[h1] at h
   | some us=>
    rw[h1] at h;rw[akL hs h1]
    grind
  unfold DataW.trod at h ⊢;simp only[flat] at hf
  split at h
  .grind
  .grind
  .grind
  .grind
  .grind
  .grind
  .grind
  .rename_i e a len cap hu;simp only[hu,yf] at hf;obtain⟨f1,f2,f3⟩:=hf;have eG:=qD.1 f2;simp only at h ⊢
   split at h
   case isFalse=>cases h
   rename_i hc;rw[yD hc];simp only[xA] at h
   cases h1:(xx len).mapM fun i=>(w.cells? 0 (a.add (i*P.cellsOf e)) (P.cellsOf e)).bind (DataW.trod enc P w 0 (fun _=>ycZ) held bn e) with
   | none=>rw[h1] at h;simp at h
   | some kU=>
    cases h2:(xx (cap-len)).mapM fun j=>(w.cells? 0 (a.add ((len+j)*P.cellsOf e)) (P.cellsOf e)).bind (DataW.trod enc P w 0 (fun _=>ycZ) held bn e) with
    | none=>rw[h1] at h;simp[h2] at h
    | some rest=>
     rw[h1] at h;simp only[wF,h2,wM,yc,yo] at h;obtain⟨rfl,rfl⟩:=h;have k1:((xx len).mapM fun i=>(w'.cells? 0 (a.add (i*P.cellsOf e)) (P.cellsOf e)).bind (DataW.trod enc P w' 0 sp held bn e))=FL kU:=
      mapM_carry h1 (fun x y _ hy hx=>elem f3 hx (fun p hq=>hp p (uj _ (tk.2 ⟨y,tJ _ hy,hq⟩))))
     have k2:((xx (cap-len)).mapM fun j=>(w'.cells? 0 (a.add ((len+j)*P.cellsOf e)) (P.cellsOf e)).bind (DataW.trod enc P w' 0 sp held bn e))=FL rest:=
      mapM_carry h2 (fun x y _ hy hx=>elem f3 hx (fun p hq=>hp p (uj _ (tk.2 ⟨y,uj _ hy,hq⟩))))
     have hr:(if sp a.block=ycZ then (xx (cap-len)).mapM fun j=>(w'.cells? 0 (a.add ((len+j)*P.cellsOf e)) (P.cellsOf e)).bind (DataW.trod enc P w' 0 sp held bn e) else FL [])=FL rest:=by
      by_cases jV:sp a.block=ycZ
      .rw [yD jV];exact k2
      .rw [yt jV];have h0:¬0<(kU.length+rest.length)*P.cellsOf e:=fun h0=>jV (hp _ (tJ _ (aqA h0)))
       have hz:kU.length+rest.length=0:=by
        rcases xj (kU.length+rest.length) with h | h
        .exact h
        .exact (h0 (vt h eG)).elim
       have:rest=[]:=yL (by omega)
       rw[this]
     rw[k1];simp only[wF];rw[hr];rfl
  .rename_i Al x1 MG fs hu;simp only[hu] at hf
   split at h
   case isFalse=>cases h
   rename_i hlen;rw[yD hlen]
   cases h1:fs.toList.mapM fun f=>DataW.trod enc P w 0 (fun _=>ycZ) held bn f.type ((Al.drop f.offset).take (P.cellsOf f.type)) with
   | none=>rw[h1] at h;simp at h
   | some xs=>
    rw[h1] at h;simp only[wM,yc,yo] at h;obtain⟨rfl,rfl⟩:=h;have Ak:∀(r:List ua) (o:Nat),FP P (fun u=>flat P n u) r o (P.cellsOf t)=ycZ->∀f,f∈r->flat P n f.type=ycZ:=by
     intro r
     induction r with
     | nil=>intro o _ f hm;cases hm
     | cons g r ih=>
      intro o hq f hm;simp only[FP,yf] at hq;rcases List.mem_cons.1 hm with rfl | hm
      .exact hq.2.1
      .exact ih _ hq.2.2 f hm
    have k1:(fs.toList.mapM fun f=>DataW.trod enc P w' 0 sp held bn f.type ((Al.drop f.offset).take (P.cellsOf f.type)))=FL xs:=
     mapM_carry h1 (fun f y hm hy hx=>IH _ _ y.1 y.2 (Ak _ _ hf f hm) hx (fun p hq=>hp p (tk.2 ⟨y,hy,hq⟩)))
    rw[k1];rfl
  .rename_i Al x1 MG k e hu;simp only[hu,yf] at hf
   split at h
   case isFalse=>cases h
   rename_i hlen;rw[yD hlen]
   cases h1:(xx k).mapM fun i=>DataW.trod enc P w 0 (fun _=>ycZ) held bn e ((Al.drop (i*P.cellsOf e)).take (P.cellsOf e)) with
   | none=>rw[h1] at h;simp at h
   | some xs=>
    rw[h1] at h;simp only[wM,yc,yo] at h;obtain⟨rfl,rfl⟩:=h;have k1:((xx k).mapM fun i=>DataW.trod enc P w' 0 sp held bn e ((Al.drop (i*P.cellsOf e)).take (P.cellsOf e)))=FL xs:=
     mapM_carry h1 (fun i y _ hy hx=>IH _ _ y.1 y.2 hf.2 hx (fun p hq=>hp p (tk.2 ⟨y,hy,hq⟩)))
    rw[k1];rfl
  all_goals first
   | (cases h;done)
   | (simp_all;done)
def Zx(hs:∀b,b<w.heap.size->w'.heap[b]? =w.heap[b]?){n:Nat}:∀{ts:List yA} {vs:List yh} {ds:List (xS H)} {ps:List wK},ts.all (flat P n)=ycZ->DataW.TrodAll enc P w 0 (fun _=>ycZ) held ts vs ds ps->
  (∀p,p∈ps->sp p.block=ycZ)->DataW.TrodAll enc P w' 0 sp held ts vs ds ps
 | [],[],[],ps,_,h,_=>by simpa only[DataW.TrodAll] using h
 | t::ts,v::vs,d::ds,ps,hf,h,hp=>by
  simp only[yaf,yf] at hf;obtain⟨p,q,⟨bn,h1⟩,h2,rfl⟩:=h;exact⟨p,q,⟨bn,aao hs n bn t _ d p hf.1 h1 (fun x hx=>hp x (tJ _ hx))⟩,Zx hs hf.2 h2 (fun x hx=>hp x (uj _ hx)),rfl⟩
 | [],_::_,_,_,_,h,_=>by simp[DataW.TrodAll] at h
 | [],[],_::_,_,_,h,_=>by simp[DataW.TrodAll] at h
 | _::_,[],_,_,_,h,_=>by simp[DataW.TrodAll] at h
 | _::_,_::_,[],_,_,h,_=>by simp[DataW.TrodAll] at h
end
end
section
open Go Go.ChangeShapes Go.WideShapes
section
variable {H:Type}{enc:yA×yh->H}{P:xp}{W W':yj}
def amu(hc:Calm W W')(may:wK->Prop):W.keptBut W' may:=by
 refine⟨hc.os,hc.output,fun i hi=>?_⟩;rw[hc.same i hi]
 cases hq:W.heap[i]? with
 | none=>rfl
 | some o=>cases o<;>simp
def akM(hc:Calm W W'){b off:Nat}(hb:b<W.heap.size):W'.frozen? ⟨b,off,FM⟩=W.frozen? ⟨b,off,FM⟩:=by
 unfold World.frozen?;rw[hc.same b hb]
def aou{fn:Func}{s:ycv}{apart fresh handsOn again:Bool}{args:Array yh}{ds gs:List (xS H)}{before:List wK}{n:Nat}{tb:yA}(hW:DataW.Whole enc P fn.params.toList s.vars apart W args.toList ds gs before)(hv:s.vars=[])(Pq:fn.params.toList.all (flat P n)=ycZ)(hc:Calm W W')(mv:s.fn H (ds++gs)={results:=[.lit (.bool ycZ)],args:=ds})(CV:fn.resultTypes=#[tb])(lR:P.underlying tb=FL .bool):
  s.post enc P fn apart fresh handsOn again W args (.bool ycZ) W':=by
 have aH:=hW.lt;have hW0:=hW;obtain⟨p,q,hA,hV,hpq,hz,hn⟩:=hW;rw[hv] at hV;have hq:gs=[]/\q=[]:=by
  cases gs with
  | nil=>exact⟨rfl,by simpa only[DataW.TrodVars] using hV⟩
  | cons g gs=>simp[DataW.TrodVars] at hV
 obtain⟨rfl,rfl⟩:=hq;have hbp:before=p:=by simp_all
 subst hbp;have eF:∀sp:Nat->Bool,(∀p∈before,sp p.block=ycZ)->DataW.TrodAll enc P W' 0 sp ycZ fn.params.toList args.toList ds before:=fun sp h=>Zx hc.same Pq hA h
 have afu:∀(b:Nat) (sp:Nat->Bool) (hd:Bool),DataW.TrodAll enc P W' b sp hd fn.resultTypes.toList ((Value.bool ycZ).resultList fn.resultTypes.size) [.lit (.bool ycZ)] []:=by
  intro b sp hd;rw[CV];refine⟨[],[],⟨1,?_⟩,rfl,rfl⟩;simp[DataW.trod,lR,Value.cells]
 have hold:∀p∈before,(fun b=>decide (b<W.heap.size)) p.block=ycZ:=fun p hp=>by simpa using aH p hp
 have afv:∀sp:Nat->Bool,DataW.TrodVars enc P W' sp s.vars ([]:List (xS H)) []:=fun sp=>by rw[hv];rfl
 refine⟨ds,[],before,[],before,[],hW0,by rw[mv];exact afu _ _ _,by rw[mv];exact eF _ hold,by rw[mv];exact afv _,amu hc _,fun _=>?_⟩
 refine⟨?_,[.lit (.bool ycZ)]++ds,[],[]++before++[],⟨[]++before,[],trodAll_append (eF _ (fun _ _=>rfl)) (afu _ _ _),afv _,rfl,?_,?_⟩,?_⟩
 .intro j t r h1 h2;rw[CV] at h1 h2
  cases j with
  | zero=>
   simp only[List.getElem?_toArray,ui,yc] at h1;simp only[Value.resultList,List.size_toArray,yy,yJ,xA,yd,ui,yc] at h2;subst h1;subst h2;simp[Value.okWide,lR,Cell.okWide,Cell.ok]
  | succ j=>simp at h1
 .intro b off hp;have hp:MemPlace.cell b off∈before:=by grind
  rw[akM hc (b:=b) (aH _ hp)];exact hz b off hp
 .grind
 .grind
def amv{O:bA}{n k:Nat}{fn:Func}{s:ycv}{apart fresh handsOn again:Bool}{base:Nat}{args:Array yh}{ds gs:List (xS H)}{before:List wK}{tb:yA}(hp:et O n (A1 O.P k fn.params.toList ds) (.bool ycZ))(As:O.w0=W)(mv:O.P.funcs[O.ae n]? =FL fn)(hb:fn.body.isSome=ycZ)(Ap:fn.name≠ "runtime.NumGoroutine")(aO:∀(j:Nat) t v,fn.params[j]? =FL t->args[j]? =FL v->Value.okWide O.P W .any base t v)(hW:DataW.Whole enc O.P fn.params.toList s.vars apart W args.toList ds gs before)(hv:s.vars=[])(Pq:fn.params.toList.all (flat O.P k)=ycZ)(hfs:s.fn H (ds++gs)={results:=[.lit (.bool ycZ)],args:=ds})(CV:fn.resultTypes=#[tb])(lR:O.P.underlying tb=FL .bool):
  Calls O.P (O.ae n) args W fun e W'=>∃v,e=.returned v/\s.post enc O.P fn apart fresh handsOn again W args v W':=by
 have hA:=hW;obtain⟨p,q,hA,_⟩:=hA;obtain⟨h1,h2⟩:=ab3 (ae:=O.ae) (m:=fa) (S:=fun b=>b<W.heap.size) (fun b hb=>hb) Pq hA (fun j t v a b=>aO j t v (by simpa using a) (by simpa using b));have hi:=hp W (fun b=>b<W.heap.size) args ⟨fun b _=>by rw[As],by rw[As];exact yu _⟩ (fun b hb=>hb) h1 h2
 have key:∀e W',abK O W (fun b=>b<W.heap.size) (.bool ycZ) e W'->∃v,e=.returned v/\s.post enc O.P fn apart fresh handsOn again W args v W':=by
  rintro e W' ⟨u,S',rfl,hc,_,_,_,hr⟩;obtain⟨_,_,hu,_⟩:=hr;subst hu;exact⟨_,rfl,aou hW hv Pq hc hfs CV lR⟩
 rcases hi with ⟨_,hi⟩ | ⟨u,w',hi,_⟩
 .exact callsIn_wide.1 (hi.mono key)
 .rw [F0 mv hb Ap] at hi;cases hi
end
end
namespace J1
open Go Go.Proofs
noncomputable def O(W:yj):bA:=⟨Tryz.prog,VE.aI,Bk lO.ae,VE.prog,Pj lO.br lO.hd,W⟩
def abb{w:yj}{k:Nat}{os:Array Go.Obj}:Calm w (Go.Sort.grow (w.drewN k) os):=Ja (Lib.below_grow w.heap.size w (yu _) k os)
def ab4{W w:yj}(h:Lib.TabIs Tryz.prog W "internal/strconv.uint64pow10" .u64 Lib.pow10Tab)(hg:CF (O W) w):Lib.TabIs Tryz.prog w "internal/strconv.uint64pow10" .u64 Lib.pow10Tab:=by
 unfold Lib.TabIs World.var? at h ⊢
 cases hn:Tryz.prog.globalNamed "internal/strconv.uint64pow10" with
 | none=>rw[hn] at h;exact h
 | some g=>
  rw[hn] at h;simp only[wF] at h ⊢;have hb:g<W.heap.size:=by
   cases hq:W.heap[g]? with
   | none=>rw[hq] at h;cases h
   | some o=>exact (xv.1 hq).1
  rw[hg.1 g hb];exact h
def ayM:∀args w,(callFunc 113 args).run Tryz.prog w=.ok (.enter 113 args) w:=enters_of Tryz.func113 (by kernel_rfl) rfl
def ayN:∀args w,(callFunc 180 args).run Tryz.prog w=.ok (.enter 180 args) w:=enters_of Tryz.func180 (by kernel_rfl) rfl
def ayO:∀args w,(callFunc 240 args).run Tryz.prog w=.ok (.enter 240 args) w:=enters_of Tryz.func240 (by kernel_rfl) rfl
def ayP:∀args w,(callFunc 242 args).run Tryz.prog w=.ok (.enter 242 args) w:=enters_of Tryz.func242 (by kernel_rfl) rfl
def ayQ:∀args w,(callFunc 243 args).run Tryz.prog w=.ok (.enter 243 args) w:=enters_of Tryz.func243 (by kernel_rfl) rfl
def ayR:∀args w,(callFunc 198 args).run Tryz.prog w=.ok (.enter 198 args) w:=enters_of Tryz.func198 (by kernel_rfl) rfl
def ayS:∀args w,(callFunc 186 args).run Tryz.prog w=.ok (.enter 186 args) w:=enters_of Tryz.func186 (by kernel_rfl) rfl
def ayT:∀args w,(callFunc 187 args).run Tryz.prog w=.ok (.enter 187 args) w:=enters_of Tryz.func187 (by kernel_rfl) rfl
def ayU:∀args w,(callFunc 188 args).run Tryz.prog w=.ok (.enter 188 args) w:=enters_of Tryz.func188 (by kernel_rfl) rfl
def ayV:∀args w,(callFunc 249 args).run Tryz.prog w=.ok (.enter 249 args) w:=enters_of Tryz.func249 (by kernel_rfl) rfl
def ayW:∀args w,(callFunc 273 args).run Tryz.prog w=.ok (.enter 273 args) w:=enters_of Tryz.func273 (by kernel_rfl) rfl
def ayX:∀args w,(callFunc 268 args).run Tryz.prog w=.ok (.enter 268 args) w:=enters_of Tryz.func268 (by kernel_rfl) rfl
def aqB(b:Nat)(w:yj):(callFunc 272 #[.float .f64 b]).run Tryz.prog w=.ok (.value (.int .u64 b)) w:=by
 rw[run_callFunc_extern Tryz.func272 (by kernel_rfl) (by kernel_rfl) (by kernel_rfl) (e:=Extern.MathFloatBits.float64bits) (by kernel_rfl)];rfl
def akN(b:Nat)(w:yj):(callFunc 271 #[.int .u64 b]).run Tryz.prog w=.ok (.value (.float .f64 b)) w:=by
 rw[run_callFunc_extern Tryz.func271 (by kernel_rfl) (by kernel_rfl) (by kernel_rfl) (e:=Extern.MathFloatBits.float64frombits) (by kernel_rfl)];rfl
def axi(W:yj)(n:Nat)(sp:List AV->Option AV):Prop:=∀aq r,sp aq=FL r->et (O W) n aq r
section
variable {W:yj}{m:Int}(hm:W.cell? ⟨4,0,FM⟩=FL (.int .i64 m))(ht:Lib.TabIs Tryz.prog W "internal/strconv.uint64pow10" .u64 Lib.pow10Tab)
include hm ht
theorem atV:agG.mu (axi W):=
 (Tr.kT (aol (O:=O W) (f:=188) (by rfl) ayU (fun s z w hl h=>(Tryz.strconv_Atoi s z hl h w).mono fun _ _ ⟨h1,t,h2⟩=>⟨h1,h2▸Ja (Lib.bytesWorld_below _ _ _)⟩))
  (Tr.kT (alh (O:=O W) (f:=243) (by rfl) ayQ Tryz.strings_Repeat)
  (Tr.kT (aok (O:=O W) (f:=240) (by rfl) ayO (fun z w h0 h1 hg=>(Tryz.strconv_Itoa z h0 h1 w (ab4 ht hg)).mono fun _ _ ⟨h1,k,os,h2⟩=>⟨h1,h2▸abb⟩))
  (Tr.kT (aka (O:=O W) (f:=180) (by rfl) ayN Tryz.strings_CutPrefix)
  (Tr.kT (aqj (O:=O W) (f:=113) (by rfl) ayM (a:=⟨4,0,FM⟩) (m:=m) hm (fun s sep w hs hc=>Tryz.strings_Cut s sep m w hs hc))
  Tr.jL Tr.jL) Tr.jL) (Tr.kT (aj8 (O:=O W) (f:=242) (by rfl) ayP (fun z w hz hg=>(Tryz.ajZ z hz w (ab4 ht hg)).mono fun _ _ ⟨h1,k,os,h2⟩=>⟨h1,h2▸abb⟩))
  Tr.jL Tr.jL)) (Tr.kT (akb (O:=O W) (f:=186) (by rfl) ayS Tryz.strings_HasPrefix)
  (Tr.kT (amm (O:=O W) (f:=198) (by rfl) ayR (fun x y w hx hy=>Tryz.bits_Mul64 x y hx hy w))
  Tr.jL Tr.jL) (Tr.kT (aj7 (O:=O W) (f:=187) (by rfl) ayT Tryz.strings_TrimPrefix)
  Tr.jL Tr.jL))) (Tr.kT (amp (O:=O W) (f:=259) (by rfl) (fun x y b w h=>Tryz.bits_Sub64 x y b h w))
  (Tr.kT (aom (O:=O W) (f:=273) (by rfl) ayW (fun x w h0 h1=>Tryz.bits_LeadingZeros64 x w h0 h1))
  (Tr.kT (aoj (O:=O W) (f:=249) (by rfl) ayV (fun s cs w hs BC ha=>Tryz.ako s cs w hs BC ha))
  Tr.jL Tr.jL) (Tr.kT (amo (O:=O W) (f:=257) (by rfl) (fun x y c w h=>Tryz.bits_Add64 x y c h w))
  Tr.jL Tr.jL)) (Tr.kT (akA (O:=O W) (f:=272) (by rfl) aqB)
  (Tr.kT (amn (O:=O W) (f:=268) (by rfl) ayX (fun x w h0 h1=>Tryz.bits_Len64 x w h0 h1))
  Tr.jL Tr.jL) (Tr.kT (aj4 (O:=O W) (f:=271) (by rfl) akN)
  Tr.jL Tr.jL))))
theorem aqC:iy (O W) where
 hint n f g h:=Tr.DQ (p:=fun f g=>Bk lO.ae g=f) (SD lO.as4) h
 mixed:=by kernel_rfl
 prog n F h:=Tr.DQ lO.aqx h
 aI n sp aq r h hs:=Tr.DQ (atV hm ht) h aq r hs
 G0 n sp hp ct aq v an aU h:=by cases h
end
end J1
def bS:List Int->Int
 | []=>0
 | a::r=>if a=0 then bS r else a
def Sr{l:List Int}{i:Nat}(h:i<l.length):bS (l.drop i)=if l[i]=0 then bS (l.drop (i+1)) else l[i]:=by
 rw[yZ h,bS]
def oA(lo hi:Int):List Int->Bool
 | []=>yda
 | a::r=>if a<lo\/hi<a then ycZ else oA lo hi r
def afw(n:Nat)(lo hi:Int):List (List Int)->Int
 | []=>0
 | r::s=>if r.length≠n then 2 else if oA lo hi r=ycZ then 3 else afw n lo hi s
def amw(s:List (List Int)):Int:=if s.length=0 then 12 else if 16<s.length then 5 else afw s.length (-1000) 1000 s
def ab5{lo hi:Int}{l:List Int}(h:oA lo hi l=yda):∀i (cL:i<l.length),lo<=l[i]/\l[i]<=hi:=by
 induction l with
 | nil=>intro i cL;exact absurd cL (Nat.not_lt_zero _)
 | cons a r ih=>
  simp only[oA] at h
  grind
def amx{lo hi:Int}{l:List Int}(h:oA lo hi l=yda):∀i,oA lo hi (l.take i)=yda:=by
 induction l with
 | nil=>intro i;simp[oA]
 | cons a r ih=>
  intro i;simp only[oA] at h
  split at h
  .grind
  .rename_i hc
   cases i with
   | zero=>simp[oA]
   | succ i=>simp only[List.take_succ_cons,oA,hc,xm,ih h i]
section
variable {x:Int}{a b l:List Int}
def dv:List Int->Nat
 | []=>0
 | a::r=>a.toNat+1000000000*dv r
def nj:∀(a b:List Int),dv (a++b)=dv a+1000000000^a.length*dv b
 | [],b=>by simp[dv]
 | x::a,b=>by
  simp only[ym,dv,nj a b,yy,xh,xE]
  grind
def qG(i:Nat):dv (l.take (i+1))=dv (l.take i)+1000000000^i*(l.getD i 0).toNat:=by
 by_cases h:i<l.length
 .rw [xK h,nj,yT,xF (by lia)];simp[dv,xd,xo h]
 .rw [yK (by lia),yK (by lia)]
  grind
abbrev dg(l:List Int):Prop:=oA 0 999999999 l=yda
def iv:dg (a++b)↔dg a/\dg b:=by
 induction a with
 | nil=>simp[dg,oA]
 | cons x a ih=>
  simp only[dg,ym,oA] at ih ⊢
  grind
def lY:dg [x]↔0<=x/\x<1000000000:=by
 simp only[dg,oA]
 grind
def iT(h:dg l)(i:Nat):0<=l.getD i 0/\l.getD i 0<1000000000:=by
 by_cases hi:i<l.length
 .have:=ab5 h i hi
  grind
 .grind
def DV(h:dg l)(i:Nat):dg (l.take i):=amx h i
def kV:∀{l:List Int},dg l->dv l<1000000000^l.length
 | [],_=>by simp[dv]
 | x::l,h=>by
  have h':dg ([x]++l):=h;have⟨h1,h2⟩:=iv.1 h';have h1:=lY.1 h1
  have:=kV h2
  simp only[dv,yy,xh]
  lia
def dY:List Int->List Int
 | []=>[]
 | a::r=>match dY r with | []=>if a=0 then [] else [a] | t::q=>a::t::q
def Jc:∀l:List Int,dY (l++[0])=dY l
 | []=>rfl
 | a::l=>by simp only[ym,dY,Jc l]
def NC{a:Int}(h:a≠0):∀l:List Int,dY (l++[a])=l++[a]
 | []=>by simp[dY,h]
 | b::l=>by
  simp only[ym,dY,NC h l]
  cases hq:l++[a] with
  | nil=>simp at hq
  | cons t q=>rfl
def AP:∀l:List Int,dv (dY l)=dv l
 | []=>rfl
 | a::l=>by
  have ih:=AP l;simp only[dY,dv]
  split
  .rename_i h;rw[h] at ih
   split
   .rename_i h0;subst h0;simp[dv,<-ih]
   .simp [dv,<-ih]
  .rename_i t q h;rw[h] at ih;simp only[dv] at ih ⊢
   lia
def Ce:∀{l:List Int},dg l->dg (dY l)
 | [],_=>rfl
 | a::l,h=>by
  have h':dg ([a]++l):=h;have⟨h1,h2⟩:=iv.1 h';have ih:=Ce h2;simp only[dY]
  split
  .grind
  .rename_i t q hq;rw[hq] at ih
   exact (iv (a:=[a]) (b:=t::q)).2 ⟨h1,ih⟩
def NQ:∀l:List Int,(dY l).length<=l.length
 | []=>yu _
 | a::l=>by
  have ih:=NQ l;simp only[dY]
  grind
def snoc{α:Type}(l:List α):l=[]\/∃m a,l=m++[a]:=by
 rcases List.eq_nil_or_concat l with h | ⟨m,a,h⟩
 .grind
 .grind
def akO:∀(n:Nat) (l:List Int),l.length=n->dY (dY l)=dY l:=by
 intro n
 induction n with
 | zero=>intro l h;rw[yL h];rfl
 | succ n ih=>
  intro l h;rcases snoc l with rfl | ⟨m,a,rfl⟩
  .rfl
  .by_cases h0:a=0
   .subst h0;rw[Jc]
    grind
   .rw [NC h0,NC h0]
def alk(l:List Int):dY (dY l)=dY l:=akO _ l rfl
abbrev nz(l:List Int):Prop:=dY l=l
def F9(l:List Int):nz (dY l):=alk l
def Pr(h:nz l)(hd:dg l)(h0:l≠[]):1000000000^(l.length-1)<=dv l:=by
 rcases snoc l with rfl | ⟨m,a,rfl⟩
 .grind
 .by_cases ha:a=0
  .subst ha
   have:=NQ m
   have e:=congrArg wb h;rw[Jc] at e
   grind
  .rw [nj]
   have:=lY.1 (iv.1 hd).2
   simp only[dv,yN,tD,uV,xC,y5];have h1:1<=a.toNat:=by lia
   have:=yW (1000000000^m.length) h1
   lia
def adh(h:nz l)(hd:dg l)(h0:dv l=0):l=[]:=by
 by_cases hl:l=[]
 .grind
 .have:=Pr h hd hl
  grind
def UI(ha:dg a)(hb:nz b)(bG:dg b)(h:a.length<b.length):dv a<dv b:=by
 have h1:=kV ha;have h2:=Pr hb bG (fun e=>by subst e;simp at h);have h3:1000000000^a.length<=1000000000^(b.length-1):=y9 (by decide) (by lia)
 lia
def dU(m n:Nat):Int:=if m<n then -1 else if n<m then 1 else 0
def ad1{i:Nat}(h:i<l.length):dv l=dv (l.take i)+1000000000^i*(l[i].toNat+1000000000*dv (l.drop (i+1))):=by
 have e:l=l.take i++l[i]::l.drop (i+1):=by simp_all
 have:dv l=dv (l.take i++l[i]::l.drop (i+1)):=congrArg dv e
 rw[this,nj,yT,xF (by lia)];rfl
def adi{i:Nat}(ha:dg a)(hb:dg b)(h1:i<a.length)(h2:i<b.length)(he:a.drop (i+1)=b.drop (i+1))(h:a[i]<b[i]):dv a<dv b:=by
 rw[ad1 h1,ad1 h2,he];have hl:=kV (DV ha i);have g1:=ab5 ha i h1;have h3:a[i].toNat+1000000000*dv (b.drop (i+1))+1<=b[i].toNat+1000000000*dv (b.drop (i+1)):=by lia
 have:=yW (1000000000^i) h3
 grind
def UJ:∀{l:List Int} {j:Nat} {x:Int},j<l.length->dv (l.set j x)+1000000000^j*(l.getD j 0).toNat=dv l+1000000000^j*x.toNat
 | [],j,x,h=>by simp at h
 | a::l,0,x,_=>by simp[dv];lia
 | a::l,j+1,x,h=>by
  have ih:=UJ (l:=l) (j:=j) (x:=x) (by simpa using h);simp only[ybg,dv,yaX,xh]
  grind
def OW(h:dg l){j:Nat}(hx:0<=x/\x<1000000000):dg (l.set j x):=by
 by_cases hj:j<l.length
 .rw [uv,yD hj];have e:l=l.take (j+1)++l.drop (j+1):=(we _ _).symm;have hd:dg (l.drop (j+1)):=by rw[e] at h;exact (iv.1 h).2
  exact iv.2 ⟨DV h j,(iv (a:=[x]) (b:=l.drop (j+1))).2 ⟨lY.2 hx,hd⟩⟩
 .rw [List.set_eq_of_length_le (by lia)];exact h
def ab6{j m:Nat}(h:m≠j):(l.set j x).getD m 0=l.getD m 0:=by grind
def aov{V0 V V' p q A X Y o c s:Nat}(hs:s=o+A*X+c)(aW:V'+p*q*o=V+p*q*(s%1000000000))(hv:V+p*q*c=V0+p*(A*Y)):
  V'+p*(q*1000000000)*(s/1000000000)=V0+p*(A*(Y+q*X)):=by
 have e:=uk s 1000000000;have e2:p*q*s=p*q*(s%1000000000)+p*(q*1000000000)*(s/1000000000):=by
  conv=>lhs;rw[<-e]
  rw[xE,<-xe (p*q),<-xe p q]
 have e3:p*q*s=p*q*o+p*q*(A*X)+p*q*c:=by rw[hs,xE,xE]
 have e4:p*(A*(Y+q*X))=p*(A*Y)+p*q*(A*X):=by
  rw[xE,xE,xe p q,<-xe A q X,xn A q,xe q A X]
 lia
def ab7(n:Nat):dv (yF n 0)=0:=by
 induction n with
 | zero=>rfl
 | succ n ih=>simp[wN,dv,ih]
def ab8(n:Nat):dg (yF n 0):=by
 induction n with
 | zero=>rfl
 | succ n ih=>exact (iv (a:=[0]) (b:=yF n 0)).2 ⟨by decide,ih⟩
end
section
variable {l m:List Nat}{U V i p u0 u1 u2 ur v1 v2 vr x:Nat}
def bv(b:Nat):List Nat->Nat
 | []=>0
 | a::r=>a+b*bv b r
def lo(b:Nat)(l:List Nat):Prop:=∀x,x∈l->x<b
section
variable {b:Nat}
def Ct(a:Nat):bv b [a]=a:=by simp[bv]
def zp:∀(l m:List Nat),bv b (l++m)=bv b l+b^l.length*bv b m
 | [],m=>by simp[bv]
 | x::l,m=>by
  simp only[ym,bv,zp l m,yy,xh,xE]
  grind
def gd(h:i<l.length):l[i]=l.getD i 0:=by simp_all
def UK(h:l.length<=i):l.getD i 0=0:=by simp_all
def kv(i:Nat):bv b (l.take (i+1))=bv b (l.take i)+b^i*l.getD i 0:=by
 by_cases h:i<l.length
 .rw [xK h,zp,yT,xF (by lia),Ct,gd h]
 .rw [yK (by lia),yK (by lia),UK (by lia),xC,y5]
def OX:lo b []:=fun _ h=>by simp at h
def NR:lo b (l++m)↔lo b l/\lo b m:=by
 constructor
 .intro h;exact⟨fun x hx=>h x (by simp[hx]),fun x hx=>h x (by simp[hx])⟩
 .rintro ⟨h1,h2⟩ x hx;rcases xJ.1 hx with h | h
  .exact h1 x h
  .exact h2 x h
def GC:lo b [x]↔x<b:=by simp[lo]
def iz(hb:0<b)(h:lo b l)(i:Nat):l.getD i 0<b:=by
 by_cases hi:i<l.length
 .rw [<-gd hi];exact h _ (List.getElem_mem hi)
 .grind
def Cm(h:lo b l)(i:Nat):lo b (l.take i):=fun x hx=>h x (List.mem_of_mem_take hx)
def adj(h:lo b l)(i:Nat):lo b (l.drop i):=fun x hx=>h x (List.mem_of_mem_drop hx)
def nt(h:lo b l)(hx:x<b):lo b (l.set i x):=fun y hy=>by
 rcases List.mem_or_eq_of_mem_set hy with h1 | h1
 .exact h y h1
 .lia
def GD(hb:0<b)(n:Nat):lo b (yF n 0):=fun x hx=>by
 grind
def GF(n:Nat):bv b (yF n 0)=0:=by
 induction n with
 | zero=>rfl
 | succ n ih=>simp[wN,bv,ih]
def DW(n m:Nat):(yF n (0:Nat)).getD m 0=0:=by grind
def nB:∀{l:List Nat},lo b l->bv b l<b^l.length
 | [],_=>by simp[bv]
 | x::l,h=>by
  have h1:=h x (by simp);have h2:=nB (l:=l) (fun y hy=>h y (by simp[hy]));simp only[bv,yy,xh,xn _ b]
  have:=yW b (show bv b l+1<=b^l.length from h2)
  grind
def oY:∀{l:List Nat} {i x:Nat},i<l.length->bv b (l.set i x)+b^i*l.getD i 0=bv b l+b^i*x
 | [],i,x,h=>by simp at h
 | a::l,0,x,_=>by simp[bv];lia
 | a::l,i+1,x,h=>by
  have ih:=oY (l:=l) (i:=i) (x:=x) (by simpa using h)
  have:=congrArg (fun t=>b*t) ih
  simp only[xE] at this;simp only[ybg,bv,yaX,xh,xn _ b,xe] at this ⊢
  lia
def qH{m:Nat}(h:i≠m):(l.set i x).getD m 0=l.getD m 0:=by simp_all
def alm(h:i<l.length):(l.set i x).getD i 0=x:=by simp_all
def Js(l:List Nat)(i:Nat)(h:i<=l.length):bv b l=bv b (l.take i)+b^i*bv b (l.drop i):=by
 have:=zp (b:=b) (l.take i) (l.drop i)
 simp_all
def dZ:List Nat->List Nat
 | []=>[]
 | a::r=>match dZ r with | []=>if a=0 then [] else [a] | t::q=>a::t::q
def ND:∀l:List Nat,dZ (l++[0])=dZ l
 | []=>rfl
 | a::l=>by simp only[ym,dZ,ND l]
def FQ{a:Nat}(h:a≠0):∀l:List Nat,dZ (l++[a])=l++[a]
 | []=>by simp[dZ,h]
 | b::l=>by
  simp only[ym,dZ,FQ h l]
  cases hq:l++[a] with
  | nil=>simp at hq
  | cons t q=>rfl
abbrev ig(l:List Nat):Prop:=dZ l=l
def aln:∀(n:Nat) (l:List Nat),l.length=n->∃i,i<=n/\dZ l=l.take i/\ig (l.take i)/\bv b (l.take i)=bv b l:=by
 intro n
 induction n with
 | zero=>intro l h;rw[yL h];exact⟨0,yu _,rfl,rfl,rfl⟩
 | succ n ih=>
  intro l h;rcases snoc l with rfl | ⟨m,a,rfl⟩
  .grind
  .have hm:m.length=n:=by simp_all
   by_cases h0:a=0
   .subst h0;have⟨i,h1,h2,h3,h4⟩:=ih m hm;have e:(m++[0]).take i=m.take i:=by grind
    refine⟨i,by lia,by rw[ND,h2,e],by rw[e];exact h3,?_⟩
    rw[e,h4,zp];simp[bv]
   .have e:(m++[a]).take (n+1)=m++[a]:=yK (by simp[hm]);exact⟨n+1,yu _,by rw[e,FQ h0],by rw[e];exact FQ h0 m,by rw[e]⟩
def NS(l:List Nat):∃i,i<=l.length/\dZ l=l.take i/\ig (dZ l)/\bv b (dZ l)=bv b l:=by
 have⟨i,h1,h2,h3,h4⟩:=aln (b:=b) l.length l rfl
 grind
def Cf(l:List Nat):bv b (dZ l)=bv b l:=by
 have⟨_,_,_,_,h⟩:=NS (b:=b) l;exact h
def Cg(l:List Nat):ig (dZ l):=by
 have⟨_,_,_,h,_⟩:=NS (b:=2) l;exact h
def Ch(h:lo b l):lo b (dZ l):=by
 have⟨i,_,h2,_⟩:=NS (b:=b) l;rw[h2];exact Cm h i
def amy(l:List Nat):(dZ l).length<=l.length:=by
 have⟨i,_,h2,_⟩:=NS (b:=2) l
 grind
def N6(h:ig l)(h0:l≠[]):l.getD (l.length-1) 0≠0:=by
 rcases snoc l with rfl | ⟨m,a,rfl⟩
 .grind
 .intro ha
  have:a=0:=by
   grind
  subst this;have e:=congrArg wb h;rw[ND] at e
  have:=amy m
  grind
def UL(hb:0<b)(h:ig l)(h0:l≠[]):b^(l.length-1)<=bv b l:=by
 rcases snoc l with rfl | ⟨m,a,rfl⟩
 .grind
 .have ha:=N6 h h0;simp[xd] at ha;rw[zp,Ct];simp only[yN,tD,uV]
  have:=yW (b^m.length) (show 1<=a by lia)
  lia
def Ov(hb:1<b)(hl:lo b l)(hm:ig m)(h:l.length<m.length):bv b l<bv b m:=by
 have h1:=nB hl;have h2:=UL (b:=b) (by lia) hm (fun e=>by subst e;simp at h);have h3:b^l.length<=b^(m.length-1):=y9 (by lia) (by lia)
 lia
def adk(hl:lo b l)(h1:i<l.length)(h2:i<m.length)(he:l.drop (i+1)=m.drop (i+1))(h:l.getD i 0<m.getD i 0):bv b l<bv b m:=by
 rw[Js l (i+1) (by lia),Js m (i+1) (by lia),he,kv,kv]
 have:=nB (Cm hl i)
 have:=yW (b^i) (show l.getD i 0+1<=m.getD i 0 from h)
 grind
def amz(hb:1<b){k:Nat}(h:ig l)(hk:bv b l<b^k):l.length<=k:=by
 by_cases h0:l=[]
 .grind
 .have h1:=UL (b:=b) (by lia) h h0;have h2:b^(l.length-1)<b^k:=wh h1 hk
  have:=(uh hb).1 h2
  lia
def aap{t r:Nat}(hV:V=(v1*b+v2)*p+vr)(hU:U=((u0*b+u1)*b+u2)*p+ur)(hur:ur<p)(ht:t*v1+r=u0*b+u1)(h:r*b+u2<t*v2):U/V<=t-1:=by
 have h1:U<t*V:=by
  have e:t*((v1*b+v2)*p)=((t*v1)*b+t*v2)*p:=by
   grind
  have h2:((u0*b+u1)*b+u2)+1<=(t*v1)*b+t*v2:=by rw[<-ht,xH];lia
  have h3:=yI p h2;rw[hV,hU,xE,e]
  grind
 have zc:0<V:=by
  grind
 have:=(xB zc).2 h1
 lia
def abc{t r:Nat}(hb:0<b)(hV:V=(v1*b+v2)*p+vr)(MH:vr<p)(hU:U=((u0*b+u1)*b+u2)*p+ur)(fb:0<v1)(c9:v2<b)(lR:t<b)(ht:t*v1+r=u0*b+u1)(h:b<=r\/t*v2<=r*b+u2):t<=U/V+1:=by
 have h2:t*v2<=r*b+u2:=by
  rcases h with h | h
  .have:=xf (uP lR) (uP c9)
   have:=yI b h
   lia
  .exact h
 have h3:t*(v1*b+v2)<=(u0*b+u1)*b+u2:=by
  rw[xE,<-xe,<-ht,xH];lia
 have hp:0<p:=by lia
 have aEN:b<=v1*b:=Nat.le_mul_of_pos_left b fb;have zc:0<V:=by
  have:=vt (show 0<v1*b+v2 by lia) hp
  lia
 rcases xj t with h0 | h0
 .grind
 .obtain ⟨s,rfl⟩:∃s,t=s+1:=⟨t-1,by lia⟩;have h4:s*V<=U:=by
   have h5:V<=(v1*b+v2+1)*p:=by grind
   have h6:=yW s h5;have h7:s*(v1*b+v2+1)<=(s+1)*(v1*b+v2):=by
    grind
   have h8:=yI p (xi h7 h3)
   grind
  exact Nat.succ_le_succ ((tH zc).2 h4)
def Ss(hV:V=(v1*b+v2)*p+vr)(hU:U=((u0*b+u1)*b+u2)*p+ur)(hur:ur<p)(BK:u2<b)(fb:0<v1):U/V<=(u0*b+u1)/v1:=by
 by_cases zc:V=0
 .grind
 .refine (tH fb).2 ?_;have h1:=Nat.div_mul_le_self U V;generalize U/V=q at h1 ⊢;have h2:q*v1*(b*p)<=q*V:=by
   rw[hV,xe]
   grind
  have h3:U<(u0*b+u1+1)*(b*p):=by
   have:(u0*b+u1)*b+u2+1<=(u0*b+u1+1)*b:=by grind
   have:=yI p this
   grind
  have h4:q*v1*(b*p)<(u0*b+u1+1)*(b*p):=by lia
  have:=uW h4
  lia
def abd(hV:V=(v1*b+v2)*p+vr)(hU:U=((u0*b+u1)*b+u2)*p+ur)(MH:vr<p)(c9:v2<b)(h:U<b*V):u0<=v1:=by
 refine Nat.le_of_lt_succ ?_;have h1:V<(v1+1)*(b*p):=by
  have:v1*b+v2+1<=(v1+1)*b:=by grind
  have:=yI p this
  grind
 have h2:u0*(b*(b*p))<=U:=by
  grind
 have h3:=yW b (uP h1);have e:b*((v1+1)*(b*p))=(v1+1)*(b*(b*p)):=by grind
 rw[e] at h3;have h4:u0*(b*(b*p))<(v1+1)*(b*(b*p)):=wh h2 (yP h h3);exact uW h4
end
end
section
variable {P:aF}{L:Lib}{f:cl}{F:Nat->cl}
def Dn(f:cl)(F:Nat->cl):Prop:=∀c s r,f c s=FL r->∃n,F n c s=FL r
def Mon(F:Nat->cl):Prop:=∀n m,n<=m->Le (F n) (F m)
def Ni(h:Dn f F)(n:Nat)(aq:List AV)(r:AV)(hr:bL P L f n aq=FL r):∃k,bL P L (F k) n aq=FL r:=by
 unfold bL at hr ⊢
 cases hL:L.pure n with
 | some sp=>exact⟨0,by simpa only[hL] using hr⟩
 | none=>
  simp only[hL] at hr ⊢
  cases hP:P n with
  | none=>simp[hP] at hr
  | some G=>
   simp only[hP] at hr ⊢
   cases hf:f G.body ⟨fI 0 aq,[],0,0⟩ with
   | none=>simp[hf] at hr
   | some q=>
    have⟨k,hk⟩:=h _ _ _ hf
    grind
def SE(h:Dn f F)(hp:Hp)(ct:Nat)(n:Nat)(aq:List AV)(r:AV×Hp×Nat)(hr:jl P L f hp ct n aq=FL r):∃k,jl P L (F k) hp ct n aq=FL r:=by
 unfold jl at hr ⊢
 cases hL:L.heap n with
 | some sp=>exact⟨0,by simpa only[hL] using hr⟩
 | none=>
  simp only[hL] at hr ⊢
  cases hP:P n with
  | none=>simp[hP] at hr
  | some G=>
   simp only[hP] at hr ⊢
   cases hf:f G.body ⟨fI 0 aq,hp,ct,ct⟩ with
   | none=>simp[hf] at hr
   | some q=>
    have⟨k,hk⟩:=h _ _ _ hf
    grind
def ZV(h:Dn f F)(hm:Mon F)(hp:Hp)(ct:Nat)(l:Nat)(xs:List AV)(r:AV×Hp×Nat)(hr:lA f hp ct l xs=FL r):∃k,lA (F k) hp ct l xs=FL r:=by
 have key:∃k,∀g,Le (F k) g->lA g hp ct l xs=FL r:=by
  unfold lA at hr
  cases hl:ak hp l with
  | none=>simp[hl] at hr
  | some o=>
   split at hr
   .rename_i tm ps as_ body pe sZ
    cases hb:sn tm ps xs with
    | none=>simp[hb] at hr
    | some tm'=>
     simp only[hb] at hr
     cases h1:f as_ ⟨tm',hp,ct,ct⟩ with
     | none=>simp[h1] at hr
     | some q=>
      have⟨k1,lf⟩:=h _ _ _ h1
      split at hr
      .rename_i s1 ayK
       split at hr
       .rename_i jb Ab Da En rI ayL
        cases h2:f body ⟨s1.tm,aW s1.hp l (.lp jb Ab Da En 1 rI),s1.ct,s1.ct⟩ with
        | none=>simp[h2] at hr
        | some q2=>
         have⟨k2,sS⟩:=h _ _ _ h2;refine⟨max k1 k2,fun g hg=>?_⟩;have e1:=hg _ _ _ (hm k1 _ (uJ k1 k2) _ _ _ lf);have e2:=hg _ _ _ (hm k2 _ (uz k1 k2) _ _ _ sS);unfold lA
         grind
       .simp at hr
      .simp at hr
   .simp at hr
 have⟨k,hk⟩:=key;exact⟨k,hk _ (fun _ _ _ h=>h)⟩
def aaq(h:Dn f F)(hm:Mon F)(hp:Hp)(ct:Nat)(m:Md)(fv:AV)(xs:List AV)(r:AV×Hp×Nat)(hr:eQ P L f hp ct m fv xs=FL r):∃k,eQ P L (F k) hp ct m fv xs=FL r:=by
 unfold eQ at hr ⊢
 split at hr
 .rename_i n first cap
  cases m with
  | pure=>
   cases hz:cE deep hp (first++(xs++cap)) with
   | none=>simp[hz] at hr
   | some q=>
    simp only[hz] at hr ⊢
    cases hc:bL P L f n q.1 with
    | none=>simp[hc] at hr
    | some u=>
     have⟨k,hk⟩:=Ni h n q.1 u hc
     grind
  | own=>
   cases hz:cE deep hp (first++(xs++cap)) with
   | none=>simp[hz] at hr
   | some q=>
    simp only[hz] at hr ⊢
    cases hc:bL P L f n q.1 with
    | none=>simp[hc] at hr
    | some u=>
     have⟨k,hk⟩:=Ni h n q.1 u hc
     grind
  | heap=>exact SE h _ _ _ _ _ hr
  | dyn=>
   cases hz:aG (first++(xs++cap)) with
   | true=>
    simp only[hz,yx] at hr ⊢
    cases hc:bL P L f n (first++(xs++cap)) with
    | none=>simp[hc] at hr
    | some u=>
     have⟨k,hk⟩:=Ni h n _ u hc
     grind
   | false=>
    simp only[hz,yR] at hr ⊢;exact SE h _ _ _ _ _ hr
 .split at hr
  .exact ZV h hm _ _ _ _ _ hr
  .exact ZV h hm _ _ _ _ _ hr
  .simp at hr
 .simp at hr
def aow(h:Dn f F)(hm:Mon F)(tm:Env)(hp:Hp)(ct:Nat)(o:Op)(r:AV×Hp×Nat)(hr:aY P L f tm hp ct o=FL r):∃k,aY P L (F k) tm hp ct o=FL r:=by
 unfold aY at hr ⊢
 split at hr
 .exact aaq h hm _ _ _ _ _ _ hr
 .rename_i rs fv xs
  cases hc:eQ P L f hp ct .dyn (ay tm fv) (dG tm xs) with
  | none=>simp[hc] at hr
  | some q=>
   have⟨k,hk⟩:=aaq h hm _ _ _ _ _ _ hc
   grind
 all_goals exact⟨0,by simpa only using hr⟩
def S7(h:Dn f F)(hm:Mon F):∀(ops:List aR) (s s':St),de P L f ops s=FL s'->∃k,de P L (F k) ops s=FL s'
 | [],s,s',hr=>⟨0,by simpa only[de] using hr⟩
 | ⟨d,gd,o⟩::r,s,s',hr=>by
  simp only[de] at hr ⊢
  split at hr
  .rename_i hw
   cases ho:aY P L f s.tm s.hp s.ct o with
   | none=>simp[ho] at hr
   | some q=>
    have⟨k1,lf⟩:=aow h hm _ _ _ _ _ ho;simp only[ho] at hr;have⟨k2,sS⟩:=S7 h hm r _ _ hr;refine⟨max k1 k2,?_⟩;rw[aa5 (hm k1 _ (uJ k1 k2)) _ _ _ _ _ lf];exact Ny (hm k2 _ (uz k1 k2)) r _ _ sS
  .rename_i hw;exact S7 h hm r _ _ hr
  .simp at hr
def DN(h:Dn f F)(hm:Mon F):∀(c:VC) (s:St) (r:Ex×St),bD P L f c s=FL r->∃k,bD P L (F k) c s=FL r
 | .skip,s,r,hr=>⟨0,by simpa only[bD] using hr⟩
 | .ml ops,s,r,hr=>by
  simp only[bD] at hr ⊢
  cases ho:de P L f ops s with
  | none=>simp[ho] at hr
  | some s'=>
   have⟨k,hk⟩:=S7 h hm _ _ _ ho
   grind
 | .seq a b,s,r,hr=>by
  simp only[bD] at hr ⊢
  cases ha:bD P L f a s with
  | none=>simp[ha] at hr
  | some q=>
   have⟨k1,lf⟩:=DN h hm a s q ha;have⟨ex,s1⟩:=q
   cases ex with
   | normal=>
    simp only[ha] at hr;have⟨k2,sS⟩:=DN h hm b s1 r hr;refine⟨max k1 k2,?_⟩;rw[rY (hm k1 _ (uJ k1 k2)) a s _ lf];exact rY (hm k2 _ (uz k1 k2)) b s1 r sS
   | ret=>exact⟨k1,by rw[lf];simpa only[ha] using hr⟩
   | exit id=>exact⟨k1,by rw[lf];simpa only[ha] using hr⟩
 | .cond x a b,s,r,hr=>by
  simp only[bD] at hr ⊢
  split at hr
  .rename_i t ht
   cases t with
   | true=>simp only[yx] at hr ⊢;exact DN h hm a s r hr
   | false=>simp only[yR] at hr ⊢;exact DN h hm b s r hr
  .simp at hr
 | .ew id a,s,r,hr=>by
  simp only[bD] at hr ⊢
  cases ha:bD P L f a s with
  | none=>simp[ha] at hr
  | some q=>
   have⟨k,hk⟩:=DN h hm a s q ha
   grind
 | .kp live,s,r,hr=>⟨0,by simpa only[bD] using hr⟩
 | .fz ts,s,r,hr=>⟨0,by simpa only[bD] using hr⟩
 | .loop live a,s,r,hr=>by
  simp only[bD] at hr ⊢
  cases ha:bD P L f a (bk live s) with
  | none=>simp[ha] at hr
  | some q=>
   have⟨k1,lf⟩:=DN h hm a _ q ha;have⟨ex,s1⟩:=q
   cases ex with
   | normal=>
    simp only[ha] at hr;have⟨k2,sS⟩:=h _ _ _ hr;refine⟨max k1 k2,?_⟩;rw[rY (hm k1 _ (uJ k1 k2)) a _ _ lf];exact hm k2 _ (uz k1 k2) _ _ _ sS
   | ret=>exact⟨k1,by rw[lf];simpa only[ha] using hr⟩
   | exit id=>exact⟨k1,by rw[lf];simpa only[ha] using hr⟩
 | .rf fv ps as_ body,s,r,hr=>by
  simp only[bD] at hr ⊢
  split at hr
  .rename_i n first cap hx
   split at hr
   .grind
   .rename_i hL
    cases hc:jl P L f ((s.ct,.lp s.tm ps as_ body 0 .none)::s.hp) (s.ct+1) n (first++(.fn (.y s.ct) [] []::cap)) with
    | none=>simp[hc] at hr
    | some q=>
     have⟨k,hk⟩:=SE h _ _ _ _ _ hc
     grind
  .simp at hr
 | .exit id,s,r,hr=>⟨0,by simpa only[bD] using hr⟩
 | .ret,s,r,hr=>⟨0,by simpa only[bD] using hr⟩
end
section
variable (P:aF)(L:Lib)
noncomputable def D:cl:=fun c s=>@dite _ (∃r n,ev P L n c s=FL r) (Classical.propDecidable _) (fun h=>FL h.choose) (fun _=>FM)
variable {P L}
def agI{c:VC}{s:St}{r:Ex×St}{n:Nat}(h:ev P L n c s=FL r):D P L c s=FL r:=by
 have hx:∃r n,ev P L n c s=FL r:=⟨r,n,h⟩;unfold D;have⟨m,hm⟩:=hx.choose_spec;have e1:=Uh P L (uJ n m) _ _ _ h;have e2:=Uh P L (uz n m) _ _ _ hm
 grind
def Wq{c:VC}{s:St}{r:Ex×St}(h:D P L c s=FL r):∃n,ev P L n c s=FL r:=by
 unfold D at h;by_cases hx:∃r n,ev P L n c s=FL r
 .grind
 .grind
def ayY(n:Nat):Le (ev P L n) (D P L):=fun _ _ _ h=>agI h
def afx:Dn (D P L) (ev P L):=fun _ _ _ h=>Wq h
def atW:Mon (ev P L):=fun _ _ h=>Uh P L h
def mh(c:VC)(s:St):D P L c s=bD P L (D P L) c s:=by
 cases h:D P L c s with
 | some r=>
  have⟨n,hn⟩:=Wq h
  cases n with
  | zero=>rw[JF] at hn;cases hn
  | succ n=>rw[Ou] at hn;exact (rY (ayY n) c s r hn).symm
 | none=>
  cases hs:bD P L (D P L) c s with
  | none=>rfl
  | some r=>
   have⟨n,hn⟩:=DN afx atW c s r hs;rw[<-Ou] at hn;rw[agI hn] at h;cases h
def ad2{f:Nat}{aq:List AV}{r:AV}(h:bL P L (D P L) f aq=FL r):∃n,XG P L n f aq=FL r:=Ni afx f aq r h
end
section
open Go (IntKind BinOp UnOp)
structure Has(P:aF)(L:Lib)(n:Nat)(F:aA):Prop where
 pure:L.pure n=FM
 heap:L.heap n=FM
 code:P n=FL F
noncomputable def qW(P:aF)(L:Lib)(r:Option (Ex×St))(b:VC):Option (Ex×St):=match r with | some (.normal,s)=>D P L b s | r=>r
def A6(id:Nat)(r:Option (Ex×St)):Option (Ex×St):=match r with | some (.exit j,s)=>bif yq j id then FL (.normal,s) else FL (.exit j,s) | r=>r
noncomputable def KM(P:aF)(L:Lib)(live:List Nat)(a:VC)(r:Option (Ex×St)):Option (Ex×St):=match r with | some (.normal,s)=>D P L (.loop live a) s | r=>r
def norm(r:Option St):Option (Ex×St):=match r with | some s=>FL (.normal,s) | none=>FM
noncomputable def Ps(P:aF)(L:Lib)(v:AV)(a b:VC)(s:St):Option (Ex×St):=match v with | .bool t=>bif t then D P L a s else D P L b s | _=>FM
def atX(s:St):D P L .skip s=FL (.normal,s):=by rw[mh];rfl
def atY(id:Nat)(s:St):D P L (.exit id) s=FL (.exit id,s):=by rw[mh];rfl
def axj(s:St):D P L .ret s=FL (.ret,s):=by rw[mh];rfl
def agJ(live:List Nat)(s:St):D P L (.kp live) s=FL (.normal,bk live s):=by rw[mh];rfl
def ayZ(ts:List Nat)(s:St):D P L (.fz ts) s=norm (qS ts s):=by rw[mh];rfl
def axk(ops:List aR)(s:St):D P L (.ml ops) s=norm (de P L (D P L) ops s):=by rw[mh];rfl
def nC(a b:VC)(s:St):D P L (.seq a b) s=qW P L (D P L a s) b:=by
 rw[mh,mh a];simp only[bD,qW]
 cases bD P L (D P L) a s with
 | none=>rfl
 | some q=>
  have⟨e,s1⟩:=q
  cases e with
  | normal=>exact (mh b s1).symm
  | ret=>rfl
  | exit id=>rfl
def atZ(x:X)(a b:VC)(s:St):D P L (.cond x a b) s=Ps P L (ay s.tm x) a b s:=by
 rw[mh];simp only[bD,Ps]
 cases ay s.tm x with
 | bool t=>
  cases t with
  | true=>exact (mh a s).symm
  | false=>exact (mh b s).symm
 | _=>rfl
def axl(id:Nat)(a:VC)(s:St):D P L (.ew id a) s=A6 id (D P L a s):=by
 rw[mh,mh a];simp only[bD,A6]
 cases bD P L (D P L) a s with
 | none=>rfl
 | some q=>have⟨e,s1⟩:=q;cases e<;>rfl
def OY(live:List Nat)(a:VC)(s:St):D P L (.loop live a) s=KM P L live a (D P L a (bk live s)):=by
 rw[mh,mh a];simp only[bD,KM]
 cases bD P L (D P L) a (bk live s) with
 | none=>rfl
 | some q=>have⟨e,s1⟩:=q;cases e<;>rfl
def iS(s:St)(b:VC):qW P L (FL (.normal,s)) b=D P L b s:=rfl
def aqD(s:St)(b:VC):qW P L (FL (.ret,s)) b=FL (.ret,s):=rfl
def aqE(id:Nat)(s:St)(b:VC):qW P L (FL (.exit id,s)) b=FL (.exit id,s):=rfl
def adl(live:List Nat)(a:VC)(s:St):KM P L live a (FL (.normal,s))=D P L (.loop live a) s:=rfl
def aqF(live:List Nat)(a:VC)(s:St):KM P L live a (FL (.ret,s))=FL (.ret,s):=rfl
def aqG(live:List Nat)(a:VC)(id:Nat)(s:St):KM P L live a (FL (.exit id,s))=FL (.exit id,s):=rfl
def aqH(id:Nat)(s:St):A6 id (FL (.normal,s))=FL (.normal,s):=rfl
def aqI(id:Nat)(s:St):A6 id (FL (.ret,s))=FL (.ret,s):=rfl
def adm(id:Nat)(s:St):A6 id (FL (.exit id,s))=FL (.normal,s):=by simp only[A6,wO,yx]
def aqJ{id j:Nat}(s:St)(h:j≠id):A6 id (FL (.exit j,s))=FL (.exit j,s):=by
 have:yq j id=yda:=by
  cases hq:yq j id with
  | false=>rfl
  | true=>exact absurd (yg hq) h
 simp only[A6,this,yR]
def at0(s:St):norm (FL s)=FL (.normal,s):=rfl
def at1:norm FM=FM:=rfl
def aqK(a b:VC)(s:St):Ps P L (.bool ycZ) a b s=D P L a s:=rfl
def aqL(a b:VC)(s:St):Ps P L (.bool yda) a b s=D P L b s:=rfl
noncomputable def Vr(P:aF)(L:Lib)(d:Option Nat)(r:List aR)(tm:Env)(base:Nat)(q:gB):Option St:=
 match q with | some (v,hp,ct)=>de P L (D P L) r ⟨put d v tm,hp,ct,base⟩ | none=>FM
noncomputable def Ef(P:aF)(L:Lib)(v:AV)(b:Bool)(d:Option Nat)(o:Op)(r:List aR)(s:St):Option St:=
 match v with
 | .bool c=>bif c==b then de P L (D P L) (⟨d,FM,o⟩::r) s else de P L (D P L) r ⟨put d (.aw []) s.tm,s.hp,s.ct,s.base⟩
 | .aw []=>de P L (D P L) r ⟨put d (.aw []) s.tm,s.hp,s.ct,s.base⟩
 | _=>FM
def aqM(s:St):de P L (D P L) [] s=FL s:=rfl
def aox(d:Option Nat)(o:Op)(r:List aR)(tm:Env)(hp:Hp)(ct base:Nat):
  de P L (D P L) (⟨d,FM,o⟩::r) ⟨tm,hp,ct,base⟩=Vr P L d r tm base (aY P L (D P L) tm hp ct o):=by
 simp only[de,Vr]
 grind
def amA(d:Option Nat)(t:Nat)(b:Bool)(o:Op)(r:List aR)(tm:Env)(hp:Hp)(ct base:Nat):
  de P L (D P L) (⟨d,FL (t,b),o⟩::r) ⟨tm,hp,ct,base⟩=Ef P L (aj tm t) b d o r ⟨tm,hp,ct,base⟩:=by
 simp only[de,Ef]
 cases aj tm t with
 | bool c=>
  simp only
  cases hc:(c==b) with
  | true=>simp only[yx]
  | false=>simp only[yR]
 | aw vs=>cases vs<;>rfl
 | _=>rfl
def aqN(d:Option Nat)(r:List aR)(tm:Env)(base:Nat)(v:AV)(hp:Hp)(ct:Nat):Vr P L d r tm base (FL (v,hp,ct))=de P L (D P L) r ⟨put d v tm,hp,ct,base⟩:=rfl
def axm(i:Nat)(v:AV)(tm:Env):put (FL i) v tm=(i,v)::tm:=rfl
def axn(v:AV)(tm:Env):put FM v tm=tm:=rfl
def aoy(d:Option Nat)(o:Op)(r:List aR)(s:St):Ef P L (.bool ycZ) ycZ d o r s=de P L (D P L) (⟨d,FM,o⟩::r) s:=rfl
def aoz(d:Option Nat)(o:Op)(r:List aR)(s:St):Ef P L (.bool yda) yda d o r s=de P L (D P L) (⟨d,FM,o⟩::r) s:=rfl
def aoA(d:Option Nat)(o:Op)(r:List aR)(tm:Env)(hp:Hp)(ct base:Nat):Ef P L (.bool ycZ) yda d o r ⟨tm,hp,ct,base⟩=de P L (D P L) r ⟨put d (.aw []) tm,hp,ct,base⟩:=rfl
def aoB(d:Option Nat)(o:Op)(r:List aR)(tm:Env)(hp:Hp)(ct base:Nat):Ef P L (.bool yda) ycZ d o r ⟨tm,hp,ct,base⟩=de P L (D P L) r ⟨put d (.aw []) tm,hp,ct,base⟩:=rfl
def aqO(b:Bool)(d:Option Nat)(o:Op)(r:List aR)(tm:Env)(hp:Hp)(ct base:Nat):Ef P L (.aw []) b d o r ⟨tm,hp,ct,base⟩=de P L (D P L) r ⟨put d (.aw []) tm,hp,ct,base⟩:=rfl
def gW{j i:Nat}(h:j≠i):yq j i=yda:=by
 cases hq:yq j i with
 | false=>rfl
 | true=>exact absurd (yg hq) h
def at2(tm:Env)(i:Nat):ay tm (.t i)=aj tm i:=rfl
def at3(tm:Env)(v:AV):ay tm (.c v)=v:=rfl
def amB(tm:Env):dG tm []=[]:=rfl
def alo(tm:Env)(x:X)(r:List X):dG tm (x::r)=ay tm x::dG tm r:=rfl
def aoC(i:Nat)(v:AV)(r:Env):aj ((i,v)::r) i=v:=by simp only[aj,wO,yx]
def amC{j i:Nat}(v:AV)(r:Env)(h:j≠i):aj ((j,v)::r) i=aj r i:=by simp only[aj,gW h,yR]
def ji(i:Nat)(o:Obj)(r:Hp):ak ((i,o)::r) i=FL o:=by simp only[ak,wO,yx]
def eW{j i:Nat}(o:Obj)(r:Hp)(h:j≠i):ak ((j,o)::r) i=ak r i:=by simp only[ak,gW h,yR]
def ab9(i:Nat)(o u:Obj)(r:Hp):aW ((i,o)::r) i u=(i,u)::r:=by simp only[aW,wO,yx]
def abe{j i:Nat}(o u:Obj)(r:Hp)(h:j≠i):aW ((j,o)::r) i u=(j,o)::aW r i u:=by simp only[aW,gW h,yR]
def aoD(i:Nat):cT [] i=[]:=rfl
def Jt(i:Nat)(o:Obj)(r:Hp):cT ((i,o)::r) i=cT r i:=by simp only[cT,wO,yx]
def Cb{j i:Nat}(o:Obj)(r:Hp)(h:j≠i):cT ((j,o)::r) i=(j,o)::cT r i:=by simp only[cT,gW h,yR]
def rd(hp:Hp)(ct:Nat)(q:Option AV):gB:=match q with | some v=>FL (v,hp,ct) | none=>FM
def mk(hp:Hp)(ct:Nat)(q:Option (AV×Obj)):gB:=match q with | some (v,b)=>FL (v,(ct,b)::hp,ct+1) | none=>FM
def ay0(hp:Hp)(ct:Nat)(v:AV):rd hp ct (FL v)=FL (v,hp,ct):=rfl
def ay1(hp:Hp)(ct:Nat)(v:AV)(b:Obj):mk hp ct (FL (v,b))=FL (v,(ct,b)::hp,ct+1):=rfl
def Vs(c a b:AV):Option AV:=match c with | .bool t=>FL (bif t then a else b) | _=>FM
def MI(k:Nat->Option AV)(n:Option Nat):Option AV:=match n with | some i=>k i | none=>FM
def afy(r:Option (List AV)):Option AV:=match r with | some cs=>FL (.agg cs) | none=>FM
def Bo(ne:Bool)(r:Option Bool):Option AV:=match r with | some b=>FL (.bool (ne !=b)) | none=>FM
def ay2:AV->Option AV
 | .ptr id o=>FL (.ptr id o)
 | .bN cs=>FL (.bN cs)
 | .fn f a b=>FL (.fn f a b)
 | _=>FM
def Lu(i:Nat):AV->Option AV | .aw vs=>vs[i]? | _=>FM
section
variable {f:cl}{tm:Env}{hp:Hp}{ct:Nat}
def at4(x:X):aY P L f tm hp ct (.sK x)=FL (ay tm x,hp,ct):=rfl
def aqP(c a b:X):aY P L f tm hp ct (.pick c a b)=rd hp ct (Vs (ay tm c) (ay tm a) (ay tm b)):=by
 rfl
def aoE(z:List AV)(ps:List (Nat×Nat×X)):aY P L f tm hp ct (.qR z ps)=rd hp ct (afy (fill tm z ps)):=by
 rfl
def axo(sz:Nat)(ag:Bool)(x:X):aY P L f tm hp ct (.ld sz ag x)=rd hp ct (gJ hp sz ag (ay tm x)):=rfl
def aqQ(x:X):aY P L f tm hp ct (.KU x)=rd hp ct (ay2 (ay tm x)):=by
 rfl
def at5(op:BinOp)(x y:X):aY P L f tm hp ct (.bin op x y)=rd hp ct (binOp op (ay tm x) (ay tm y)):=rfl
def axp(ne:Bool)(k:Q5)(x y:X):aY P L f tm hp ct (.eq ne k x y)=rd hp ct (Bo ne (jr k (ay tm x) (ay tm y))):=by
 rfl
def axq(op:UnOp)(x:X):aY P L f tm hp ct (.un op x)=rd hp ct (unOp op (ay tm x)):=rfl
def axr(k:Conv)(x:X):aY P L f tm hp ct (.cv k x)=rd hp ct (me k (ay tm x)):=rfl
def at6(g:Fr)(a b:List X):aY P L f tm hp ct (.Hx g a b)=FL (.fn g (dG tm a) (dG tm b),hp,ct):=rfl
def at7(k:Cut)(x:X)(lo hi:Option X):aY P L f tm hp ct (.rC k x lo hi)=rd hp ct (fJ hp k (ay tm x) tm lo hi):=rfl
def aua(k:Nat)(x:X):aY P L f tm hp ct (.off k x)=rd hp ct (CC k (ay tm x)):=rfl
def aub(o sz:Nat)(ag:Bool)(x:X):aY P L f tm hp ct (.L8 o sz ag x)=rd hp ct (Pe o sz ag (ay tm x)):=rfl
def auc(sz:Nat)(x i:X):aY P L f tm hp ct (.bq sz x i)=rd hp ct (MI (fun j=>jm sz j (ay tm x)) (dH (ay tm i))):=by
 rfl
def aud(n sz:Nat)(x i:X):aY P L f tm hp ct (.Aa n sz x i)=rd hp ct (MI (fun j=>GQ n sz j (ay tm x)) (dH (ay tm i))):=by
 rfl
def aue(x i:X):aY P L f tm hp ct (.Hy x i)=rd hp ct (MI (fun j=>oh j (ay tm x)) (dH (ay tm i))):=by
 rfl
def auf(n sz:Nat)(ag:Bool)(x i:X):aY P L f tm hp ct (.Hz n sz ag x i)=rd hp ct (MI (fun j=>GR n sz ag j (ay tm x)) (dH (ay tm i))):=by
 rfl
def aug(i:Nat)(x:X):aY P L f tm hp ct (.ext i x)=rd hp ct (Lu i (ay tm x)):=by
 rfl
def auh(k:Nat)(x:X):aY P L f tm hp ct (.len k x)=rd hp ct (kB hp k (ay tm x)):=rfl
def aui(sz:Nat)(x:X):aY P L f tm hp ct (.box sz x)=mk hp ct (cK tm hp ct (.box sz x)):=rfl
def aqR(n sz:Nat)(z:List AV)(ps:List (Nat×Nat×X)):aY P L f tm hp ct (.jo n sz z ps)=mk hp ct (cK tm hp ct (.jo n sz z ps)):=rfl
def auj(sz by':Nat)(z:List AV)(l c:X):aY P L f tm hp ct (.pK sz by' z l c)=mk hp ct (cK tm hp ct (.pK sz by' z l c)):=rfl
def auk:aY P L f tm hp ct .Bz=FL (.map ct,(ct,.mp ycZ [] [])::hp,ct+1):=rfl
def aul(x:X):aY P L f tm hp ct (.rE x)=mk hp ct (cK tm hp ct (.rE x)):=rfl
def axs(sz:Nat)(x v:X):aY P L f tm hp ct (.st sz x v)=cp tm hp ct (.st sz x v):=rfl
def aum(sz by':Nat)(s x:X):aY P L f tm hp ct (.db sz by' s x)=cp tm hp ct (.db sz by' s x):=rfl
def Pt(hp:Hp)(ct:Nat)(r:Option AV):gB:=match r with | some v=>FL (shut v,hp,ct) | none=>FM
def Qx(hp:Hp)(ct:Nat)(r:Option AV):gB:=match r with | some v=>FL (own hp ct v) | none=>FM
def Vt(P:aF)(L:Lib)(f:cl)(ct n:Nat)(q:Option (List AV×Hp)):gB:=match q with | some (aq,hp)=>Pt hp ct (bL P L f n aq) | none=>FM
def Vu(P:aF)(L:Lib)(f:cl)(ct n:Nat)(q:Option (List AV×Hp)):gB:=match q with | some (aq,hp)=>Qx hp ct (bL P L f n aq) | none=>FM
def Vv(P:aF)(L:Lib)(f:cl)(hp:Hp)(ct:Nat)(fv:AV)(xs:List AV):gB:=eQ P L f hp ct .pure fv xs
def Vw(P:aF)(L:Lib)(f:cl)(hp:Hp)(ct:Nat)(fv:AV)(xs:List AV):gB:=eQ P L f hp ct .own fv xs
def aoF(g:X)(xs:List X):aY P L f tm hp ct (.call .pure g xs)=Vv P L f hp ct (ay tm g) (dG tm xs):=rfl
def aoG(g:X)(xs:List X):aY P L f tm hp ct (.call .own g xs)=Vw P L f hp ct (ay tm g) (dG tm xs):=rfl
def aoH(g:X)(xs:List X):aY P L f tm hp ct (.call .heap g xs)=eQ P L f hp ct .heap (ay tm g) (dG tm xs):=rfl
def aqS(n:Nat)(first cap xs:List AV):Vv P L f hp ct (.fn (.f n) first cap) xs=Vt P L f ct n (cE deep hp (first++(xs++cap))):=by
 simp only[Vv,eQ,Vt,Pt]
 cases cE deep hp (first++(xs++cap)) with
 | none=>rfl
 | some q=>cases bL P L f n q.1<;>rfl
def aqT(n:Nat)(first cap xs:List AV):Vw P L f hp ct (.fn (.f n) first cap) xs=Vu P L f ct n (cE deep hp (first++(xs++cap))):=by
 simp only[Vw,eQ,Vu,Qx]
 cases cE deep hp (first++(xs++cap)) with
 | none=>rfl
 | some q=>cases bL P L f n q.1<;>rfl
def aqU(n:Nat)(aq:List AV):Vt P L f ct n (FL (aq,hp))=Pt hp ct (bL P L f n aq):=rfl
def aqV(n:Nat)(aq:List AV):Vu P L f ct n (FL (aq,hp))=Qx hp ct (bL P L f n aq):=rfl
def aqW(v:AV):Pt hp ct (FL v)=FL (shut v,hp,ct):=rfl
def aun(v:AV):Qx hp ct (FL v)=FL (own hp ct v):=rfl
def Qy(hp:Hp)(r:Option AV):Option AV:=match r with | some v=>result hp v | none=>FM
def gn(rs:List RV)(q:Option (Ex×St)):Option AV:=
 match q with
 | some (.normal,s) | some (.ret,s)=>Qy s.hp (jE s rs)
 | _=>FM
def aE{n:Nat}{F:aA}(h:Has P L n F)(aq:List AV):bL P L f n aq=gn F.eA (f F.body ⟨fI 0 aq,[],0,0⟩):=by
 simp only[bL,h.pure,h.code]
 cases hq:f F.body ⟨fI 0 aq,[],0,0⟩ with
 | none=>rfl
 | some q=>
  have⟨e,s⟩:=q
  cases e with
  | normal=>rfl
  | ret=>rfl
  | exit id=>rfl
def auo(rs:List RV)(s:St):gn rs (FL (.normal,s))=Qy s.hp (jE s rs):=rfl
def aup(rs:List RV)(s:St):gn rs (FL (.ret,s))=Qy s.hp (jE s rs):=rfl
def auq(v:AV):Qy hp (FL v)=result hp v:=rfl
def Wr(r:RV)(s:St):jE s [r]=results1 s r:=by
 simp only[jE,mA];cases results1 s r<;>rfl
def agK(r:Option (List AV)):Option AV:=match r with | some vs=>FL (.aw vs) | none=>FM
def ay3(r q:RV)(l:List RV)(s:St):jE s (r::q::l)=agK (mA s (r::q::l)):=by
 simp only[jE,mA];cases results1 s r<;>cases results1 s q<;>cases mA s l<;>rfl
def afz(r:Option AV)(l:Option (List AV)):Option (List AV):=match r,l with | some v,FL vs=>FL (v::vs) | _,_=>FM
def aoI(s:St):mA s []=FL []:=rfl
def amD(r:RV)(l:List RV)(s:St):mA s (r::l)=afz (results1 s r) (mA s l):=rfl
def aqX(v:AV)(vs:List AV):afz (FL v) (FL vs)=FL (v::vs):=rfl
def aur(vs:List AV):agK (FL vs)=FL (.aw vs):=rfl
def Vx(i:Nat)(s:St):results1 s (.t i)=FL (aj s.tm i):=rfl
def axt(a:AV):fI 0 [a]=[(0,a)]:=rfl
def axu(a b:AV):fI 0 [a,b]=[(0,a),(1,b)]:=rfl
def axv(a b c:AV):fI 0 [a,b,c]=[(0,a),(1,b),(2,c)]:=rfl
def axw(a b c d:AV):fI 0 [a,b,c,d]=[(0,a),(1,b),(2,c),(3,d)]:=rfl
def axx(a b c d e:AV):fI 0 [a,b,c,d,e]=[(0,a),(1,b),(2,c),(3,d),(4,e)]:=rfl
def alp(k:xc)(n:Int):result hp (.int k n)=FL (.int k n):=rfl
def akP(b:Bool):result hp (.bool b)=FL (.bool b):=rfl
def alq(s:List Nat):result hp (.str s)=FL (.str s):=rfl
def akQ:result hp .ah=FL .ah:=rfl
def alr(e:Bool)(n:Nat)(cs:List AV):result hp (.au e n cs)=FL (.au e n cs):=rfl
def shut_int(k:xc)(n:Int):shut (.int k n)=.int k n:=rfl
def shut_bool(b:Bool):shut (.bool b)=.bool b:=rfl
def aoJ(s:List Nat):shut (.str s)=.str s:=rfl
def amE:shut .ah=.ah:=rfl
def aoK(e:Bool)(n:Nat)(cs:List AV):shut (.au e n cs)=.au e n cs:=rfl
def aoL(e:Bool)(sz n:Nat)(cs:List AV):shut (.c7 e sz n cs)=.au e n cs:=rfl
def bz(cs:List AV):shut (.agg cs)=.agg cs:=rfl
def aqY(g:Fr)(a b:List AV):shut (.fn g a b)=.fn g a b:=rfl
def TH(vs:List AV):shut (.aw vs)=.aw (Ej vs):=rfl
def S8:Ej []=[]:=rfl
def SF(v:AV)(r:List AV):Ej (v::r)=cg v::Ej r:=rfl
def amF(k:xc)(n:Int):cg (.int k n)=.int k n:=rfl
def als(b:Bool):cg (.bool b)=.bool b:=rfl
def amG(s:List Nat):cg (.str s)=.str s:=rfl
def alt:cg .ah=.ah:=rfl
def amH(e:Bool)(n:Nat)(cs:List AV):cg (.au e n cs)=.au e n cs:=rfl
def amI(e:Bool)(sz n:Nat)(cs:List AV):cg (.c7 e sz n cs)=.au e n cs:=rfl
def Cc(cs:List AV):cg (.agg cs)=.agg cs:=rfl
def Ws(n:Nat)(r:List AV)(q:Option (AV×Hp)):Option (List AV×Hp):=match q with | some (v,hp)=>(match cE n hp r with | some (vs,ja)=>FL (v::vs,ja) | none=>FM) | none=>FM
def agL(v:AV)(q:Option (List AV×Hp)):Option (List AV×Hp):=match q with | some (vs,hp)=>FL (v::vs,hp) | none=>FM
def aoM(n:Nat):cE (n+1) hp []=FL ([],hp):=rfl
def abf(n:Nat)(v:AV)(r:List AV):cE (n+1) hp (v::r)=Ws n r (freeze n hp v):=by
 simp only[cE,Ws];cases freeze n hp v<;>rfl
def ad3(n:Nat)(r:List AV)(v:AV):Ws n r (FL (v,hp))=agL v (cE n hp r):=by
 rfl
def ad4(v:AV)(vs:List AV):agL v (FL (vs,hp))=FL (v::vs,hp):=rfl
def aqZ(n:Nat)(k:xc)(a:Int):freeze (n+1) hp (.int k a)=FL (.int k a,hp):=rfl
def aoN(n:Nat)(b:Bool):freeze (n+1) hp (.bool b)=FL (.bool b,hp):=rfl
def aq0(n:Nat)(s:List Nat):freeze (n+1) hp (.str s)=FL (.str s,hp):=rfl
def aoO(n:Nat):freeze (n+1) hp .ah=FL (.ah,hp):=rfl
def aq1(n:Nat)(e:Bool)(k:Nat)(cs:List AV):freeze (n+1) hp (.au e k cs)=FL (.au e k cs,hp):=rfl
def aoP(n:Nat)(cs:List AV):freeze (n+1) hp (.bN cs)=FL (.bN cs,hp):=rfl
end
section
variable {hp:Hp}
def aus(a b:AV):Vs (.bool ycZ) a b=FL a:=rfl
def aut(a b:AV):Vs (.bool yda) a b=FL b:=rfl
def axy(k:Nat->Option AV)(n:Nat):MI k (FL n)=k n:=rfl
def alu(k:xc)(n:Nat):dH (.int k (n:Int))=FL n:=rfl
def auu(k:xc):dH (.int k 0)=FL 0:=rfl
def auv(k:xc):dH (.int k 1)=FL 1:=rfl
def auw(k:xc):dH (.int k 2)=FL 2:=rfl
def auy(k:xc):dH (.int k 3)=FL 3:=rfl
def auz(k:xc):dH (.int k 4)=FL 4:=rfl
def auA(k:xc):dH (.int k 5)=FL 5:=rfl
def auB(k:xc):dH (.int k 6)=FL 6:=rfl
def auC(k:xc):dH (.int k 7)=FL 7:=rfl
def auD(k:xc):dH (.int k 8)=FL 8:=rfl
def auE(k:xc):dH (.int k 9)=FL 9:=rfl
def aq2(cs:List AV):afy (FL cs)=FL (.agg cs):=rfl
def adn(k:xc)(a b:Int):binOp .add (.int k a) (.int k b)=FL (.int k (k.wrap (a+b))):=by simp[binOp,mJ]
def Ow(k:xc)(a b:Int):binOp .sub (.int k a) (.int k b)=FL (.int k (k.wrap (a-b))):=by simp[binOp,mJ]
def ado(k:xc)(a b:Int):binOp .mul (.int k a) (.int k b)=FL (.int k (k.wrap (a*b))):=by simp[binOp,mJ]
def eK(k:xc)(a b:Int)(h:b≠0):binOp .quo (.int k a) (.int k b)=FL (.int k (k.wrap (a.tdiv b))):=by simp[binOp,mJ,h]
def fC(k:xc)(a b:Int)(h:b≠0):binOp .rem (.int k a) (.int k b)=FL (.int k (a.tmod b)):=by simp[binOp,mJ,h]
def aq3(k:xc)(a b:Int):binOp .eql (.int k a) (.int k b)=FL (.bool (decide (a=b))):=by
 simp[binOp,mJ,intCmp,BEq.beq]
def aq4(k:xc)(a b:Int):binOp .neq (.int k a) (.int k b)=FL (.bool (!decide (a=b))):=by
 simp[binOp,mJ,intCmp,bne,BEq.beq]
def aq5(k:xc)(a b:Int):binOp .lss (.int k a) (.int k b)=FL (.bool (decide (a<b))):=by simp[binOp,mJ,intCmp]
def aq6(k:xc)(a b:Int):binOp .leq (.int k a) (.int k b)=FL (.bool (decide (a<=b))):=by simp[binOp,mJ,intCmp]
def aq7(k:xc)(a b:Int):binOp .gtr (.int k a) (.int k b)=FL (.bool (decide (b<a))):=by simp[binOp,mJ,intCmp]
def aq8(k:xc)(a b:Int):binOp .geq (.int k a) (.int k b)=FL (.bool (decide (b<=a))):=by simp[binOp,mJ,intCmp]
def auF(k:xc)(a:Int):unOp .neg (.int k a)=FL (.int k (k.wrap (0-a))):=rfl
def auG(b:Bool):unOp .not (.bool b)=FL (.bool !b):=rfl
def aoQ:kB hp 1 .ah=FL (.int .i64 0):=rfl
def aq9(e:Bool)(n:Nat)(cs:List AV):kB hp 1 (.au e n cs)=FL (.int .i64 n):=rfl
def ara(id o n:Nat):kB hp 1 (.ax id o n)=FL (.int .i64 n):=rfl
def AT(s:List Nat):kB hp 0 (.str s)=FL (.int .i64 s.length):=rfl
def Uk{sz i n:Nat}(e:Bool)(cs:List AV)(h:i<n):jm sz i (.au e n cs)=FL (.bN (cs.drop (i*sz))):=by
 have hb:yO i n=ycZ:=yB h;simp only[jm]
 grind
def di{sz i n:Nat}(id o:Nat)(h:i<n):jm sz i (.ax id o n)=FL (.ptr id (o+i*sz)):=by
 have hb:yO i n=ycZ:=yB h;simp only[jm]
 grind
def aoR(v:AV)(cs:List AV):gJ hp 1 yda (.bN (v::cs))=FL v:=rfl
def RJ(sz:Nat)(ag:Bool)(o:Nat)(q:Option Obj):Option AV:=match q with | some (.cells _ _ _ _ cs)=>fT sz ag (cs.drop o) | _=>FM
def auH(sz:Nat)(ag:Bool)(id o:Nat):gJ hp sz ag (.ptr id o)=RJ sz ag o (ak hp id):=by
 rfl
def axz(sz:Nat)(ag:Bool)(o:Nat)(rw pu ex:Bool)(z:Nat)(cs:List AV):RJ sz ag o (FL (.cells rw pu ex z cs))=fT sz ag (cs.drop o):=rfl
def axA(sz:Nat)(v:AV)(cs:List AV):fT sz yda (v::cs)=FL v:=rfl
def ay4(a:AV)(l:List AV):Lu 0 (.aw (a::l))=FL a:=rfl
def ext1(a b:AV)(l:List AV):Lu 1 (.aw (a::b::l))=FL b:=rfl
def ay5(a b c:AV)(l:List AV):Lu 2 (.aw (a::b::c::l))=FL c:=rfl
def ay6(a b c d:AV)(l:List AV):Lu 3 (.aw (a::b::c::d::l))=FL d:=rfl
end
def pk:Env->Bool
 | []=>ycZ
 | (_,v)::r=>aX v&&pk r
mutual
def iw:∀{v:AV},aX v=ycZ->refs v=[]
 | .int _ _,_ | .bool _,_ | .av _ _,_ | .dl _ _ _,_ | .str _,_ | .kY,_ | .bN _,_ | .ah,_ | .au _ _ _,_ | .iG,_ | .jM,_ | .jN _ _,_ | .undef,_=>rfl
 | .ptr _ _,h | .ax _ _ _,h | .map _,h | .it _,h | .c7 _ _ _ _,h=>by simp[aX] at h
 | .fn (.y _) _ _,h=>by simp[aX] at h
 | .fn (.f _) first cap,h=>by
  simp only[aX,yf] at h;simp only[refs,Jd h.1,Jd h.2,xT]
 | .agg cs,h=>by simp only[aX] at h;simp only[refs,Jd h]
 | .aw cs,h=>by simp only[aX] at h;simp only[refs,Jd h]
def Jd:∀{vs:List AV},aG vs=ycZ->gh vs=[]
 | [],_=>rfl
 | v::r,h=>by
  simp only[aG,yf] at h;simp only[gh,iw h.1,Jd h.2,xT]
end
mutual
def qu(f:Nat->Option Nat):∀{v:AV},aX v=ycZ->br f v=v
 | .int _ _,_ | .bool _,_ | .av _ _,_ | .dl _ _ _,_ | .str _,_ | .kY,_ | .bN _,_ | .ah,_ | .au _ _ _,_ | .iG,_ | .jM,_ | .jN _ _,_ | .undef,_=>rfl
 | .ptr _ _,h | .ax _ _ _,h | .map _,h | .it _,h | .c7 _ _ _ _,h=>by simp[aX] at h
 | .fn (.y _) _ _,h=>by simp[aX] at h
 | .fn (.f _) first cap,h=>by
  simp only[aX,yf] at h;simp only[br,Jk f h.1,Jk f h.2]
 | .agg cs,h=>by simp only[aX] at h;simp only[br,Jk f h]
 | .aw cs,h=>by simp only[aX] at h;simp only[br,Jk f h]
def Jk(f:Nat->Option Nat):∀{vs:List AV},aG vs=ycZ->dI f vs=vs
 | [],_=>rfl
 | v::r,h=>by
  simp only[aG,yf] at h;simp only[dI,qu f h.1,Jk f h.2]
end
def SG:∀{tm:Env},pk tm=ycZ->dR tm=[]
 | [],_=>rfl
 | (i,v)::r,h=>by
  simp only[pk,yf] at h;simp only[dR,iw h.1,SG h.2,xT]
def abg(f:Nat->Option Nat):∀{tm:Env},pk tm=ycZ->dS f tm=tm
 | [],_=>rfl
 | (i,v)::r,h=>by
  simp only[pk,yf] at h;simp only[dS,qu f h.1,abg f h.2]
def Nj{live:List Nat}{tm:Env}{ct:Nat}(h:pk (bm tm live)=ycZ):bk live ⟨tm,[],ct,0⟩=⟨bm tm live,[],0,0⟩:=by
 simp only[bk,SG h,cQ,xT];simp only[reach,eE,fQ,abg _ h,yJ,y5]
def akR{tm:Env}{ct:Nat}:bk [] ⟨tm,[],ct,0⟩=⟨[],[],0,0⟩:=rfl
def N7{P:aF}{L:Lib}{live:List Nat}{a:VC}(I:Nat->St->Prop)(Q:Ex->St->Prop)(step:∀k s,I k s->(∃s' k',D P L a (bk live s)=FL (.normal,s')/\k'<k/\I k' s')\/(∃ex s',D P L a (bk live s)=FL (ex,s')/\ex≠.normal/\Q ex s')):
  ∀k s,I k s->∃ex s',D P L (.loop live a) s=FL (ex,s')/\Q ex s':=by
 intro k
 induction k using vR with
 | _ k ih=>
  intro s hI;rw[OY];rcases step k s hI with ⟨s',k',h1,h2,h3⟩ | ⟨ex,s',h1,h2,h3⟩
  .rw [h1,adl];exact ih k' h2 s' h3
  .rw [h1]
   cases ex with
   | normal=>exact absurd rfl h2
   | ret=>exact⟨.ret,s',rfl,h3⟩
   | exit id=>exact⟨.exit id,s',rfl,h3⟩
def TI{P:aF}{L:Lib}{live:List Nat}{a:VC}(I:Nat->St->Prop)(Q:Ex->St->Prop)(step:∀k s,I k s->(∃s' k',D P L a s=FL (.normal,s')/\k'<k/\I k' (bk live s'))\/(∃ex s',D P L a s=FL (ex,s')/\ex≠.normal/\Q ex s')):
  ∀k s,I k (bk live s)->∃ex s',D P L (.loop live a) s=FL (ex,s')/\Q ex s':=
 N7 (fun k s=>I k (bk live s)) Q (fun k s h=>step k _ h)
def cZ(P:aF)(L:Lib)(live:List Nat)(a:VC)(I:Nat->St->Prop)(Q:Ex->St->Prop):Prop:=∀k s,I k (bk live s)->∃ex s',D P L (.loop live a) s=FL (ex,s')/\Q ex s'
def c6{P:aF}{L:Lib}{live:List Nat}{a:VC}{I:Nat->St->Prop}{Q:Ex->St->Prop}(step:∀k s,I k s->(∃s' k',D P L a s=FL (.normal,s')/\k'<k/\I k' (bk live s'))\/(∃ex s',D P L a s=FL (ex,s')/\ex≠.normal/\Q ex s')):cZ P L live a I Q:=TI I Q step
def aEA{P:aF}{L:Lib}{live:List Nat}{a:VC}{I:Nat->St->Prop}{Q:Ex->St->Prop}(step:∀k s,I k s->(∃s' k',D P L a s=FL (.normal,s')/\k'<k/\I k' (bk live s'))\/(∃ex s',D P L a s=FL (ex,s')/\ex≠.normal/\Q ex s')):
  ∀k s s0,bk live s=s0->I k s0->∃ex s',D P L (.loop live a) s=FL (ex,s')/\Q ex s':=fun k s s0 h hi=>TI I Q step k s (h▸hi)
def az{v:AV}(h:aX v=ycZ):refs v=[]/\∀f,br f v=v:=⟨iw h,fun f=>qu f h⟩
def iA(P:aF)(L:Lib)(live:List Nat)(a:VC)(I:Nat->St->Prop)(Q:Ex->St->Prop)(step:∀k s,I k s->(∃s' k',D P L a s=FL (.normal,s')/\k'<k/\I k' (bk live s'))\/(∃ex s',D P L a s=FL (ex,s')/\ex≠.normal/\Q ex s')):
  ∀k s,I k (bk live s)->∃ex s',D P L (.loop live a) s=FL (ex,s')/\Q ex s':=TI I Q step
def bH{P:aF}{L:Lib}{c:VC}{s:St}{q:Option (Ex×St)}{I:St->Prop}{Q:Ex->St->Prop}(hq:D P L c s=q)(key:∀s,I s->∃ex s',D P L c s=FL (ex,s')/\Q ex s')(hI:I s):
  ∃ex s',q=FL (ex,s')/\Q ex s':=by
 rw[<-hq];exact key s hI
def aoS(tm:Env):bm tm []=[]:=rfl
def amJ(tm:Env)(i:Nat)(r:List Nat):bm tm (i::r)=(i,aj tm i)::bm tm r:=rfl
def amK:pk []=ycZ:=rfl
def alv(i:Nat)(v:AV)(r:Env):pk ((i,v)::r)=(aX v&&pk r):=rfl
def ad5(k:xc)(n:Int):aX (.int k n)=ycZ:=(rfl)
def arb(b:Bool):aX (.bool b)=ycZ:=(rfl)
def auI(s:List Nat):aX (.str s)=ycZ:=(rfl)
def arc:aX .ah=ycZ:=(rfl)
def auJ(e:Bool)(n:Nat)(cs:List AV):aX (.au e n cs)=ycZ:=(rfl)
def ard(cs:List AV):aX (.bN cs)=ycZ:=(rfl)
def aoT:aX .undef=ycZ:=(rfl)
attribute [go_sem] deep akR aoS amJ amK alv ad5 arb auI arc auJ ard aoT uO wS
attribute [go_sem] atX atY axj agJ ayZ axk nC atZ axl iS aqD aqE adl aqF aqG aqH aqI adm aqJ at0 at1 aqK aqL
 aqM aox amA aqN axm axn aoy aoz aoA aoB aqO at2 at3 amB alo aoC amC ji eW ab9 abe aoD Jt Cb
 ay0 ay1 at4 aqP aoE axo aqQ at5 axp axq axr at6 at7 aua aub auc aud aue auf aug auh aui aqR auj auk aul axs aum aoF aoG aoH
 aqS aqT aqU aqV aqW aun auo aup auq Wr ay3 aoI amD aqX aur Vx axt axu axv axw axx
 alp akP alq akQ alr shut_int shut_bool aoJ amE aoK aoL bz aqY TH S8 SF amF als amG alt amH amI Cc
 aoM abf ad3 ad4 aqZ aoN aq0 aoO aq1 aoP
 aus aut axy alu auu auv auw auy auz auA auB auC auD auE aq2 adn Ow ado aq3 aq4 aq5 aq6 aq7 aq8 auF auG aoQ aq9 ara AT aoR auH axz axA ay4 ext1 ay5 ay6
 yG xT ym yM yH Bool.not_true Bool.not_false ne_eq ycU
end
abbrev aa(n:Int):AV:=.int .i64 n
def cz(v:AV)(cs:List AV):Prop:=(v=.ah/\cs=[])\/∃e,v=.au e cs.length cs
section
variable {v:AV}{cs:List AV}{hp:Hp}
def cz.len(h:cz v cs){hp:Hp}:kB hp 1 v=FL (.int .i64 (cs.length:Nat)):=by
 rcases h with ⟨rfl,rfl⟩ | ⟨e,rfl⟩<;>rfl
def cz.pu(h:cz v cs):aX v=ycZ:=by
 rcases h with ⟨rfl,rfl⟩ | ⟨e,rfl⟩<;>rfl
def cz.ai(h:cz v cs)(n:Nat){hp:Hp}:freeze (n+1) hp v=FL (v,hp):=by
 rcases h with ⟨rfl,rfl⟩ | ⟨e,rfl⟩<;>rfl
def cz.shut(h:cz v cs):shut v=v:=by
 rcases h with ⟨rfl,rfl⟩ | ⟨e,rfl⟩<;>rfl
def cz.cg(h:cz v cs):cg v=v:=by
 rcases h with ⟨rfl,rfl⟩ | ⟨e,rfl⟩<;>rfl
def cz.eA(h:cz v cs){hp:Hp}:result hp v=FL v:=by
 rcases h with ⟨rfl,rfl⟩ | ⟨e,rfl⟩<;>rfl
def cz.bq(h:cz v cs){i:Nat}(hi:i<cs.length):jm 1 i v=FL (.bN (cs[i]::cs.drop (i+1))):=by
 rcases h with ⟨rfl,rfl⟩ | ⟨e,rfl⟩
 .grind
 .rw [Uk e _ hi,yi,yZ hi]
def cz.one(h:cz v cs):er v=ycZ:=by
 rcases h with ⟨rfl,rfl⟩ | ⟨e,rfl⟩<;>rfl
def cz.cells(h:cz v cs):cellsOf v=[v]:=by
 rcases h with ⟨rfl,rfl⟩ | ⟨e,rfl⟩<;>rfl
def Ga(e:Bool)(cs:List AV):cz (.au e cs.length cs) cs:=.inr ⟨e,rfl⟩
def zq:cz .ah []:=.inl ⟨rfl,rfl⟩
end
def bi(v:AV)(l:List Int):Prop:=cz v (l.map aa)
section
variable {v:AV}{l:List Int}
def bi.len(h:bi v l){hp:Hp}:kB hp 1 v=FL (.int .i64 (l.length:Nat)):=by
 have:=cz.len (hp:=hp) h
 grind
def bi.pu(h:bi v l):aX v=ycZ:=cz.pu h
def bi.ai(h:bi v l)(n:Nat){hp:Hp}:freeze (n+1) hp v=FL (v,hp):=cz.ai h n
def bi.shut(h:bi v l):VE.shut v=v:=cz.shut h
def bi.cg(h:bi v l):VE.cg v=v:=cz.cg h
def bi.eA(h:bi v l){hp:Hp}:result hp v=FL v:=cz.eA h
def bi.one(h:bi v l):er v=ycZ:=cz.one h
def bi.cells(h:bi v l):cellsOf v=[v]:=cz.cells h
def bi.bq(h:bi v l){i:Nat}(hi:i<l.length):jm 1 i v=FL (.bN (.int .i64 l[i]::(l.map aa).drop (i+1))):=by
 have:=cz.bq h (i:=i) (by simpa using hi)
 grind
def kz(e:Bool)(l:List Int):bi (.au e l.length (l.map aa)) l:=by
 have:=Ga e (l.map aa)
 rwa[yU] at this
end
def jP{α β:Type}(p:α->β->Prop):List α->List β->Prop
 | [],[]=>True
 | a::r,b::s=>p a b/\jP p r s
 | _,_=>False
section
variable {α β:Type}{p:α->β->Prop}
def jP.len:∀{l:List α} {m:List β},jP p l m->l.length=m.length
 | [],[],_=>rfl
 | _::_,_::_,h=>by rw[yy,yy,h.2.len]
def jP.get:∀{l:List α} {m:List β} (_:jP p l m) {i:Nat} (h1:i<l.length) (h2:i<m.length),p l[i] m[i]
 | a::r,b::s,h,0,_,_=>h.1
 | a::r,b::s,h,i+1,h1,h2=>by
  exact h.2.get (by simpa using h1) (by simpa using h2)
end
def IsS(v:AV)(s:List (List Int)):Prop:=∃rows,cz v rows/\jP bi rows s
def wrap64{n:Int}(h1: -9223372036854775808<=n)(h2:n<9223372036854775808):IntKind.wrap .i64 n=n:=by
 simp only[IntKind.wrap,IntKind.bits,IntKind.signed,wS]
 grind
def wrapN{n:Nat}(h:n<9223372036854775808):IntKind.wrap .i64 (n:Int)=n:=wrap64 (by lia) (by lia)
abbrev ab(P:aF)(L:Lib)(f:Nat)(aq:List AV)(r:AV):Prop:=bL P L (D P L) f aq=FL r
section
variable {v:AV}{ex pu:Bool}{cs new:List AV}{by' n o sz:Nat}
section
variable {P:aF}{L:Lib}{f:cl}{tm:Env}{hp:Hp}{ct:Nat}
def amL(k:xc)(n:Int):cellsOf (.int k n)=[.int k n]:=(rfl)
def alw(b:Bool):cellsOf (.bool b)=[.bool b]:=(rfl)
def amM(s:List Nat):cellsOf (.str s)=[.str s]:=(rfl)
def alx:cellsOf .ah=[.ah]:=(rfl)
def amN(e:Bool)(n:Nat)(cs:List AV):cellsOf (.au e n cs)=[.au e n cs]:=(rfl)
def amO(id o n:Nat):cellsOf (.ax id o n)=[.ax id o n]:=(rfl)
def amP(id o:Nat):cellsOf (.ptr id o)=[.ptr id o]:=(rfl)
def aoU(g:Fr)(a b:List AV):cellsOf (.fn g a b)=[.fn g a b]:=(rfl)
def amQ(cs:List AV):cellsOf (.agg cs)=cs:=(rfl)
def adp(k:xc)(n:Int):er (.int k n)=ycZ:=(rfl)
def aoV(b:Bool):er (.bool b)=ycZ:=(rfl)
def are(s:List Nat):er (.str s)=ycZ:=(rfl)
def aoW:er .ah=ycZ:=(rfl)
def arf(e:Bool)(n:Nat)(cs:List AV):er (.au e n cs)=ycZ:=(rfl)
def arh(id o n:Nat):er (.ax id o n)=ycZ:=(rfl)
def ari(id o:Nat):er (.ptr id o)=ycZ:=(rfl)
def auK(g:Fr)(a b:List AV):er (.fn g a b)=ycZ:=(rfl)
def aoX:cd []=ycZ:=(rfl)
def abh(v:AV)(r:List AV):cd (v::r)=(er v&&cd r):=(rfl)
def amR:aG []=ycZ:=(rfl)
def aly(v:AV)(r:List AV):aG (v::r)=(aX v&&aG r):=(rfl)
def auL(id o:Nat):aX (.ptr id o)=yda:=(rfl)
def auM(id o n:Nat):aX (.ax id o n)=yda:=(rfl)
def axB(g:Nat)(a b:List AV):aX (.fn (.f g) a b)=(aG a&&aG b):=(rfl)
def ay7(l:Nat)(a b:List AV):aX (.fn (.y l) a b)=yda:=(rfl)
def auN(cs:List AV):aX (.agg cs)=aG cs:=(rfl)
def auO(cs:List AV):aX (.aw cs)=aG cs:=(rfl)
def lH(ct sz:Nat)(cs:List AV):Option (AV×Obj):=bif yq cs.length sz&&cd cs then FL (.ptr ct 0,.cells ycZ (aG cs) ycZ sz cs) else FM
def auP(sz:Nat)(x:X):cK tm hp ct (.box sz x)=lH ct sz (cellsOf (ay tm x)):=rfl
def axC(h:er v=ycZ):lH ct 1 [v]=FL (.ptr ct 0,.cells ycZ (aX v&&ycZ) ycZ 1 [v]):=by
 simp[lH,cd,aG,h]
def aQ(hn:cs.length=n)(h:cd cs=ycZ):lH ct n cs=FL (.ptr ct 0,.cells ycZ (aG cs) ycZ n cs):=by
 subst hn;simp[lH,h]
def fy(hp:Hp)(ct id o sz:Nat)(new:List AV)(q:Option Obj):gB:=
 match q with
 | some (.cells ycZ pu ex z cs)=>bif yq new.length sz&&yE (o+sz) cs.length&&cd new then FL (.aw [],aW hp id (.cells ycZ (pu&&aG new) ex z (over o new cs)),ct) else FM
 | _=>FM
def stV(hp:Hp)(ct sz:Nat)(p:AV)(new:List AV):gB:=match p with | .ptr id o=>fy hp ct id o sz new (ak hp id) | _=>FM
def aca(sz:Nat)(x v:X):cp tm hp ct (.st sz x v)=stV hp ct sz (ay tm x) (cellsOf (ay tm v)):=rfl
def afA(sz id o:Nat)(new:List AV):stV hp ct sz (.ptr id o) new=fy hp ct id o sz new (ak hp id):=rfl
def Lv{u:AV}{id z:Nat}(h:er v=ycZ):fy hp ct id 0 1 [v] (FL (.cells ycZ pu ex z [u]))=FL (.aw [],aW hp id (.cells ycZ (pu&&(aX v&&ycZ)) ex z [v]),ct):=by
 simp[fy,cd,aG,h,over];rfl
def A7{id z:Nat}(h1:new.length=sz)(h2:o+sz<=cs.length)(h:cd new=ycZ):
  fy hp ct id o sz new (FL (.cells ycZ pu ex z cs))=FL (.aw [],aW hp id (.cells ycZ (pu&&aG new) ex z (over o new cs)),ct):=by
 subst h1;simp[fy,h,yB h2]
def Pu(ct n sz:Nat)(q:Option (List AV)):Option (AV×Obj):=match q with | some cs=>bif yq cs.length (n*sz) then FL (.ax ct 0 n,.cells ycZ (aG cs) ycZ sz cs) else FM | none=>FM
def arj(n sz:Nat)(z:List AV)(ps:List (Nat×Nat×X)):cK tm hp ct (.jo n sz z ps)=Pu ct n sz (fill tm z ps):=by
 simp only[cK,Pu];cases fill tm z ps<;>rfl
def gF(h:cs.length=n*sz):Pu ct n sz (FL cs)=FL (.ax ct 0 n,.cells ycZ (aG cs) ycZ sz cs):=by
 simp[Pu,h]
def fS(tm:Env)(cs:List AV)(o sz:Nat)(new:List AV)(r:List (Nat×Nat×X)):Option (List AV):=
 bif yq new.length sz&&yE (o+sz) cs.length&&cd new then fill tm (over o new cs) r else FM
def aoY(cs:List AV):fill tm cs []=FL cs:=rfl
def Jl(cs:List AV)(o sz:Nat)(x:X)(r:List (Nat×Nat×X)):fill tm cs ((o,sz,x)::r)=fS tm cs o sz (cellsOf (ay tm x)) r:=rfl
def mE{r:List (Nat×Nat×X)}(h1:o+1<=cs.length)(h2:er v=ycZ):fS tm cs o 1 [v] r=fill tm (over o [v] cs) r:=by
 simp[fS,cd,h2,yB h1]
def qJ{r:List (Nat×Nat×X)}(h0:new.length=sz)(h1:o+sz<=cs.length)(h2:cd new=ycZ):fS tm cs o sz new r=fill tm (over o new cs) r:=by
 subst h0;simp[fS,h2,yB h1]
def axD(v u:AV)(r:List AV):over 0 [v] (u::r)=v::r:=rfl
def axE(v a u:AV)(r:List AV):over 1 [v] (a::u::r)=a::v::r:=rfl
def axF(v a b u:AV)(r:List AV):over 2 [v] (a::b::u::r)=a::b::v::r:=rfl
def axG(v a b c u:AV)(r:List AV):over 3 [v] (a::b::c::u::r)=a::b::c::v::r:=rfl
def axH(v a b c d u:AV)(r:List AV):over 4 [v] (a::b::c::d::u::r)=a::b::c::d::v::r:=rfl
def axI(v a b c d e u:AV)(r:List AV):over 5 [v] (a::b::c::d::e::u::r)=a::b::c::d::e::v::r:=rfl
def Bp(ct sz by':Nat)(zero:List AV)(l c:Option Nat):Option (AV×Obj):=
 match l,c with
 | some l,FL c=>bif yE l c&&(yE c room&&(yE (c*by') room&&(yq zero.length sz&&cd zero))) then FL (.ax ct 0 l,.cells ycZ (aG zero) (yq l c) sz (yF l zero).flatten) else FM
 | _,_=>FM
def auQ(sz by':Nat)(z:List AV)(l c:X):cK tm hp ct (.pK sz by' z l c)=Bp ct sz by' z (dH (ay tm l)) (dH (ay tm c)):=by
 simp only[cK,Bp]
 grind
def Kt{l:Nat}{z:List AV}(h1:l<=1099511627776)(h2:l*by'<=1099511627776)(h3:z.length=sz)(h4:cd z=ycZ):
  Bp ct sz by' z (FL l) (FL l)=FL (.ax ct 0 l,.cells ycZ (aG z) ycZ sz (yF l z).flatten):=by
 subst h3;simp[Bp,h4,yB (show l<=room from h1),yB (show l*by'<=room from h2),yB (yu l)]
def ES(hp:Hp)(ct sz by':Nat)(s:AV)(src:Option (Nat×List AV)):gB:=
 match src with
 | none=>FM
 | some (m,new)=>
  match s with
  | .ah=>
   bif yq m 0 then FL (.ah,hp,ct)
   else bif yE m room&&(yE (m*by') room&&yO 0 sz) then FL (.ax ct 0 m,(ct,.cells ycZ (aG new) yda sz new)::hp,ct+1) else FM
  | .au ycZ n cs=>
   bif yq m 0 then FL (.au ycZ n cs,hp,ct)
   else bif yE (n+m) room&&(yE ((n+m)*by') room&&(yq cs.length (n*sz)&&yO 0 sz)) then FL (.ax ct 0 (n+m),(ct,.cells ycZ (aG cs&&aG new) yda sz (cs++new))::hp,ct+1) else FM
  | .ax id o n=>
   match ak hp id with
   | some (.cells ycZ pu _ z cs)=>
    bif yq z sz&&(yE (n+m) room&&(yE ((n+m)*by') room&&(yE (o+n*sz) cs.length&&(yO 0 sz&&cd new)))) then
     FL (.ax ct 0 (n+m),(ct,.cells ycZ (pu&&aG new) yda sz (slice o (n*sz) cs++new))::cT hp id,ct+1)
    else FM
   | _=>FM
  | _=>FM
def amS(sz by':Nat)(s x:X):cp tm hp ct (.db sz by' s x)=ES hp ct sz by' (ay tm s) (jk hp sz (ay tm x)):=by
 simp only[cp,ES]
 cases jk hp sz (ay tm x) with
 | none=>rfl
 | some q=>have⟨m,new⟩:=q;cases ay tm s<;>rfl
def alz(sz id o n:Nat):jk hp sz (.ax id o n)=lX hp sz (.ax id o n):=rfl
def alA(sz:Nat)(e:Bool)(n:Nat)(cs:List AV):jk hp sz (.au e n cs)=lX hp sz (.au e n cs):=rfl
def akS(sz:Nat):jk hp sz .ah=FL (0,[]):=rfl
def atC(o n sz:Nat)(q:Option Obj):Option (Nat×List AV):=match q with | some (.cells _ _ _ _ cs)=>bif yE (o+n*sz) cs.length then FL (n,slice o (n*sz) cs) else FM | _=>FM
def akT(sz id o n:Nat):lX hp sz (.ax id o n)=atC o n sz (ak hp id):=rfl
def axJ(rw pu ex:Bool)(z:Nat)(v:AV):atC 0 1 1 (FL (.cells rw pu ex z [v]))=FL (1,[v]):=rfl
def gV{m:Nat}(hm:0<m)(h1:m<=1099511627776)(h2:m*by'<=1099511627776)(hs:0<sz):
  ES hp ct sz by' .ah (FL (m,new))=FL (.ax ct 0 m,(ct,.cells ycZ (aG new) yda sz new)::hp,ct+1):=by
 have e1:yq m 0=yda:=gW (by lia);have e2:yO 0 sz=ycZ:=yB hs;simp[ES,e1,e2,yB (show m<=room from h1),yB (show m*by'<=room from h2)]
def fP{id m:Nat}(hg:ak hp id=FL (.cells ycZ pu ex sz cs))(hl:cs.length=n*sz)(h1:n+m<=1099511627776)(h2:(n+m)*by'<=1099511627776)(hs:0<sz)(ho:cd new=ycZ):
  ES hp ct sz by' (.ax id 0 n) (FL (m,new))=FL (.ax ct 0 (n+m),(ct,.cells ycZ (pu&&aG new) yda sz (cs++new))::cT hp id,ct+1):=by
 have e2:yO 0 sz=ycZ:=yB hs;simp only[ES,hg];simp[e2,ho,yB (show n+m<=room from h1),yB (show (n+m)*by'<=room from h2),<-hl,slice,yB (yu cs.length)]
def agM(n:Nat)(g:Nat)(cap:List AV)(q:Option (List AV×Hp)):Option (AV×Hp):=match q with | some (first,hp)=>(match cE n hp cap with | some (PK,ja)=>FL (.fn (.f g) first PK,ja) | none=>FM) | none=>FM
def agN(g:Nat)(first:List AV)(q:Option (List AV×Hp)):Option (AV×Hp):=match q with | some (cap,hp)=>FL (.fn (.f g) first cap,hp) | none=>FM
def auR(n g:Nat)(first cap:List AV):freeze (n+1) hp (.fn (.f g) first cap)=agM n g cap (cE n hp first):=rfl
def auS(n g:Nat)(first cap:List AV):agM n g cap (FL (first,hp))=agN g first (cE n hp cap):=rfl
def auT(g:Nat)(first cap:List AV):agN g first (FL (cap,hp))=FL (.fn (.f g) first cap,hp):=rfl
def agO(o:Nat)(q:Option (Bool×Nat×List AV×Hp)):Option (AV×Hp):=match q with | some (_,_,cs,hp)=>FL (.bN (cs.drop o),hp) | none=>FM
def ark(n id o:Nat):freeze (n+1) hp (.ptr id o)=agO o (r7 n hp id):=rfl
def auU(o:Nat)(ex:Bool)(sz:Nat)(cs:List AV):agO o (FL (ex,sz,cs,hp))=FL (.bN (cs.drop o),hp):=rfl
def mQ(o k:Nat)(q:Option (Bool×Nat×List AV×Hp)):Option (AV×Hp):=
 match q with
 | some (ex,sz,cs,hp)=>bif yE (o+k*sz) cs.length then FL (.au (ex&&yO 0 sz&&yq (o+k*sz) cs.length) k (slice o (k*sz) cs),hp) else FM
 | none=>FM
def Ox(n id o k:Nat):freeze (n+1) hp (.ax id o k)=mQ o k (r7 n hp id):=rfl
def kR{k:Nat}(ex:Bool)(hl:cs.length=k*sz)(hs:0<sz):mQ 0 k (FL (ex,sz,cs,hp))=FL (.au ex k cs,hp):=by
 have e2:yO 0 sz=ycZ:=yB hs;simp[mQ,<-hl,e2,slice,yB (yu cs.length)]
def CW(n id:Nat)(hp:Hp)(q:Option Obj):Option (Bool×Nat×List AV×Hp):=
 match q with
 | some (.cells rw pu ex sz cs)=>
  bif pu then FL (ex,sz,cs,bif rw then aW hp id (.cells yda ycZ ex sz cs) else hp)
  else match cE n hp cs with
   | some (dB,an)=>FL (ex,sz,dB,aW an id (.cells yda yda ex sz cs))
   | none=>FM
 | _=>FM
def Oy(n id:Nat):r7 (n+1) hp id=CW n id hp (ak hp id):=rfl
def auV(n id:Nat)(ex:Bool)(sz:Nat)(cs:List AV):CW n id hp (FL (.cells ycZ ycZ ex sz cs))=FL (ex,sz,cs,aW hp id (.cells yda ycZ ex sz cs)):=rfl
def auW(n id:Nat)(ex:Bool)(sz:Nat)(cs:List AV):CW n id hp (FL (.cells yda ycZ ex sz cs))=FL (ex,sz,cs,hp):=rfl
def bY(n:Nat)(cs:List AV)(h:cE n hp cs=FL (cs,hp)):freeze (n+1) hp (.agg cs)=FL (.agg cs,hp):=by
 simp only[freeze,h]
def SH{id:Nat}(hg:ak hp id=FL (.cells ycZ ycZ ex sz cs))(hl:cs.length=n*sz)(hs:0<sz):result hp (.ax id 0 n)=FL (.c7 ex sz n cs):=by
 have e2:yO 0 sz=ycZ:=yB hs;simp only[result,qO,hg,yd,<-hl,yB (yu cs.length),yx,e2,uO,slice,ye,xN]
 simp
def akc(b:Bool):result hp (.aw [.ah,.bool b])=FL (.aw [.ah,.bool b]):=rfl
def akd(k:xc)(b:Int):result hp (.aw [.ah,.int k b])=FL (.aw [.ah,.int k b]):=rfl
def ake(e:Bool)(n:Nat)(cs:List AV)(k:xc)(b:Int):result hp (.aw [.au e n cs,.int k b])=FL (.aw [.au e n cs,.int k b]):=rfl
def amT(s:St):qS [] s=FL s:=rfl
def Yt(t:Nat)(r:List Nat)(tm:Env)(ct base:Nat)(q:Option (AV×Hp)):Option St:=match q with | some (v,hp)=>qS r ⟨(t,v)::tm,hp,ct,base⟩ | none=>FM
def alB(t:Nat)(r:List Nat)(tm:Env)(hp:Hp)(ct base:Nat):qS (t::r) ⟨tm,hp,ct,base⟩=Yt t r tm ct base (freeze deep hp (aj tm t)):=by
 simp only[qS,Yt];cases freeze deep hp (aj tm t)<;>rfl
def axK(t:Nat)(r:List Nat)(tm:Env)(ct base:Nat)(v:AV)(hp:Hp):Yt t r tm ct base (FL (v,hp))=qS r ⟨(t,v)::tm,hp,ct,base⟩:=rfl
end
attribute [go_sem] akc akd ake amL alw amM alx amN amO amP aoU amQ adp aoV are aoW arf arh ari auK aoX abh
 amR aly auL auM axB ay7 auN auO auP axC aca afA Lv arj aoY Jl axD axE axF axG axH axI auQ
 amS alz alA akS akT axJ auR auS auT ark auU Ox kR gF mE Oy auV auW amT alB axK
 Bool.and_false wU ye eq_self
end
def acb:∀hp:Hp,cQ 0 hp=[]
 | []=>rfl
 | (id,o)::r=>by
  have:yO id 0=yda:=rfl
  simp only[cQ,this,yR,acb r]
def ad6(f:Nat->Option Nat):∀hp:Hp,fQ 0 f hp=[]
 | []=>rfl
 | (id,o)::r=>by
  have:yO id 0=yda:=rfl
  simp only[fQ,this,yR,ad6 f r]
def pos(seen:List Nat):Nat->Option Nat:=fun id=>gZ id seen 0
def Wt(tm:Env)(hp:Hp)(seen:List Nat):St:=⟨dS (pos seen) tm,eE hp (pos seen) seen 0 [],seen.length,0⟩
def nP(hp:Hp):Nat->List Nat->List Nat->List Nat:=reach hp 0
def ap(live:List Nat)(tm:Env)(hp:Hp)(ct:Nat):bk live ⟨tm,hp,ct,0⟩=Wt (bm tm live) hp (nP hp 100000 (dR (bm tm live)) []):=by
 have e:∀seen,iD 0 seen=pos seen:=fun seen=>by
  funext id
  have:yO id 0=yda:=rfl
  simp only[iD,this,yR,pos]
 simp only[bk,acb,xT,e,ad6,Wt,nP,yd]
def amU:dR []=[]:=rfl
def aar(i:Nat)(v:AV)(r:Env):dR ((i,v)::r)=refs v++dR r:=rfl
def aoZ(k:xc)(n:Int):refs (.int k n)=[]:=rfl
def amV(b:Bool):refs (.bool b)=[]:=rfl
def ao0(s:List Nat):refs (.str s)=[]:=rfl
def amW:refs .ah=[]:=rfl
def ao1(e:Bool)(n:Nat)(cs:List AV):refs (.au e n cs)=[]:=rfl
def amX(cs:List AV):refs (.bN cs)=[]:=rfl
def alC:refs .undef=[]:=rfl
def ao2(id o:Nat):refs (.ptr id o)=[id]:=rfl
def ao3(id o n:Nat):refs (.ax id o n)=[id]:=rfl
def arl(g:Nat)(a b:List AV):refs (.fn (.f g) a b)=gh a++gh b:=rfl
def auX(l:Nat)(a b:List AV):refs (.fn (.y l) a b)=[l]:=rfl
def ao4(cs:List AV):refs (.agg cs)=gh cs:=rfl
def amY:gh []=[]:=rfl
def alD(v:AV)(r:List AV):gh (v::r)=refs v++gh r:=rfl
def Qz(hp:Hp)(n id:Nat)(cB seen:List Nat)(q:Option Obj):List Nat:=match q with | some o=>nP hp n (jI o++cB) (seen++[id]) | none=>nP hp n cB seen
def QA(hp:Hp)(n id:Nat)(cB seen:List Nat)(b:Bool):List Nat:=bif b then nP hp n cB seen else Qz hp n id cB seen (ak hp id)
def adq(hp:Hp)(n:Nat)(seen:List Nat):nP hp (n+1) [] seen=seen:=rfl
def TJ(hp:Hp)(n id:Nat)(cB seen:List Nat):nP hp (n+1) (id::cB) seen=QA hp n id cB seen (jq id seen):=by
 have:yO id 0=yda:=rfl
 simp only[nP,reach,this,vh,QA,Qz]
 cases jq id seen with
 | true=>rfl
 | false=>simp only[yR];cases ak hp id<;>rfl
def auY(hp:Hp)(n id:Nat)(cB seen:List Nat):QA hp n id cB seen ycZ=nP hp n cB seen:=rfl
def UM(hp:Hp)(n id:Nat)(cB seen:List Nat):QA hp n id cB seen yda=Qz hp n id cB seen (ak hp id):=rfl
def UN(hp:Hp)(n id:Nat)(cB seen:List Nat)(o:Obj):Qz hp n id cB seen (FL o)=nP hp n (jI o++cB) (seen++[id]):=rfl
def acd(i:Nat):jq i []=yda:=rfl
def ace(i:Nat)(r:List Nat):jq i (i::r)=ycZ:=by simp only[jq,wO,yx]
def abi{i j:Nat}(r:List Nat)(h:j≠i):jq i (j::r)=jq i r:=by simp only[jq,gW h,yR]
def arm(rw ex:Bool)(sz:Nat)(cs:List AV):jI (.cells rw ycZ ex sz cs)=[]:=rfl
def Ul(rw ex:Bool)(sz:Nat)(cs:List AV):jI (.cells rw yda ex sz cs)=gh cs:=rfl
def ao5(tm:Env)(ps:List Nat)(a b:VC)(st:Nat)(pe:zM):jI (.lp tm ps a b st pe)=dR tm:=rfl
def adr(i:Nat)(r:List Nat)(k:Nat):gZ i (i::r) k=FL k:=by simp only[gZ,wO,yx]
def acf{i j:Nat}(r:List Nat)(k:Nat)(h:j≠i):gZ i (j::r) k=gZ i r (k+1):=by simp only[gZ,gW h,yR]
def pos_eq(seen:List Nat)(i:Nat):pos seen i=gZ i seen 0:=rfl
def Pv(o:Nat)(q:Option Nat):AV:=match q with | some j=>.ptr j o | none=>.undef
def Pw(o n:Nat)(q:Option Nat):AV:=match q with | some j=>.ax j o n | none=>.undef
def ao6(s:List Nat):dS (pos s) []=[]:=rfl
def amZ(s:List Nat)(i:Nat)(v:AV)(r:Env):dS (pos s) ((i,v)::r)=(i,br (pos s) v)::dS (pos s) r:=rfl
def arn(s:List Nat)(k:xc)(n:Int):br (pos s) (.int k n)=.int k n:=rfl
def ao7(s:List Nat)(b:Bool):br (pos s) (.bool b)=.bool b:=rfl
def aro(s:List Nat)(t:List Nat):br (pos s) (.str t)=.str t:=rfl
def ao8(s:List Nat):br (pos s) .ah=.ah:=rfl
def arp(s:List Nat)(e:Bool)(n:Nat)(cs:List AV):br (pos s) (.au e n cs)=.au e n cs:=rfl
def ao9(s:List Nat)(cs:List AV):br (pos s) (.bN cs)=.bN cs:=rfl
def am0(s:List Nat):br (pos s) .undef=.undef:=rfl
def arq(s:List Nat)(id o:Nat):br (pos s) (.ptr id o)=Pv o (gZ id s 0):=rfl
def ars(s:List Nat)(id o n:Nat):br (pos s) (.ax id o n)=Pw o n (gZ id s 0):=rfl
def auZ(s:List Nat)(g:Nat)(a b:List AV):br (pos s) (.fn (.f g) a b)=.fn (.f g) (dI (pos s) a) (dI (pos s) b):=rfl
def art(s:List Nat)(cs:List AV):br (pos s) (.agg cs)=.agg (dI (pos s) cs):=rfl
def apa(s:List Nat):dI (pos s) []=[]:=rfl
def am1(s:List Nat)(v:AV)(r:List AV):dI (pos s) (v::r)=br (pos s) v::dI (pos s) r:=rfl
def aru(o j:Nat):Pv o (FL j)=.ptr j o:=rfl
def arv(o n j:Nat):Pw o n (FL j)=.ax j o n:=rfl
def Wu(hp:Hp)(f:Nat->Option Nat)(r:List Nat)(k:Nat)(acc:Hp)(q:Option Obj):Hp:=match q with | some o=>eE hp f r (k+1) ((k,gI f o)::acc) | none=>eE hp f r (k+1) acc
def am2(hp:Hp)(s:List Nat)(k:Nat)(acc:Hp):eE hp (pos s) [] k acc=acc:=rfl
def alE(hp:Hp)(s:List Nat)(id:Nat)(r:List Nat)(k:Nat)(acc:Hp):eE hp (pos s) (id::r) k acc=Wu hp (pos s) r k acc (ak hp id):=by
 simp only[eE,Wu];cases ak hp id<;>rfl
def au0(hp:Hp)(s r:List Nat)(k:Nat)(acc:Hp)(o:Obj):Wu hp (pos s) r k acc (FL o)=eE hp (pos s) r (k+1) ((k,gI (pos s) o)::acc):=rfl
def Ku(f:Nat->Option Nat)(rw ex:Bool)(sz:Nat)(cs:List AV):gI f (.cells rw ycZ ex sz cs)=.cells rw ycZ ex sz cs:=rfl
def ad7(f:Nat->Option Nat)(rw ex:Bool)(sz:Nat)(cs:List AV):gI f (.cells rw yda ex sz cs)=.cells rw yda ex sz (dI f cs):=rfl
def arw(f:Nat->Option Nat)(tm:Env)(ps:List Nat)(a b:VC)(st:Nat)(pe:zM):gI f (.lp tm ps a b st pe)=.lp (dS f tm) ps a b st pe:=rfl
def ads(tm:Env)(hp:Hp)(seen:List Nat):Wt tm hp seen=⟨dS (pos seen) tm,eE hp (pos seen) seen 0 [],seen.length,0⟩:=rfl
attribute [go_sem] amU aar aoZ amV ao0 amW ao1 amX alC ao2 ao3 arl auX ao4 amY alD adq TJ auY UM UN
 acd ace abi arm Ul ao5 adr acf ao6 amZ arn ao7 aro ao8 arp ao9 am0 arq ars auZ art apa am1 aru arv
 am2 alE au0 Ku ad7 arw ads yy yJ
def TK{α:Type}{p:α->Bool}{l:List α}{i:Nat}(h:i<l.length):(l.drop i).any p=(p l[i]||(l.drop (i+1)).any p):=by
 rw[yZ h,List.any_cons]
def QB(f:Nat->Int):Nat->Int
 | 0=>0
 | n+1=>QB f n+f n
def abj{k:xc}{n:Int}(h:0<=n):dH (.int k n)=FL n.toNat:=by
 cases n with
 | ofNat n=>rfl
 | negSucc n=>exact absurd h (by simp)
def aT(k id o:Nat):CC k (.ptr id o)=FL (.ptr id (o+k)):=rfl
def df{α:Type}(a:α)(l:List α):um 1 (a::l)=l:=rfl
def axL{α:Type}(a b:α)(l:List α):um 2 (a::b::l)=l:=rfl
def afB{α:Type}(a b c:α)(l:List α):um 3 (a::b::c::l)=l:=rfl
abbrev Nm(n:Int):AV:=.agg [aa n,.ah]
def zF(hp:Hp)(ct id:Nat)(a:Int)(x y:AV):fy hp ct id 0 2 [.int .i64 a,.ah] (FL (.cells ycZ ycZ ycZ 2 [x,y]))=FL (.aw [],aW hp id (.cells ycZ ycZ ycZ 2 [.int .i64 a,.ah]),ct):=rfl
def eD(b:Bool):Bo yda (FL b)=FL (.bool b):=by cases b<;>rfl
def ad8(f:cl)(tm:Env)(hp:Hp)(ct:Nat)(x y:X):aY P L f tm hp ct (.mn [x,y])=rd hp ct (min2 (ay tm x) (ay tm y)):=by
 simp only[aY,rd,bg,dG,CB]
 grind
def Eg(f:cl)(tm:Env)(hp:Hp)(ct:Nat)(x y:X):aY P L f tm hp ct (.mx [x,y])=rd hp ct (max2 (ay tm x) (ay tm y)):=by
 simp only[aY,rd,bg,dG,CB]
 grind
def acg(k k':xc)(x y:Int):min2 (.int k x) (.int k' y)=FL (.int k (if y<x then y else x)):=rfl
def Ju(k k':xc)(x y:Int):max2 (.int k x) (.int k' y)=FL (.int k (if y>x then y else x)):=rfl
def bX(n:Int):Int:=if n<0 then -1 else if n=0 then 0 else 1
def au1(n:Int):(if (if n<1 then n else 1)> -1 then (if n<1 then n else 1) else -1)=bX n:=by
 unfold bX
 grind
def n117(h:Has P L 117 PW)(n:Int):ab P L 117 [aa n] (Nm n):=by
 unfold ab;rw[aE h];simp only[go_sem,ya,yb,yk,PW,aQ,yd,zF];rfl
def qX(hp:Hp)(p q:Bool):jr .b (.bool p) (.bool q)=FL (p==q):=rfl
def kj{n:Nat}{sp:List AV->Option AV}(h:L.pure n=FL sp){f:cl}(aq:List AV):bL P L f n aq=sp aq:=by simp only[bL,h]
abbrev U64(n:Int):AV:=.int .u64 n
def axM{n:Int}(h1:0<=n)(h2:n<18446744073709551616):IntKind.wrap .u64 n=n:=by
 simp only[IntKind.wrap,IntKind.signed,IntKind.bits]
 grind
def ad9(n:Int):me (.toInt .u64) (aa n)=FL (U64 (IntKind.wrap .u64 n)):=rfl
def OZ(n:Int):me (.toInt .i64) (U64 n)=FL (aa (IntKind.wrap .i64 n)):=rfl
def Kv(b:Bool):Bo ycZ (FL b)=FL (.bool (!b)):=by cases b<;>rfl
def cr(a b:AV)(r:List AV):fT 2 ycZ (a::b::r)=FL (.agg [a,b]):=rfl
def gH(a b c d:AV)(r:List AV):fT 4 ycZ (a::b::c::d::r)=FL (.agg [a,b,c,d]):=rfl
def am3{a b:Int}(hb:0<b):(a.tmod b<0->a/b=a.tdiv b-1/\a%b=a.tmod b+b)/\(¬a.tmod b<0->a/b=a.tdiv b/\a%b=a.tmod b):=by
 have h1:=Int.mul_tdiv_add_tmod a b;have h2:a.tmod b<b:=Int.tmod_lt_of_pos a hb;have h3: -b<a.tmod b:=Int.lt_tmod_of_pos a hb;refine⟨fun h=>(yae hb).2 ⟨?_,?_,?_⟩,fun h=>(yae hb).2 ⟨?_,?_,?_⟩⟩
 .grind
 .lia
 .lia
 .lia
 .lia
 .lia
def apb(a b:Nat)(hb:b≠0):wJ b (a%b)=wJ a b:=by
 rw[tU b,<-ycI,tU]
def dz(a b:Int):Int:=a/(vv a b:Nat)
def dJ(a b:Int):Int:=b/(vv a b:Nat)
def Oz{a b:Int}(hb:0<b):(0:Int)<(vv a b:Nat):=by
 have:=Int.gcd_pos_of_ne_zero_right a (show b≠0 by lia)
 lia
def au2(a b:Int):a=(vv a b:Nat)*dz a b:=(yaY (yah a b)).symm
def au3(a b:Int):b=(vv a b:Nat)*dJ a b:=(yaY (yaa a b)).symm
def Jv{a b:Int}(hb:0<b):0<dJ a b:=by
 have h1:=Oz (a:=a) hb;have h2:=au3 a b;rcases Int.lt_trichotomy (dJ a b) 0 with h | h | h
 .have:=Int.mul_neg_of_pos_of_neg h1 h;lia
 .grind
 .exact h
def ach(a b:Int):(dz a b).natAbs<=a.natAbs:=by
 unfold dz;rw[tf (yah a b)];exact vI _ _
def aci(a b:Int):(dJ a b).natAbs<=b.natAbs:=by
 unfold dJ;rw[tf (yaa a b)];exact vI _ _
def ri(a b:Int):List Nat:=if dJ a b=1 then aV (dz a b) else aV (dz a b)++[47]++aV (dJ a b)
section
variable {s:List Nat}{n:Nat}
def afC{a b:Nat}(h:¬a<b):yO a b=yda:=by
 cases hb:yO a b with
 | false=>rfl
 | true=>exact absurd (yv hb) (by lia)
def Um:∀(f n:Nat) (acc:List Nat),n<f->nZ f n acc=nZ f n []++acc
 | 0,_,_,h=>by lia
 | f+1,n,acc,h=>by
  simp only[nZ];by_cases h1:n<10
  .rw [show yO n 10=ycZ from yB h1];rfl
  .rw [show yO n 10=yda from afC (by lia)];rw[Um f (n/10) _ (by lia),Um f (n/10) [48+n%10] (by lia)]
   simp
def S9{f:Nat}(h:n<10):nZ (f+1) n []=[48+n]:=by
 simp only[nZ];rw[show yO n 10=ycZ from yB h];rfl
def Un{f:Nat}(h:¬n<10)(hf:n<=f):nZ (f+1) n []=nZ f (n/10) []++[48+n%10]:=by
 rw[<-Um f (n/10) _ (by lia)];simp only[nZ];rw[show yO n 10=yda from afC (by lia)];rfl
def apc:∀(n f:Nat),n<f->nZ f n []=aC n:=by
 intro n
 induction n using vR with
 | _ n ih=>
  intro f hf;obtain⟨g,rfl⟩:∃g,f=g+1:=⟨f-1,by lia⟩;by_cases h:n<10
  .rw [S9 h];unfold aC;rw[S9 h]
  .rw [Un h (by lia),ih (n/10) (by lia) g (by lia)];unfold aC;rw[Un h (yu n),ih (n/10) (by lia) n (by lia)];rfl
def qt(h:n<10):aC n=[48+n]:=S9 h
def se(h:¬n<10):aC n=aC (n/10)++[48+n%10]:=by
 rw[show aC n=nZ (n+1) n [] from rfl,Un h (yu n),apc (n/10) n (by lia)]
def zt:∀{k n:Nat},n<10^(k+1)->(aC n).length<=k+1
 | 0,n,h=>by rw[qt (by simpa using h)];simp
 | k+1,n,h=>by
  by_cases h1:n<10
  .rw [qt h1];simp
  .rw [se h1,yN]
   have:n/10<10^(k+1):=by
    grind
   have:=zt this
   grind
def NE(h:n<18446744073709551616):(aC n).length<=20:=zt (k:=19) (by lia)
def mC(n:Nat):aV (n:Int)=aC n:=rfl
def nX{n:Int}(h:n<0):aV n=45::aC n.natAbs:=by
 cases n with
 | ofNat n=>exact absurd h (by simp)
 | negSucc n=>rfl
def bT:List Nat->Nat
 | []=>0
 | b::r=>if b=47 then 0 else bT r+1
def akU{i:Nat}(h:i<s.length):bT (s.drop i)=if s[i]=47 then 0 else bT (s.drop (i+1))+1:=by
 rw[yZ h];rfl
def Jm:∀s:List Nat,bT s<=s.length
 | []=>yu _
 | b::r=>by
  unfold bT
  have:=Jm r
  grind
def dj:List Nat->Bool
 | []=>ycZ
 | b::r=>yE 48 b&&yE b 57&&dj r
def Nn:∀(a b:List Nat),dj (a++b)=(dj a&&dj b)
 | [],b=>by simp[dj]
 | x::a,b=>by simp[dj,Nn a b,Bool.and_assoc]
def Jn(n:Nat):dj (aC n)=ycZ:=by
 induction n using vR with
 | _ n ih=>
  by_cases h:n<10
  .rw [qt h];simp[dj];lia
  .rw [se h,Nn,ih (n/10) (by lia)];simp[dj];lia
def No:∀{s:List Nat} (r:List Nat),dj s=ycZ->bT (s++r)=s.length+bT r
 | [],r,_=>by simp
 | b::s,r,h=>by
  simp only[dj,yf] at h;have h1:=yv h.1.1;simp only[ym,bT,yy];rw[yt (by lia),No r h.2]
  lia
def Np:∀(l:List Nat) (a d:Nat),d<10->cM (l++[48+d]) a=(cM l a).map (fun v=>10*v+d)
 | [],a,d,h=>by
  simp only[yG,cM];rw[show yE 48 (48+d)=ycZ from yB (by lia),show yE (48+d) 57=ycZ from yB (by lia)]
  simp
 | b::l,a,d,h=>by
  simp only[ym,cM]
  cases (yE 48 b&&yE b 57) with
  | true=>exact Np l _ d h
  | false=>rfl
def DP(n:Nat):cM (aC n) 0=FL n:=by
 induction n using vR with
 | _ n ih=>
  by_cases h:n<10
  .rw [qt h]
   have:=Np [] 0 n h
   simpa[cM] using this
  .rw [se h,Np _ _ _ (by lia),ih (n/10) (by lia)]
   simp;lia
def am4{i a v:Nat}(h:i<s.length)(hv:cM (s.drop i) a=FL v):48<=s[i]/\s[i]<=57/\cM (s.drop (i+1)) (10*a+(s[i]-48))=FL v:=by
 rw[yZ h] at hv;simp only[cM] at hv
 cases hb:(yE 48 s[i]&&yE s[i] 57) with
 | false=>rw[hb] at hv;cases hv
 | true=>
  simp_all
def jv:Nat->Nat->List Nat
 | 0,_=>[]
 | k+1,n=>jv k (n/10)++[48+n%10]
def TL:∀k n,(jv k n).length=k
 | 0,_=>rfl
 | k+1,n=>by simp[jv,TL k]
def N8:∀(k m r:Nat),0<m->r<10^k->aC (m*10^k+r)=aC m++jv k r
 | 0,m,r,_,h=>by simp at h;subst h;simp[jv]
 | k+1,m,r,hm,h=>by
  have h1:m*10^(k+1)+r=(m*10^k)*10+r:=by grind
  have hp:0<m*10^k:=vt hm (ybM (by decide));have e1:(m*10^(k+1)+r)/10=m*10^k+r/10:=by lia
  have e2:(m*10^(k+1)+r)%10=r%10:=by lia
  rw[se (by lia),e1,e2,N8 k m (r/10) hm (by rw[xh] at h;lia)]
  simp[jv]
def acj:∀(k r a:Nat),r<10^k->cM (jv k r) a=FL (a*10^k+r)
 | 0,r,a,h=>by simp at h;subst h;simp[jv,cM]
 | k+1,r,a,h=>by
  rw[jv,Np _ _ _ (xG _ (by decide)),acj k (r/10) a (by lia)];simp only[wM,yc,xh]
  grind
def ape{m:Nat}(h:1000000000<=m):aC m=aC (m/1000000000)++jv 9 (m%1000000000):=by
 have:=N8 9 (m/1000000000) (m%1000000000) (by lia) (by lia)
 grind
end
def iX(s:List Nat)(l h:Option Nat):Option AV:=
 match l,h with
 | some l,FL h=>bif yE l h&&yE h s.length then FL (.str ((s.take h).drop l)) else FM
 | _,_=>FM
def eP(hp:Hp)(s:List Nat)(tm:Env)(lo hi:Option X):fJ hp .str (.str s) tm lo hi=iX s (cV tm 0 lo) (cV tm s.length hi):=by
 unfold iX;simp only[fJ]
 grind
def fg(tm:Env)(d:Nat):cV tm d FM=FL d:=rfl
def dM(tm:Env)(d:Nat)(x:X):cV tm d (FL x)=dH (ay tm x):=rfl
def mF{s:List Nat}{l h:Nat}(h1:l<=h)(h2:h<=s.length):iX s (FL l) (FL h)=FL (.str ((s.take h).drop l)):=by
 simp[iX,yB h1,yB h2]
def gX{a b:List Nat}(h:a.length+b.length<=9223372036854775807):binOp .add (.str a) (.str b)=FL (.str (a++b)):=by
 show KA .add a b=_
 simp only[KA,yB h,yx]
def arx(k:xc)(n:Int):me (.toInt .i64) (.int k n)=FL (aa (IntKind.wrap .i64 n)):=rfl
def mG(a b:List Nat):binOp .eql (.str a) (.str b)=FL (.bool (cW a b)):=rfl
def sj{s:List Nat}{i:Nat}(h:i<s.length):oh i (.str s)=FL (.int .u8 (s[i]:Nat)):=by
 simp only[oh,xo h]
def aas{r:Nat}(h:r<10):iX [48,49,50,51,52,53,54,55,56,57] (FL r) (FL (r+1))=FL (.str [48+r]):=by
 have:r=0\/r=1\/r=2\/r=3\/r=4\/r=5\/r=6\/r=7\/r=8\/r=9:=by lia
 rcases this with rfl | rfl | rfl | rfl | rfl | rfl | rfl | rfl | rfl | rfl<;>rfl
def Wv(h:Has P L 292 Bm){n:Nat}(hn:n<9223372036854775808):ab P L 292 [aa n,aa 1] (.str (aC n)):=by
 have key:=iA P L [0,1,5] oX
  (fun k st=>∃(m:Nat) (s:List Nat),st=⟨[(0,aa m),(1,aa 1),(5,.str s)],[],0,0⟩/\m<=n/\m+(1-s.length)=k/\s.length<=20/\((s=[]/\m=n)\/(0<s.length/\(m=0->s=aC n)/\(0<m->aC n=aC m++s))))
  (fun ex st=>∃tm ct,st=⟨tm,[],ct,0⟩/\ex=.exit 0/\aj tm 5=.str (aC n)) ?_
 .unfold ab;rw[aE h];simp only[go_sem,Bm];generalize hq:D P L (.loop _ oX) _=q;obtain⟨ex,st,rfl,tm,ct,rfl,rfl,h2⟩:=bH hq (key (n+1)) ⟨n,[],by simp only[go_sem,ya,ap]<;>rfl,by lia,rfl,by simp,.inl ⟨rfl,rfl⟩⟩
  simp only[go_sem,ap,h2]
 .rintro k st ⟨m,s,rfl,hm,hk,hl,hs⟩;by_cases At:0<m\/s.length<1
  .left
   have hc:((decide ((0:Int)<m))=ycZ)\/((decide ((0:Int)<m))=yda/\((s.length:Nat):Int)<1):=by
    by_cases h0:0<m
    .exact .inl (y8 (by lia))
    .exact .inr ⟨yQ (by lia),by lia⟩
   have hr:((m:Int)).tmod 10=((m%10:Nat):Int):=by rw[xO (by lia)];rfl
   have hq:((m:Int)).tdiv 10=((m/10:Nat):Int):=by rw[xP (by lia)];rfl
   have hd:=aas (r:=m%10) (by lia);have fin:∃s' k',D P L oX ⟨[(0,aa m),(1,aa 1),(5,.str s)],[],0,0⟩=FL (.normal,s')/\k'<k/\bk [0,1,5] s'=⟨[(0,aa (m/10:Nat)),(1,aa 1),(5,.str ([48+m%10]++s))],[],0,0⟩/\m/10+(1-([48+m%10]++s).length)=k':=by
    rcases hc with hc | ⟨hc,Ao⟩
    .have hc:(0:Int)<m:=of_decide_eq_true hc
     simp only[go_sem,ya,yb,oX,hc,fC _ _ _ (show (10:Int)≠0 by decide),eK _ _ _ (show (10:Int)≠0 by decide),hr,hq,wrapN (n:=m%10+1) (by lia),wrap64 (n:=((m/10:Nat):Int)) (by lia) (by lia),eP,dM,show ((m%10:Nat):Int)+1=((m%10+1:Nat):Int) from rfl,hd,gX (a:=[48+m%10]) (b:=s) (by simp;lia)]
     refine⟨_,_,rfl,?_,by simp only[go_sem,ya,ap],rfl⟩
     simp;lia
    .have hc:¬(0:Int)<m:=of_decide_eq_false hc
     simp only[go_sem,ya,yb,oX,hc,Ao,fC _ _ _ (show (10:Int)≠0 by decide),eK _ _ _ (show (10:Int)≠0 by decide),hr,hq,wrapN (n:=m%10+1) (by lia),wrap64 (n:=((m/10:Nat):Int)) (by lia) (by lia),eP,dM,show ((m%10:Nat):Int)+1=((m%10+1:Nat):Int) from rfl,hd,gX (a:=[48+m%10]) (b:=s) (by simp;lia)]
     refine⟨_,_,rfl,?_,by simp only[go_sem,ya,ap],rfl⟩
     simp;lia
   have⟨s',k',f1,f2,f3,f4⟩:=fin;refine⟨s',k',f1,f2,m/10,[48+m%10]++s,f3,by lia,f4,?_,.inr ⟨by simp,fun h0=>?_,fun h0=>?_⟩⟩
   .have aEO:=NE (n:=n) (by lia);rcases hs with ⟨rfl,rfl⟩ | ⟨h1,h2,h3⟩
    .simp
    .by_cases h0:0<m
     .have e:=congrArg wb (h3 h0);have e2:0<(aC m).length:=by
       by_cases h9:m<10
       .rw [qt h9];simp
       .rw [se h9];simp
      simp only[yN] at e
      simp;lia
     .lia
   .have h9:m<10:=by lia
    rcases hs with ⟨rfl,rfl⟩ | ⟨h1,h2,h3⟩
    .rw [qt h9,yS h9];rfl
    .have:0<m:=by lia
     rw[h3 this,qt h9,yS h9]
   .have h9:¬m<10:=by lia
    rcases hs with ⟨rfl,rfl⟩ | ⟨h1,h2,h3⟩
    .rw [se h9];simp
    .rw [h3 (by lia),se h9];simp
  .right
   simp only[go_sem,ya,oX,show ¬(0:Int)<m by lia,show ¬((s.length:Nat):Int)<1 by lia];refine⟨_,_,rfl,by simp,_,_,rfl,rfl,?_⟩;simp only[go_sem,ya];rcases hs with ⟨rfl,rfl⟩ | ⟨h1,h2,h3⟩
   .simp at At
   .rw [h2 (by lia)]
def ay8(h:Has P L 291 Lg){a b:Nat}(ha:a<9223372036854775808)(hb:b<9223372036854775808):ab P L 291 [aa a,aa b] (aa (wJ a b)):=by
 have key:=iA P L [0,1] Kd
  (fun k st=>∃x y:Nat,st=⟨[(0,aa x),(1,aa y)],[],0,0⟩/\y=k/\wJ x y=wJ a b)
  (fun ex st=>∃tm ct,st=⟨tm,[],ct,0⟩/\ex=.exit 0/\aj tm 0=aa (wJ a b)) ?_
 .unfold ab;rw[aE h];simp only[go_sem,Lg];generalize hq:D P L (.loop _ Kd) _=q;obtain⟨ex,st,rfl,tm,ct,rfl,rfl,h2⟩:=bH hq (key b) ⟨a,b,by simp only[go_sem,ya,ap]<;>rfl,rfl,rfl⟩
  simp only[go_sem,ap,h2]
 .rintro k st ⟨x,y,rfl,rfl,hg⟩;by_cases hy:y=0
  .right
   subst hy;simp only[go_sem,ya,Kd,show ¬(0:Int)<((0:Nat):Int) by lia];refine⟨_,_,rfl,by simp,_,_,rfl,rfl,?_⟩;simp only[go_sem,ya];rw[<-hg,Nat.gcd_zero_right]
  .left
   have hr:((x:Int)).tmod y=((x%y:Nat):Int):=by rw[xO (by lia)];rfl
   simp only[go_sem,ya,Kd,show (0:Int)<y by lia,fC _ _ _ (show (y:Int)≠0 by lia),hr];refine⟨_,x%y,rfl,xG _ (by lia),y,x%y,by simp only[go_sem,ya,ap],rfl,?_⟩;rw[<-hg,tU y,<-ycI,tU]
def Hg(h:Has P L 272 Lc){s:List Nat}(hl:s.length<9223372036854775808):ab P L 272 [.str s] (aa (bT s)):=by
 have key:=iA P L [0,3] Gr
  (fun k st=>∃i:Nat,st=⟨[(0,.str s),(3,aa i)],[],0,0⟩/\i+k=s.length/\i+bT (s.drop i)=bT s)
  (fun ex st=>∃tm ct,st=⟨tm,[],ct,0⟩/\((ex=.ret/\aj tm 2=aa (bT s))\/(ex=.exit 0/\aj tm 0=.str s/\bT s=s.length))) ?_
 .unfold ab;rw[aE h];simp only[go_sem,Lc];generalize hq:D P L (.loop _ Gr) _=q;obtain⟨ex,st,rfl,tm,ct,rfl,h2⟩:=bH hq (key s.length) ⟨0,by simp only[go_sem,ya,ap]<;>rfl,by lia,by simp⟩
  rcases h2 with ⟨rfl,h2⟩ | ⟨rfl,h2,h3⟩
  .simp only [go_sem,h2]
  .simp only [go_sem,ap,h2,h3]
 .rintro k st ⟨i,rfl,hk,hs⟩;by_cases hi:i<s.length
  .rw [akU hi] at hs;by_cases h7:s[i]=47
   .right
    rw[yD h7] at hs;simp only[go_sem,ya,Gr,show (i:Int)<s.length by lia,sj hi,show ((s[i]:Nat):Int)=47 by lia];refine⟨_,_,rfl,by simp,_,_,rfl,.inl ⟨rfl,?_⟩⟩;simp only[go_sem];rw[<-hs];rfl
   .left
    rw[yt h7] at hs;simp only[go_sem,ya,Gr,show (i:Int)<s.length by lia,sj hi,show ¬((s[i]:Nat):Int)=47 by lia];refine⟨_,k-1,rfl,by lia,i+1,?_,by lia,by lia⟩;rw[wrap64 (by lia) (by lia)];simp only[go_sem,ya,ap]<;>rfl
  .right
   simp only[go_sem,ya,Gr,show ¬(i:Int)<s.length by lia];refine⟨_,_,rfl,by simp,_,_,rfl,.inr ⟨rfl,rfl,?_⟩⟩;rw[xa (by lia)] at hs;simp only[bT] at hs
   lia
def Lw(h:Has P L 290 Ha){s:List Nat}{v:Nat}(hl:s.length<=18)(hv:cM s 0=FL v):ab P L 290 [.str s] (aa v):=by
 have key:=iA P L [0,3,4] Kc
  (fun k st=>∃i a:Nat,st=⟨[(0,.str s),(3,aa a),(4,aa i)],[],0,0⟩/\i+k=s.length/\a<10^i/\cM (s.drop i) a=FL v)
  (fun ex st=>∃tm ct,st=⟨tm,[],ct,0⟩/\ex=.exit 0/\aj tm 3=aa v) ?_
 .unfold ab;rw[aE h];simp only[go_sem,Ha];generalize hq:D P L (.loop _ Kc) _=q;obtain⟨ex,st,rfl,tm,ct,rfl,rfl,h2⟩:=bH hq (key s.length) ⟨0,0,by simp only[go_sem,ya,ap]<;>rfl,by lia,by simp,hv⟩
  simp only[go_sem,ap,h2]
 .rintro k st ⟨i,a,rfl,hk,ha,hs⟩;by_cases hi:i<s.length
  .left
   have⟨h1,h2,h3⟩:=am4 hi hs;have hp:10^i<=10^17:=y9 (by decide) (by lia);have hb:IntKind.wrap .i64 ((s[i]:Nat):Int)=((s[i]:Nat):Int):=wrap64 (by lia) (by lia)
   simp only[go_sem,ya,Kc,show (i:Int)<s.length by lia,sj hi,arx,hb,wrap64 (n:=10*(a:Int)) (by lia) (by lia),wrap64 (n:=10*(a:Int)+(s[i]:Nat)) (by lia) (by lia),wrap64 (n:=10*(a:Int)+(s[i]:Nat)-48) (by lia) (by lia)];refine⟨_,k-1,rfl,by lia,i+1,10*a+(s[i]-48),?_,by lia,?_,h3⟩
   .rw [wrap64 (by lia) (by lia),show 10*(a:Int)+(s[i]:Nat)-48=((10*a+(s[i]-48):Nat):Int) by lia];simp only[go_sem,ya,ap]<;>rfl
   .rw [xh];lia
  .right
   simp only[go_sem,ya,Kc,show ¬(i:Int)<s.length by lia];refine⟨_,_,rfl,by simp,_,_,rfl,rfl,?_⟩;rw[xa (by lia)] at hs;simp only[cM,yc] at hs;subst hs;simp only[go_sem,ya]
def OA(a:Int):(if 0-a>a then 0-a else a)=(a.natAbs:Int):=by lia
def N9(a b:Int):a.tdiv (vv a b:Nat)=dz a b:=yaH (yah a b)
def Oa(a b:Int):b.tdiv (vv a b:Nat)=dJ a b:=yaH (yaa a b)
def oQ(n:Int):(if n<0 then [45] else [])++aC n.natAbs=aV n:=by
 split
 .rename_i h;rw[nX h];rfl
 .rename_i h;obtain⟨m,rfl⟩:∃m:Nat,n=m:=⟨n.toNat,by lia⟩;rfl
def apf{n:Int}(h:n.natAbs<18446744073709551616):(aV n).length<=21:=by
 rw[<-oQ]
 have:=NE h
 grind
def ary{a b:Int}(hb:0<b):ri a b=(if 1<dJ a b then (aV (dz a b)++[47])++aC (dJ a b).natAbs else aV (dz a b)):=by
 have h:=Jv (a:=a) hb;unfold ri;by_cases h1:dJ a b=1
 .grind
 .rw [yt h1,yD (by lia)];obtain⟨m,hm⟩:∃m:Nat,dJ a b=m:=⟨(dJ a b).toNat,by lia⟩;rw[hm];rfl
def ay9(h:Has P L 277 EM)(Ww:Has P L 291 Lg)(rk:Has P L 292 Bm){a b:Int}(ha: -4000000000000000000<=a/\a<=4000000000000000000)(hb:0<b/\b<=4000000000000000000):
  ab P L 277 [aa a,aa b] (.str (ri a b)):=by
 have hn:=ach a b;have hd:=aci a b;have hp:=Jv (a:=a) hb.1;have e1:=ay8 Ww (a:=a.natAbs) (b:=b.natAbs) (by lia) (by lia);have e2:=Wv rk (n:=(dz a b).natAbs) (by lia);have e3:=Wv rk (n:=(dJ a b).natAbs) (by lia);have hg:=Oz (a:=a) hb.1;rw[show ((b.natAbs:Nat):Int)=b by lia,show wJ a.natAbs b.natAbs=vv a b from rfl] at e1;rw[show (((dJ a b).natAbs:Nat):Int)=dJ a b by lia] at e3;have pO:=apf (n:=dz a b) (by lia);have sM:=NE (n:=(dz a b).natAbs) (by lia);have hl3:=NE (n:=(dJ a b).natAbs) (by lia);have hT:=ary (a:=a) hb.1;have hS:=oQ (dz a b);unfold ab at e1 e2 e3 ⊢;rw[aE h];by_cases h0:dz a b<0
 .rw [yD h0] at hS;by_cases h1:1<dJ a b
  .rw [yD h1] at hT
   simp only[go_sem,ya,EM,show ¬a< -4000000000000000000 by lia,show ¬4000000000000000000<a by lia,show ¬b< -4000000000000000000 by lia,show ¬4000000000000000000<b by lia,show ¬b<0 by lia,wrap64 (n:=0-a) (by lia) (by lia),Eg,Ju,OA,e1,eK _ _ _ (show ((vv a b:Nat):Int)≠0 by lia),N9,Oa,wrap64 (n:=dz a b) (by lia) (by lia),wrap64 (n:=dJ a b) (by lia) (by lia),h0,wrap64 (n:=0-dz a b) (by lia) (by lia),e2,gX (a:=[45]) (b:=aC (dz a b).natAbs) (by simp;lia),hS,h1,gX (a:=aV (dz a b)) (b:=[47]) (by simp;lia),e3,gX (a:=aV (dz a b)++[47]) (b:=aC (dJ a b).natAbs) (by simp;lia),hT]
  .rw [yt h1] at hT
   simp only[go_sem,ya,EM,show ¬a< -4000000000000000000 by lia,show ¬4000000000000000000<a by lia,show ¬b< -4000000000000000000 by lia,show ¬4000000000000000000<b by lia,show ¬b<0 by lia,wrap64 (n:=0-a) (by lia) (by lia),Eg,Ju,OA,e1,eK _ _ _ (show ((vv a b:Nat):Int)≠0 by lia),N9,Oa,wrap64 (n:=dz a b) (by lia) (by lia),wrap64 (n:=dJ a b) (by lia) (by lia),h0,wrap64 (n:=0-dz a b) (by lia) (by lia),e2,gX (a:=[45]) (b:=aC (dz a b).natAbs) (by simp;lia),hS,h1,hT]
 .rw [yt h0] at hS;by_cases h1:1<dJ a b
  .rw [yD h1] at hT
   simp only[go_sem,ya,EM,show ¬a< -4000000000000000000 by lia,show ¬4000000000000000000<a by lia,show ¬b< -4000000000000000000 by lia,show ¬4000000000000000000<b by lia,show ¬b<0 by lia,wrap64 (n:=0-a) (by lia) (by lia),Eg,Ju,OA,e1,eK _ _ _ (show ((vv a b:Nat):Int)≠0 by lia),N9,Oa,wrap64 (n:=dz a b) (by lia) (by lia),wrap64 (n:=dJ a b) (by lia) (by lia),h0,wrap64 (n:=0-dz a b) (by lia) (by lia),e2,gX (a:=[]) (b:=aC (dz a b).natAbs) (by simp;lia),hS,h1,gX (a:=aV (dz a b)) (b:=[47]) (by simp;lia),e3,gX (a:=aV (dz a b)++[47]) (b:=aC (dJ a b).natAbs) (by simp;lia),hT]
  .rw [yt h1] at hT
   simp only[go_sem,ya,EM,show ¬a< -4000000000000000000 by lia,show ¬4000000000000000000<a by lia,show ¬b< -4000000000000000000 by lia,show ¬4000000000000000000<b by lia,show ¬b<0 by lia,wrap64 (n:=0-a) (by lia) (by lia),Eg,Ju,OA,e1,eK _ _ _ (show ((vv a b:Nat):Int)≠0 by lia),N9,Oa,wrap64 (n:=dz a b) (by lia) (by lia),wrap64 (n:=dJ a b) (by lia) (by lia),h0,wrap64 (n:=0-dz a b) (by lia) (by lia),e2,gX (a:=[]) (b:=aC (dz a b).natAbs) (by simp;lia),hS,h1,hT]
def TT(n:Int)(d:Nat):List Nat:=aV n++(if d=1 then [] else 47::aC d)
def arz{a b:Int}(hb:0<b):ri a b=TT (dz a b) (dJ a b).toNat:=by
 have h:=Jv (a:=a) hb;unfold ri TT;by_cases h1:dJ a b=1
 .grind
 .rw [yt h1,yt (by lia)];obtain⟨m,hm⟩:∃m:Nat,dJ a b=m:=⟨(dJ a b).toNat,by lia⟩;rw[hm,xy];rfl
def AQ(n:Nat):0<(aC n).length:=by
 by_cases h:n<10
 .rw [qt h];simp
 .rw [se h];simp
def JH:∀(n:Nat),n<10^(aC n).length:=by
 intro n
 induction n using vR with
 | _ n ih=>
  by_cases h:n<10
  .rw [qt h];simpa using h
  .have:=ih (n/10) (by lia)
   rw[se h,yN,tD,xh]
   lia
def ack{n:Nat}(h:(aC n).length<=9):n<1000000000:=
 yP (JH n) (by simpa using y9 (show 0<10 by decide) h)
def FV(n:Nat):∃b r,aC n=b::r/\48<=b/\b<=57:=by
 cases hq:aC n with
 | nil=>have:=AQ n;rw[hq] at this;simp at this
 | cons b r=>
  have:=Jn n
  rw[hq] at this;simp only[dj,yf] at this
  simp_all
def ET(s:List Nat):oh 0 (.str (45::s))=FL (.int .u8 45):=rfl
def UO(q:Bool)(n:Int)(d:Nat):AV:=if q=ycZ then .aw [aa n,aa d,.bool ycZ] else .aw [aa 0,aa 0,.bool yda]
def A8(d:Nat):List Nat:=if d=1 then [] else 47::aC d
def alF(d:Nat):bT (A8 d)=0:=by unfold A8;split<;>rfl
def aza(h:Has P L 276 q9)(CX:Has P L 272 Lc)(Bq:Has P L 290 Ha){n:Int}{d:Nat}(hl:(TT n d).length<=20000000000):
  ∃q:Bool,ab P L 276 [.str (TT n d)] (UO q n d)/\(q=ycZ->n.natAbs<1000000000/\d<1000000000):=by
 generalize hs:TT n d=s at hl;by_cases oF:20<s.length
 .refine ⟨yda,?_,fun h=>by cases h⟩;unfold ab;rw[aE h];simp only[go_sem,ya,q9,show (20:Int)<s.length by lia];rfl
 .have hu:∃u,u=aC n.natAbs++A8 d:=⟨_,rfl⟩;have⟨u,hu⟩:=hu;have hK:∃K,K=(aC n.natAbs).length:=⟨_,rfl⟩;have⟨K,hK⟩:=hK;have HG:bT u=K:=by rw[hu,No _ (Jn _),alF,hK];rfl
  have hlen:u.length=K+(A8 d).length:=by rw[hu,hK,yN]
  have hp:=AQ n.natAbs;have⟨b,r,hb,jf,oG⟩:=FV n.natAbs;have Au:(n<0/\s=45::u)\/(¬n<0/\s=u):=by
   by_cases h0:n<0
   .left;refine⟨h0,?_⟩;rw[<-hs,hu,TT,nX h0];rfl
   .right;refine⟨h0,?_⟩;rw[<-hs,hu,TT,<-oQ,yt h0];rfl
  have hul:u.length<=s.length:=by rcases Au with ⟨_,e⟩ | ⟨_,e⟩<;>rw[e]<;>simp
  have Dp:0<u.length:=by lia
  have za:u[0]=b:=by
   have:u=b::(r++A8 d):=by rw[hu,hb];rfl
   simp[this]
  have e1:=Hg CX (s:=u) (by lia);rw[HG] at e1;have eC:iX u (FL 0) (FL K)=FL (.str (aC n.natAbs)):=by
   rw[mF (by lia) (by lia),ye,hu,hK,List.take_left]
  unfold ab at e1;by_cases h9:9<K
  .refine ⟨yda,?_,fun h=>by cases h⟩;unfold ab;rw[aE h];rcases Au with ⟨h0,e⟩ | ⟨h0,e⟩
   .have oF:¬20<u.length+1:=by rw[e] at oF;exact oF
    have mq:iX (45::u) (FL 1) (FL (u.length+1))=FL (.str u):=by rw[mF (s:=45::u) (l:=1) (h:=u.length+1) (by lia) (by simp)];simp
    rw[e];simp only[go_sem,ya,q9,show ¬(20:Int)<((u.length+1:Nat):Int) by lia,show (0:Int)<((u.length+1:Nat):Int) by lia,ET,eP,fg,dM,mq,e1,show (9:Int)<(K:Int) by lia];rfl
   .rw [e];simp only[go_sem,ya,q9,show ¬(20:Int)<(u.length:Nat) by lia,show (0:Int)<(u.length:Nat) by lia,sj Dp,za,show ¬((b:Nat):Int)=45 by lia,e1,show (9:Int)<(K:Int) by lia];rfl
  .by_cases iM:10<(A8 d).length
   .refine ⟨yda,?_,fun h=>by cases h⟩;unfold ab;rw[aE h];rcases Au with ⟨h0,e⟩ | ⟨h0,e⟩
    .have oF:¬20<u.length+1:=by rw[e] at oF;exact oF
     have mq:iX (45::u) (FL 1) (FL (u.length+1))=FL (.str u):=by rw[mF (s:=45::u) (l:=1) (h:=u.length+1) (by lia) (by simp)];simp
     rw[e]
     simp only[go_sem,ya,q9,show ¬(20:Int)<((u.length+1:Nat):Int) by lia,show (0:Int)<((u.length+1:Nat):Int) by lia,ET,eP,fg,dM,mq,e1,show ¬(9:Int)<(K:Int) by lia,wrap64 (n:=(u.length:Int)-(K:Int)) (by lia) (by lia),show (10:Int)<(u.length:Int)-(K:Int) by lia];rfl
    .rw [e]
     simp only[go_sem,ya,q9,show ¬(20:Int)<(u.length:Nat) by lia,show (0:Int)<(u.length:Nat) by lia,sj Dp,za,show ¬((b:Nat):Int)=45 by lia,e1,show ¬(9:Int)<(K:Int) by lia,wrap64 (n:=(u.length:Int)-(K:Int)) (by lia) (by lia),show (10:Int)<(u.length:Int)-(K:Int) by lia];rfl
   .have e2:=Lw Bq (s:=aC n.natAbs) (by lia) (DP n.natAbs);unfold ab at e2;have hm:=ack (n:=n.natAbs) (by lia);by_cases hd:d=1
    .subst hd;have jU:A8 1=[]:=rfl;refine⟨ycZ,?_,fun _=>⟨hm,by decide⟩⟩;rw[jU] at hlen;simp only[yJ,y5] at hlen;unfold ab;rw[aE h];rcases Au with ⟨h0,e⟩ | ⟨h0,e⟩
     .have oF:¬20<u.length+1:=by rw[e] at oF;exact oF
      have mq:iX (45::u) (FL 1) (FL (u.length+1))=FL (.str u):=by rw[mF (s:=45::u) (l:=1) (h:=u.length+1) (by lia) (by simp)];simp
      rw[e]
      simp only[go_sem,ya,q9,show ¬(20:Int)<((u.length+1:Nat):Int) by lia,show (0:Int)<((u.length+1:Nat):Int) by lia,ET,eP,fg,dM,mq,e1,show ¬(9:Int)<(K:Int) by lia,wrap64 (n:=(u.length:Int)-(K:Int)) (by lia) (by lia),show ¬(10:Int)<(u.length:Int)-(K:Int) by lia,eC,e2,show ¬(K:Int)<(u.length:Int) by lia,wrap64 (n:=0-(n.natAbs:Int)) (by lia) (by lia)];rw[show 0-(n.natAbs:Int)=n by lia];rfl
     .rw [e]
      simp only[go_sem,ya,q9,show ¬(20:Int)<(u.length:Nat) by lia,show (0:Int)<(u.length:Nat) by lia,sj Dp,za,show ¬((b:Nat):Int)=45 by lia,eP,fg,dM,e1,show ¬(9:Int)<(K:Int) by lia,wrap64 (n:=(u.length:Int)-(K:Int)) (by lia) (by lia),show ¬(10:Int)<(u.length:Int)-(K:Int) by lia,eC,e2,show ¬(K:Int)<(u.length:Int) by lia];rw[show (n.natAbs:Int)=n by lia];rfl
    .have jU:A8 d=47::aC d:=yt hd;have HN:(A8 d).length=(aC d).length+1:=by rw[jU];rfl
     have hpd:=AQ d;have hd9:=ack (n:=d) (by lia);have e3:=Lw Bq (s:=aC d) (by lia) (DP d);unfold ab at e3;have Ao:iX u (FL (K+1)) (FL u.length)=FL (.str (aC d)):=by
      rw[mF (by lia) (yu _),xN,hu,jU,hK,show (aC n.natAbs).length+1=(aC n.natAbs++[47]).length by simp,show aC n.natAbs++47::aC d=(aC n.natAbs++[47])++aC d by simp,List.drop_left]
     refine⟨ycZ,?_,fun _=>⟨hm,hd9⟩⟩;unfold ab;rw[aE h];rcases Au with ⟨h0,e⟩ | ⟨h0,e⟩
     .have oF:¬20<u.length+1:=by rw[e] at oF;exact oF
      have mq:iX (45::u) (FL 1) (FL (u.length+1))=FL (.str u):=by rw[mF (s:=45::u) (l:=1) (h:=u.length+1) (by lia) (by simp)];simp
      rw[e]
      simp only[go_sem,ya,q9,show ¬(20:Int)<((u.length+1:Nat):Int) by lia,show (0:Int)<((u.length+1:Nat):Int) by lia,ET,eP,fg,dM,mq,e1,show ¬(9:Int)<(K:Int) by lia,wrap64 (n:=(u.length:Int)-(K:Int)) (by lia) (by lia),show ¬(10:Int)<(u.length:Int)-(K:Int) by lia,eC,e2,show (K:Int)<(u.length:Int) by lia,wrapN (n:=K+1) (by lia),show (K:Int)+1=((K+1:Nat):Int) from rfl,Ao,e3,wrap64 (n:=0-(n.natAbs:Int)) (by lia) (by lia)];rw[show 0-(n.natAbs:Int)=n by lia];rfl
     .rw [e]
      simp only[go_sem,ya,q9,show ¬(20:Int)<(u.length:Nat) by lia,show (0:Int)<(u.length:Nat) by lia,sj Dp,za,show ¬((b:Nat):Int)=45 by lia,eP,fg,dM,e1,show ¬(9:Int)<(K:Int) by lia,wrap64 (n:=(u.length:Int)-(K:Int)) (by lia) (by lia),show ¬(10:Int)<(u.length:Int)-(K:Int) by lia,eC,e2,show (K:Int)<(u.length:Int) by lia,wrapN (n:=K+1) (by lia),show (K:Int)+1=((K+1:Nat):Int) from rfl,Ao,e3];rw[show (n.natAbs:Int)=n by lia];rfl
def Wx(h:Has P L 302 zS){v:AV}{l:List Int}(hv:bi v l)(i:Nat):ab P L 302 [v,aa i] (aa (l.getD i 0)):=by
 unfold ab;rw[aE h];by_cases hi:i<l.length
 .simp only [go_sem,ya,zS,hv.len,show (i:Int)<l.length by lia,hv.bq hi];simp[xd,xo hi]
 .simp only [go_sem,ya,zS,hv.len,show ¬(i:Int)<l.length by lia];simp[xd,List.getElem?_eq_none (Nat.le_of_not_lt hi)]
def adt{hp:Hp}{e:Bool}{n:Nat}{cs:List AV}{tm:Env}{h:Nat}{x:X}(hx:cV tm n (FL x)=FL h)(hh:h<=n):
  fJ hp (.sl 1) (.au e n cs) tm FM (FL x)=FL (.au (e&&yq h n) h (cs.take h)):=by
 simp only[fJ,hx,fg];simp[yB hh,slice];rw[show yE 0 h=ycZ from yB (tq _)];rfl
def CY(h:Has P L 300 mP){v:AV}{l:List Int}(hv:bi v l)(hl:l.length<=20000000000):∃r,ab P L 300 [v] r/\bi r (dY l)/\shut r=r:=by
 rcases hv with ⟨rfl,h0⟩ | ⟨e,rfl⟩
 .have:l=[]:=by simpa using h0
  subst this;refine⟨.ah,?_,zq,rfl⟩;unfold ab;rw[aE h];simp only[go_sem,ya,mP,OY,Eb,ap,show ¬(0:Int)<0 by decide]
 .have key:=iA P L [0] Eb
   (fun k st=>∃(i:Nat) (e:Bool),st=⟨[(0,.au e i ((l.take i).map aa))],[],0,0⟩/\i<=l.length/\i=k/\dY (l.take i)=dY l)
   (fun ex st=>∃tm ct,st=⟨tm,[],ct,0⟩/\ex=.exit 0/\∃i e,aj tm 0=.au e i ((l.take i).map aa)/\i<=l.length/\l.take i=dY l) ?_
  .have hlen:(l.map aa).length=l.length:=by simp
   rw[hlen];have jQ:∃i e',ab P L 300 [.au e l.length (l.map aa)] (.au e' i ((l.take i).map aa))/\i<=l.length/\l.take i=dY l:=by
    unfold ab;rw[aE h];simp only[go_sem,mP];generalize hq:D P L (.loop _ Eb) _=q;obtain⟨ex,st,rfl,tm,ct,rfl,rfl,i,e',h2,h3,h4⟩:=bH hq (key l.length) ⟨l.length,e,by simp only[go_sem,ya,ap,xN],yu _,rfl,by rw[xN]⟩;simp only[go_sem,ap,h2];exact⟨i,e',rfl,h3,h4⟩
   have⟨i,e',g1,g2,g3⟩:=jQ;refine⟨_,g1,?_,rfl⟩;rw[<-g3]
   have:=kz e' (l.take i)
   rwa[yT,xF g2] at this
  .rintro k st ⟨i,e,rfl,hi,rfl,ht⟩
   cases i with
   | zero=>
    right
    simp only[go_sem,ya,Eb,show ¬(0:Int)<((0:Nat):Int) by lia];exact⟨_,_,rfl,by simp,_,_,rfl,rfl,0,e,rfl,tq _,by simpa[dY] using ht⟩
   | succ i=>
    have MJ:i<l.length:=by lia
    have eZ:l.take (i+1)=l.take i++[l[i]]:=xK MJ;have jW:um i ((l.take (i+1)).map aa)=[AV.int .i64 l[i]]:=by
     rw[eZ,xb,tv (by simp;lia)];rfl
    have pW:jm 1 i (.au e (i+1) ((l.take (i+1)).map aa))=FL (.bN [AV.int .i64 l[i]]):=by
     rw[Uk e _ (by lia),yi,jW]
    by_cases h0:l[i]=0
    .left
     have mR:∀tm x,cV tm (i+1) (FL x)=FL i->fJ [] (.sl 1) (.au e (i+1) ((l.take (i+1)).map aa)) tm FM (FL x)=FL (.au (e&&yq i (i+1)) i ((l.take i).map aa)):=fun tm x hx=>by
      rw[adt hx (by lia),<-yau,List.take_take,xF (by lia)]
     simp only[go_sem,ya,Eb,show (0:Int)<((i+1:Nat):Int) by lia,show ((i+1:Nat):Int)-1=(i:Int) by lia,wrapN (n:=i) (by lia),pW,h0,mR,dM];refine⟨_,i,rfl,by lia,i,_,by simp only[go_sem,ap]<;>rfl,by lia,rfl,?_⟩
     rw[<-ht,eZ,h0,Jc]
    .right
     simp only[go_sem,ya,Eb,show (0:Int)<((i+1:Nat):Int) by lia,show ((i+1:Nat):Int)-1=(i:Int) by lia,wrapN (n:=i) (by lia),pW,h0];refine⟨_,_,rfl,by simp,_,_,rfl,rfl,i+1,e,rfl,by lia,?_⟩;rw[<-ht,eZ,NC h0]
section
variable {hp:Hp}{l:List Nat}{n x y:Nat}
def zT:(2^64)^(n+1)=(2^64)^n*2^64:=xh ..
open Go (IntKind)
abbrev uc(n:Nat):AV:=.int .u64 (n:Int)
def bP(v:AV)(l:List Nat):Prop:=cz v (l.map uc)
section
variable {v:AV}{l:List Nat}
def bP.len(h:bP v l):kB hp 1 v=FL (.int .i64 (l.length:Nat)):=by
 have:=cz.len (hp:=hp) h
 grind
def bP.pu(h:bP v l):aX v=ycZ:=cz.pu h
def bP.ai(h:bP v l)(n:Nat):freeze (n+1) hp v=FL (v,hp):=cz.ai h n
def bP.shut(h:bP v l):VE.shut v=v:=cz.shut h
def bP.cg(h:bP v l):VE.cg v=v:=cz.cg h
def bP.eA(h:bP v l):result hp v=FL v:=cz.eA h
def bP.one(h:bP v l):er v=ycZ:=cz.one h
def bP.bq(h:bP v l){i:Nat}(hi:i<l.length):jm 1 i v=FL (.bN (uc (l.getD i 0)::(l.map uc).drop (i+1))):=by
 have:=cz.bq h (i:=i) (by simpa using hi)
 grind
def n7(e:Bool)(l:List Nat):bP (.au e l.length (l.map uc)) l:=by
 have:=Ga e (l.map uc)
 rwa[yU] at this
def zu:bP .ah []:=zq
end
def lS{ct id o:Nat}{v:Nat}{ex:Bool}(h:o<l.length):fy hp ct id o 1 [.int .u64 (v:Int)] (FL (.cells ycZ ycZ ex 1 (l.map uc)))=FL (.aw [],aW hp id (.cells ycZ ycZ ex 1 ((l.set o v).map uc)),ct):=by
 rw[A7 (by rfl) (by simp;lia) (by rfl)]
 have:over o [uc v] (l.map uc)=(l.set o v).map uc:=by
  simp only[over,yy,yJ,yd];rw[List.map_set,uv,yD (by simpa using h)]
  simp
 rw[this];rfl
def A9{o:Nat}(h:o<l.length):um o (l.map uc)=uc (l.getD o 0)::um (o+1) (l.map uc):=by
 rw[yZ (by simpa using h)]
 grind
def arA(n:Nat):(yF n [AV.int .u64 0]).flatten=(yF n 0).map uc:=by simp_all
def EU(ct:Nat)(h:n<=100000000000):Bp ct 1 8 [.int .u64 0] (FL n) (FL n)=FL (.ax ct 0 n,.cells ycZ ycZ ycZ 1 ((yF n 0).map uc)):=by
 rw[Kt (sz:=1) (by lia) (by lia) (by rfl) (by rfl),arA];rfl
def CZ(hp:Hp)(h:l.length=n)(ex:Bool):mQ 0 n (FL (ex,1,l.map uc,hp))=FL (.au ex n (l.map uc),hp):=kR ex (by simp[h]) (by decide)
def afD(h:n<2^64):IntKind.wrap .u64 (n:Int)=n:=axM (by lia) (by lia)
section
variable {P:aF}{L:Lib}{f:cl}
def ma{a b:Nat}(h:a<b):yO a b=ycZ:=by simp_all
def Eh(h:L.pure 171=FL oW){c:Nat}(hx:x<2^64)(hy:y<2^64)(hc:c<=1):
  bL P L f 171 [uc x,uc y,uc c]=FL (.aw [uc ((x+y+c)%2^64),uc ((x+y+c)/2^64)]):=by
 rw[kj h];show (bif yE c 1&&(yO x (2^64)&&yO y (2^64)) then _ else FM)=_
 rw[yB hc,ma hx,ma hy];rfl
def UP(h:L.pure 173=FL Cp){c:Nat}(hx:x<2^64)(hy:y<2^64)(hc:c<=1):
  bL P L f 173 [uc x,uc y,uc c]=FL (.aw [uc ((x+2^64*2-y-c)%2^64),uc (if y+c<=x then 0 else 1)]):=by
 rw[kj h];show (bif yE c 1&&(yO x (2^64)&&yO y (2^64)) then _ else FM)=_
 rw[yB hc,ma hx,ma hy];by_cases hh:y+c<=x
 .rw [yB hh,yD hh];rfl
 .have:yE (y+c) x=yda:=by
   cases hq:yE (y+c) x with
   | false=>rfl
   | true=>exact absurd (yv hq) hh
  grind
def O0(h:L.pure 143=FL zC)(hx:x<2^64)(hy:y<2^64):
  bL P L f 143 [uc x,uc y]=FL (.aw [uc (x*y/2^64),uc (x*y%2^64)]):=by
 rw[kj h];show (bif yO x (2^64)&&yO y (2^64) then _ else FM)=_
 rw[ma hx,ma hy];rfl
def apg{tm:Env}{x:X}(hx:cV tm 0 (FL x)=FL 0):fJ hp (.sl 1) .ah tm FM (FL x)=FL .ah:=by
 simp only[fJ,hx,fg]
def C0(h:Has P L 166 CR){v:AV}(hv:bP v l)(hl:l.length<=100000000000):∃r,ab P L 166 [v] r/\bP r (dZ l):=by
 rcases hv with ⟨rfl,h0⟩ | ⟨e,rfl⟩
 .have:l=[]:=by simpa using h0
  subst this;refine⟨.ah,?_,zq⟩;unfold ab;rw[aE h];simp only[go_sem,ya,CR,OY,D8,ap,show ¬(0:Int)<0 by decide,apg,dM]
 .have key:=iA P L [0,3] D8
   (fun k st=>∃(i:Nat),st=⟨[(0,.au e l.length (l.map uc)),(3,aa i)],[],0,0⟩/\i<=l.length/\i=k/\dZ (l.take i)=dZ l)
   (fun ex st=>∃tm ct,st=⟨tm,[],ct,0⟩/\ex=.exit 0/\∃i:Nat,aj tm 0=.au e l.length (l.map uc)/\aj tm 3=aa i/\i<=l.length/\l.take i=dZ l) ?_
  .have hlen:(l.map uc).length=l.length:=by simp
   rw[hlen];have jQ:∃i e',ab P L 166 [.au e l.length (l.map uc)] (.au e' i ((l.take i).map uc))/\i<=l.length/\l.take i=dZ l:=by
    unfold ab;rw[aE h];simp only[go_sem,ya,CR];generalize hq:D P L (.loop _ D8) _=q;obtain⟨ex,st,rfl,tm,ct,rfl,rfl,i,h2,h3,h4,h5⟩:=bH hq (key l.length) ⟨l.length,by simp only[go_sem,ya,ap],yu _,rfl,by rw[xN]⟩;have mR:∀tm x,cV tm l.length (FL x)=FL i->fJ [] (.sl 1) (.au e l.length (l.map uc)) tm FM (FL x)=FL (.au (e&&yq i l.length) i ((l.map uc).take i)):=fun tm x hx=>adt hx h4
    simp only[go_sem,ya,ap,h2,h3,mR,dM];exact⟨i,_,by rw[yau],h4,h5⟩
   have⟨i,e',g1,g2,g3⟩:=jQ;refine⟨_,g1,?_⟩;rw[<-g3]
   have:=n7 e' (l.take i)
   rwa[yT,xF g2] at this
  .rintro k st ⟨i,rfl,hi,rfl,ht⟩
   cases i with
   | zero=>
    right
    simp only[go_sem,ya,D8,show ¬(0:Int)<((0:Nat):Int) by lia];exact⟨_,_,rfl,by simp,_,_,rfl,rfl,0,rfl,rfl,tq _,by simpa[dZ] using ht⟩
   | succ i=>
    have MJ:i<l.length:=by lia
    have eZ:l.take (i+1)=l.take i++[l[i]]:=xK MJ;have pW:=(n7 e l).bq MJ;rw[<-gd MJ] at pW;by_cases h0:l[i]=0
    .left
     simp only[go_sem,ya,D8,show (0:Int)<((i+1:Nat):Int) by lia,show ((i+1:Nat):Int)-1=(i:Int) by lia,wrapN (n:=i) (by lia),pW,show ((l[i]:Nat):Int)=0 by lia];refine⟨_,i,rfl,by lia,i,by simp only[go_sem,ya,ap],by lia,rfl,?_⟩;rw[<-ht,eZ,h0,ND]
    .right
     simp only[go_sem,ya,D8,show (0:Int)<((i+1:Nat):Int) by lia,show ((i+1:Nat):Int)-1=(i:Int) by lia,wrapN (n:=i) (by lia),pW,show ¬((l[i]:Nat):Int)=0 by lia];refine⟨_,_,rfl,by simp,_,_,rfl,rfl,i+1,rfl,rfl,by lia,?_⟩;rw[<-ht,eZ,FQ h0]
end
end
section
variable {v w:AV}{out x y:List Nat}
def NF(p b s:Nat):p*(s%b)+p*b*(s/b)=p*s:=by
 rw[xe,<-xE,uk]
def am5{b:Nat}{i c:Nat}(hi:i<out.length)(hz:out.getD i 0=0)(hv:bv b out+b^i*c=bv b (x.take i)+bv b (y.take i)):
  bv b (out.set i ((x.getD i 0+y.getD i 0+c)%b))+b^(i+1)*((x.getD i 0+y.getD i 0+c)/b)=bv b (x.take (i+1))+bv b (y.take (i+1)):=by
 have h1:=oY (b:=b) (x:=(x.getD i 0+y.getD i 0+c)%b) hi;have h2:=NF (b^i) b (x.getD i 0+y.getD i 0+c);rw[hz,xC,y5] at h1;rw[kv,kv,xh,h1]
 grind
def am6{b:Nat}{i c z c':Nat}(hi:i<out.length)(hz:out.getD i 0=0)(hs:z+y.getD i 0+c=x.getD i 0+b*c')(hv:bv b out+bv b (y.take i)=bv b (x.take i)+b^i*c):
  bv b (out.set i z)+bv b (y.take (i+1))=bv b (x.take (i+1))+b^(i+1)*c':=by
 have h1:=oY (b:=b) (x:=z) hi;rw[hz,xC,y5] at h1;rw[kv,kv,xh,h1]
 grind
def agP(h:Has P L 158 G7)(hv:bP v x)(hw:bP w y)(hx:lo (2^64) x)(hy:lo (2^64) y)(nx:ig x)(ny:ig y)(lx:x.length<=100000000000)(ly:y.length<=100000000000):
  ab P L 158 [v,w] (aa (dU (bv (2^64) x) (bv (2^64) y))):=by
 unfold ab;rw[aE h];by_cases hlen:x.length=y.length
 .have key:=iA P L [0,1,5] D7
   (fun k st=>∃j:Nat,st=⟨[(0,v),(1,w),(5,aa ((j:Int)-1))],[],0,0⟩/\j<=x.length/\j=k/\x.drop j=y.drop j)
   (fun ex st=>∃tm ct,st=⟨tm,[],ct,0⟩/\((ex=.ret/\aj tm 4=aa (dU (bv (2^64) x) (bv (2^64) y)))\/(ex=.exit 0/\x=y))) ?_
  .simp only [go_sem,ya,G7,hv.len,hw.len,show (x.length:Int)=y.length by lia];generalize hq:D P L (.loop _ D7) _=q;obtain⟨ex,st,rfl,tm,ct,rfl,h2⟩:=bH hq (key x.length) ⟨x.length,by
    rw[wrap64 (by lia) (by lia),hlen]
    simp only[go_sem,ya,ap,az hv.pu,az hw.pu]<;>rfl,yu _,rfl,by rw[xa (yu _),xa (by lia)]⟩
   rcases h2 with ⟨rfl,h2⟩ | ⟨rfl,h2⟩
   .simp only [go_sem,h2]
   .simp only [go_sem,ap];subst h2;simp[dU]
  .rintro k st ⟨j,rfl,hj,rfl,he⟩
   cases j with
   | zero=>
    right
    simp only[go_sem,ya,D7,show ¬(0:Int)<=((0:Nat):Int)-1 by lia];exact⟨_,_,rfl,by simp,_,_,rfl,.inr ⟨rfl,by simpa using he⟩⟩
   | succ i=>
    have h1:i<x.length:=by lia
    have h2:i<y.length:=by lia
    have Di:=adk hx h1 h2 he;have aH:=adk hy h2 h1 he.symm;by_cases c0:x.getD i 0=y.getD i 0
    .left
     simp only[go_sem,ya,D7,show ((i+1:Nat):Int)-1=(i:Int) by lia,show (0:Int)<=(i:Int) by lia,hv.bq h1,hw.bq h2,c0];refine⟨_,i,rfl,by lia,i,?_,by lia,rfl,?_⟩
     .rw [wrap64 (by lia) (by lia)];simp only[go_sem,ya,ap,az hv.pu,az hw.pu]<;>rfl
     .rw [yZ h1,yZ h2,he,gd h1,gd h2,c0]
    .by_cases c1:x.getD i 0<y.getD i 0
     .right
      simp only[go_sem,ya,D7,show ((i+1:Nat):Int)-1=(i:Int) by lia,show (0:Int)<=(i:Int) by lia,hv.bq h1,hw.bq h2,show ¬((x.getD i 0:Nat):Int)=(y.getD i 0:Nat) by lia,show ((x.getD i 0:Nat):Int)<(y.getD i 0:Nat) by lia];refine⟨_,_,rfl,by simp,_,_,rfl,.inl ⟨rfl,?_⟩⟩;simp only[go_sem];unfold dU;rw[yD (Di c1)]
     .right
      simp only[go_sem,ya,D7,show ((i+1:Nat):Int)-1=(i:Int) by lia,show (0:Int)<=(i:Int) by lia,hv.bq h1,hw.bq h2,show ¬((x.getD i 0:Nat):Int)=(y.getD i 0:Nat) by lia,show ¬((x.getD i 0:Nat):Int)<(y.getD i 0:Nat) by lia];refine⟨_,_,rfl,by simp,_,_,rfl,.inl ⟨rfl,?_⟩⟩;simp only[go_sem];unfold dU;rw[yt (by lia),yD (by lia)]
 .by_cases c1:x.length<y.length
  .have:=Ov (b:=2^64) (by decide) hx ny c1
   simp only[go_sem,ya,G7,hv.len,hw.len,show ¬(x.length:Int)=y.length by lia,show (x.length:Int)<y.length by lia];unfold dU;rw[yD this]
  .have:=Ov (b:=2^64) (by decide) hy nx (show y.length<x.length by lia)
   simp only[go_sem,ya,G7,hv.len,hw.len,show ¬(x.length:Int)=y.length by lia,show ¬(x.length:Int)<y.length by lia];unfold dU;rw[yt (by lia),yD this]
def aea(ia:L.pure 171=FL oW)(hv:bP v x)(hw:bP w y)(hx:lo (2^64) x)(hy:lo (2^64) y)(lx:x.length<=99999999999)(ly:y.length<=x.length){n:Nat}(hn:n=x.length+1):
  cZ P L [0,1,5,6,21,22] D6 (fun k s=>∃(i c:Nat) (out:List Nat),s=⟨[(0,v),(1,w),(5,.ax 0 0 n),(6,uc c),(21,aa x.length),(22,aa i)],[(0,.cells ycZ ycZ ycZ 1 (out.map uc))],1,0⟩/\i+k=x.length/\out.length=n/\c<=1/\lo (2^64) out/\
    bv (2^64) out+(2^64)^i*c=bv (2^64) (x.take i)+bv (2^64) (y.take i)/\(∀m,i<=m->out.getD m 0=0)) (fun ex s'=>∃tm c out,s'=⟨tm,[(0,.cells ycZ ycZ ycZ 1 (out.map uc))],1,0⟩/\ex=.exit 0/\aj tm 0=v/\aj tm 5=.ax 0 0 n/\aj tm 6=uc c/\out.length=n/\c<=1/\lo (2^64) out/\
    bv (2^64) out+(2^64)^x.length*c=bv (2^64) x+bv (2^64) y/\out.getD x.length 0=0):=by
 apply c6;rintro k s ⟨i,c,out,rfl,hk,hlen,hc,bc,aO,eU⟩;by_cases hi:i<x.length
 .left
  have hz:=eU i (yu _);have mb:=am5 (x:=x) (y:=y) (show i<out.length by lia) hz aO;have gx:=iz (show 0<2^64 by decide) hx i;have gy:=iz (show 0<2^64 by decide) hy i;have e1:=Eh (P:=P) (f:=D P L) ia gx gy hc;have ex:=hv.bq hi;generalize x.getD i 0=p at*
  by_cases hj:i<y.length
  .have ey:=hw.bq hj;generalize y.getD i 0=q at*
   simp only[go_sem,ya,yi,D6,hw.len,show (i:Int)<x.length by lia,show (i:Int)<y.length by lia,ex,ey,e1,di 0 0 (show i<n by lia),yd,lS (l:=out) (o:=i) (by lia)]
   refine⟨_,k-1,rfl,by lia,i+1,(p+q+c)/2^64,_,?_,by lia,by simp[hlen],by lia,nt bc (x:=(p+q+c)%2^64) (i:=i) (by lia),mb,fun m hm=>?_⟩
   .rw [wrap64 (by lia) (by lia)];simp only[go_sem,ya,yb,ap,az hv.pu,az hw.pu]<;>rfl
   .rw [qH (by lia)];exact eU m (by lia)
  .have fV:y.getD i 0=0:=UK (by lia);rw[fV] at mb e1;rw[show (uc 0)=AV.int .u64 0 from rfl] at e1
   simp only[go_sem,ya,yi,D6,hw.len,show (i:Int)<x.length by lia,show ¬(i:Int)<y.length by lia,ex,e1,di 0 0 (show i<n by lia),yd,lS (l:=out) (o:=i) (by lia)]
   refine⟨_,k-1,rfl,by lia,i+1,(p+0+c)/2^64,_,?_,by lia,by simp[hlen],by lia,nt bc (x:=(p+0+c)%2^64) (i:=i) (by lia),mb,fun m hm=>?_⟩
   .rw [wrap64 (by lia) (by lia)];simp only[go_sem,ya,yb,ap,az hv.pu,az hw.pu]<;>rfl
   .rw [qH (by lia)];exact eU m (by lia)
 .right
  have:i=x.length:=by lia
  subst this;rw[xN,yK ly] at aO;simp only[go_sem,ya,D6,show ¬(x.length:Int)<x.length by lia];exact⟨_,_,rfl,by simp,_,c,out,rfl,rfl,rfl,rfl,rfl,hlen,hc,bc,aO,eU _ (yu _)⟩
def azb(h:Has P L 157 K2)(nH:Has P L 166 CR)(ia:L.pure 171=FL oW)(hv:bP v x)(hw:bP w y)(hx:lo (2^64) x)(hy:lo (2^64) y)(lx:x.length<=99999999999)(ly:y.length<=99999999999):
  ∃r out,ab P L 157 [v,w] r/\bP r out/\lo (2^64) out/\ig out/\bv (2^64) out=bv (2^64) x+bv (2^64) y:=by
 have fin:∀{x y o:List Nat} {n c:Nat},n=x.length+1->x.length<=99999999999->o.length=n->c<=1->lo (2^64) o->bv (2^64) o+(2^64)^x.length*c=bv (2^64) x+bv (2^64) y->o.getD x.length 0=0->
   ∃r,bL P L (D P L) 166 [.au ycZ n ((o.set x.length c).map uc)]=FL r/\bP r (dZ (o.set x.length c))/\lo (2^64) (dZ (o.set x.length c))/\ig (dZ (o.set x.length c))/\bv (2^64) (dZ (o.set x.length c))=bv (2^64) x+bv (2^64) y:=by
  intro x y o n c hn lx hlen hc bc aO hz;have aW:=oY (b:=2^64) (l:=o) (i:=x.length) (x:=c) (by lia);rw[hz,xC,y5,aO] at aW;have azc:lo (2^64) (o.set x.length c):=nt bc (by lia);have hf:=n7 ycZ (o.set x.length c);rw[List.length_set,hlen] at hf;have⟨r,e1,hr⟩:=C0 nH hf (by simp;lia)
  exact⟨r,e1,hr,Ch azc,Cg _,by rw[Cf];exact aW⟩
 by_cases hl:x.length<y.length
 .obtain ⟨n,hn⟩:∃n,n=y.length+1:=⟨_,rfl⟩;unfold ab;rw[aE h]
  simp only[go_sem,ya,yb,K2,hv.len,hw.len,show (x.length:Int)<y.length by lia,wrapN (n:=n) (by lia),show (y.length:Int)+1=((y.length+1:Nat):Int) from rfl,<-hn,EU (n:=n) _ (by lia)];generalize hq:D P L (.loop _ D6) _=q;obtain⟨ex,s,rfl,tm,c,o,rfl,rfl,t0,t5,t6,hlen,hc,bc,aO,hz⟩:=bH hq (aea (P:=P) (L:=L) ia hw hv hy hx ly (by lia) hn y.length)
   ⟨0,0,yF n 0,by simp only[go_sem,ya,yb,ap,az hv.pu,az hw.pu]<;>rfl,by lia,by simp,by lia,GD (by decide) n,by rw[GF];simp[bv],fun m _=>DW n m⟩
  have⟨r,e1,hr,f1,f2,f3⟩:=fin hn ly hlen hc bc aO hz;refine⟨r,_,?_,hr,f1,f2,by rw[f3];lia⟩
  simp only[go_sem,ya,yi,ap,az hw.pu,hw.len,t0,t5,t6,di 0 0 (show y.length<n by lia),yd,lS (l:=o) (o:=y.length) (by lia)]
  simp only[go_sem,CZ _ (n:=n) (l:=o.set y.length c) (by simp[hlen]) ycZ,e1,hr.shut,hr.eA]
 .obtain ⟨n,hn⟩:∃n,n=x.length+1:=⟨_,rfl⟩;unfold ab;rw[aE h]
  simp only[go_sem,ya,yb,K2,hv.len,hw.len,show ¬(x.length:Int)<y.length by lia,wrapN (n:=n) (by lia),show (x.length:Int)+1=((x.length+1:Nat):Int) from rfl,<-hn,EU (n:=n) _ (by lia)];generalize hq:D P L (.loop _ D6) _=q;obtain⟨ex,s,rfl,tm,c,o,rfl,rfl,t0,t5,t6,hlen,hc,bc,aO,hz⟩:=bH hq (aea (P:=P) (L:=L) ia hv hw hx hy lx (by lia) hn x.length)
   ⟨0,0,yF n 0,by simp only[go_sem,ya,yb,ap,az hv.pu,az hw.pu]<;>rfl,by lia,by simp,by lia,GD (by decide) n,by rw[GF];simp[bv],fun m _=>DW n m⟩
  have⟨r,e1,hr,f1,f2,f3⟩:=fin hn lx hlen hc bc aO hz;refine⟨r,_,?_,hr,f1,f2,f3⟩
  simp only[go_sem,ya,yi,ap,az hv.pu,hv.len,t0,t5,t6,di 0 0 (show x.length<n by lia),yd,lS (l:=o) (o:=x.length) (by lia)]
  simp only[go_sem,CZ _ (n:=n) (l:=o.set x.length c) (by simp[hlen]) ycZ,e1,hr.shut,hr.eA]
end
section
variable {v w:AV}{x y:List Nat}{c n:Nat}
def am7{b:Nat}{out:List Nat}{p j t o x y Y bo ba:Nat}(ho:o=out.getD j 0)(hj:j<out.length)(ht:t=o+x*y+c)(hv:bo+p*c=ba+p*(x*Y))(hb:bo=bv b out)(hp:p=b^j):
  bv b (out.set j (t%b))+p*b*(t/b)=ba+p*(x*(Y+0))+p*(x*y):=by
 have h1:=oY (b:=b) (x:=t%b) hj;have h2:=NF p b t
 grind
def TN{x y:Nat}(hx:x<2^64)(hy:y<2^64)(hc:c<=1):
  (x+2^64*2-y-c)%2^64+y+c=x+2^64*(if y+c<=x then 0 else 1):=by grind
def au4(zU:L.pure 173=FL Cp)(hv:bP v x)(hw:bP w y)(hx:lo (2^64) x)(hy:lo (2^64) y)(lx:x.length<=99999999999)(ly:y.length<=x.length)(hle:bv (2^64) y<=bv (2^64) x)(hn:n=x.length):
  cZ P L [0,1,5,6,13,14] Gn (fun k s=>∃(i c:Nat) (out:List Nat),s=⟨[(0,v),(1,w),(5,.ax 0 0 n),(6,uc c),(13,aa x.length),(14,aa i)],[(0,.cells ycZ ycZ ycZ 1 (out.map uc))],1,0⟩/\i+k=x.length/\out.length=n/\c<=1/\lo (2^64) out/\
    bv (2^64) out+bv (2^64) (y.take i)=bv (2^64) (x.take i)+(2^64)^i*c/\(∀m,i<=m->out.getD m 0=0)) (fun ex s'=>∃tm out,s'=⟨tm,[(0,.cells ycZ ycZ ycZ 1 (out.map uc))],1,0⟩/\ex=.exit 0/\aj tm 5=.ax 0 0 n/\out.length=n/\lo (2^64) out/\
    bv (2^64) out+bv (2^64) y=bv (2^64) x):=by
 apply c6;rintro k s ⟨i,c,out,rfl,hk,hlen,hc,bc,aO,eU⟩;by_cases hi:i<x.length
 .left
  have hz:=eU i (yu _);have gx:=iz (show 0<2^64 by decide) hx i;have gy:=iz (show 0<2^64 by decide) hy i;have Av:=TN gx gy hc;have mb:=am6 (x:=x) (y:=y) (show i<out.length by lia) hz Av aO;have e1:=UP (P:=P) (f:=D P L) zU gx gy hc;have ex:=hv.bq hi;generalize x.getD i 0=p at*
  have kH:(if y.getD i 0+c<=p then 0 else 1)<=1:=by split<;>lia
  by_cases hj:i<y.length
  .have ey:=hw.bq hj;generalize y.getD i 0=q at*
   generalize (if q+c<=p then 0 else 1)=c1 at*
   simp only[go_sem,ya,xq,yi,Gn,hw.len,show (i:Int)<x.length by lia,show (i:Int)<y.length by lia,ex,ey,e1,di 0 0 (show i<n by lia),yd,lS (l:=out) (o:=i) (by lia)]
   refine⟨_,k-1,rfl,by lia,i+1,c1,_,?_,by lia,by simp[hlen],kH,nt bc (x:=(p+2^64*2-q-c)%2^64) (i:=i) (by lia),mb,fun m hm=>?_⟩
   .rw [wrap64 (by lia) (by lia)];simp only[go_sem,ya,yb,xq,ap,az hv.pu,az hw.pu]<;>rfl
   .rw [qH (by lia)];exact eU m (by lia)
  .have fV:y.getD i 0=0:=UK (by lia);rw[fV] at mb e1 kH;rw[show (uc 0)=AV.int .u64 0 from rfl] at e1;generalize (if 0+c<=p then 0 else 1)=c1 at*
   simp only[go_sem,ya,xq,yi,Gn,hw.len,show (i:Int)<x.length by lia,show ¬(i:Int)<y.length by lia,ex,e1,di 0 0 (show i<n by lia),yd,lS (l:=out) (o:=i) (by lia)]
   refine⟨_,k-1,rfl,by lia,i+1,c1,_,?_,by lia,by simp[hlen],kH,nt bc (x:=(p+2^64*2-0-c)%2^64) (i:=i) (by lia),mb,fun m hm=>?_⟩
   .rw [wrap64 (by lia) (by lia)];simp only[go_sem,ya,yb,xq,ap,az hv.pu,az hw.pu]<;>rfl
   .rw [qH (by lia)];exact eU m (by lia)
 .right
  have:i=x.length:=by lia
  subst this;rw[xN,yK ly] at aO;have aH:=nB bc;rw[hlen,hn] at aH;simp only[go_sem,ya,Gn,show ¬(x.length:Int)<x.length by lia];refine⟨_,_,rfl,by simp,_,out,rfl,rfl,rfl,hlen,bc,?_⟩;rcases (show c=0\/c=1 by lia) with rfl | rfl
  .lia
  .lia
def agQ(h:Has P L 159 P1)(nH:Has P L 166 CR)(zU:L.pure 173=FL Cp)(hv:bP v x)(hw:bP w y)(hx:lo (2^64) x)(hy:lo (2^64) y)(ny:ig y)(lx:x.length<=99999999999)(hle:bv (2^64) y<=bv (2^64) x):
  ∃r out,ab P L 159 [v,w] r/\bP r out/\lo (2^64) out/\ig out/\bv (2^64) out+bv (2^64) y=bv (2^64) x:=by
 have ly:y.length<=x.length:=by
  by_cases hh:x.length<y.length
  .have:=Ov (b:=2^64) (by decide) hx ny hh
   lia
  .lia
 obtain⟨n,hn⟩:∃n,n=x.length:=⟨_,rfl⟩;unfold ab;rw[aE h]
 simp only[go_sem,ya,yb,P1,hv.len,<-hn,EU (n:=n) _ (by lia)];generalize hq:D P L (.loop _ Gn) _=q;obtain⟨ex,s,rfl,tm,o,rfl,rfl,t5,hlen,bc,aO⟩:=bH hq (au4 (P:=P) (L:=L) zU hv hw hx hy lx ly hle hn x.length)
  ⟨0,0,yF n 0,by rw[hn];simp only[go_sem,ya,yb,ap,az hv.pu,az hw.pu]<;>rfl,by lia,by simp,by lia,GD (by decide) n,by rw[GF];simp[bv],fun m _=>DW n m⟩
 have hf:=n7 ycZ o;rw[hlen] at hf;have⟨r,e1,hr⟩:=C0 nH hf (by lia);refine⟨r,_,?_,hr,Ch bc,Cg _,by rw[Cf];exact aO⟩
 simp only[go_sem,yb,ap,t5,CZ _ (n:=n) (l:=o) hlen ycZ,e1,hr.shut,hr.eA]
def aph{x y o:Nat}(hx:x<2^64)(hy:y<2^64)(ho:o<2^64)(hc:c<2^64):
  o+x*y+c<2^64*2^64/\
  ((x*y%2^64+o+0)%2^64+c+0)%2^64=(o+x*y+c)%2^64/\
  x*y/2^64+(x*y%2^64+o+0)/2^64+((x*y%2^64+o+0)%2^64+c+0)/2^64=(o+x*y+c)/2^64:=by
 have h1:=xf (show x<=18446744073709551615 by lia) (show y<=18446744073709551615 by lia)
 grind
def au5(nI:L.pure 143=FL zC)(ia:L.pure 171=FL oW)(hv:bP v x)(hw:bP w y)(hx:lo (2^64) x)(hy:lo (2^64) y)(lx:x.length<=49999999999)(ly:y.length<=49999999999){i:Nat}(hn:n=x.length+y.length)(hi:i<x.length){a:Nat}(ha:a<2^64){bo:Nat}:
  cZ P L [1,5,6,7,8,20,21,22,27,28,29] JY (fun k s=>∃(j c:Nat) (out:List Nat),s=⟨[(1,w),(5,.ax 0 0 n),(6,aa i),(7,uc a),(8,uc c),(20,v),(21,aa x.length),(22,aa i),(27,w),(28,aa y.length),(29,aa j)],[(0,.cells ycZ ycZ ycZ 1 (out.map uc))],1,0⟩/\j+k=y.length/\out.length=n/\c<2^64/\lo (2^64) out/\
    bv (2^64) out+(2^64)^(i+j)*c=bo+(2^64)^i*(a*bv (2^64) (y.take j))/\(∀m,i+y.length<=m->out.getD m 0=0)) (fun ex s'=>∃tm c out,s'=⟨tm,[(0,.cells ycZ ycZ ycZ 1 (out.map uc))],1,0⟩/\ex=.exit 2/\aj tm 1=w/\aj tm 5=.ax 0 0 n/\aj tm 6=aa i/\aj tm 8=uc c/\aj tm 20=v/\aj tm 21=aa x.length/\aj tm 22=aa i/\out.length=n/\c<2^64/\lo (2^64) out/\
    bv (2^64) out+(2^64)^(i+y.length)*c=bo+(2^64)^i*(a*bv (2^64) y)/\(∀m,i+y.length<=m->out.getD m 0=0)):=by
 apply c6;rintro k s ⟨j,c,out,rfl,hk,hlen,hc,bc,aO,eU⟩;by_cases hj:j<y.length
 .left
  have As:(0:Nat)<2^64:=by decide
  have gy:=iz As hy j;have oH:=iz As bc (i+j);have ey:=hw.bq hj;have e3:=A9 (l:=out) (o:=i+j) (by lia);obtain⟨q,hq⟩:∃q,q=y.getD j 0:=⟨_,rfl⟩;obtain⟨o,ho⟩:∃o,o=out.getD (i+j) 0:=⟨_,rfl⟩;rw[<-hq] at gy ey;rw[<-ho] at oH e3;have⟨m1,m2,m3⟩:=aph ha gy oH hc;have hpy:a*q<2^64*2^64:=by lia
  have f1:=O0 (P:=P) (f:=D P L) nI ha gy;have f2:=Eh (P:=P) (f:=D P L) ia (x:=a*q%2^64) (y:=o) (c:=0) (xG _ As) oH (by lia);have f3:=Eh (P:=P) (f:=D P L) ia (x:=(a*q%2^64+o+0)%2^64) (y:=c) (c:=0) (xG _ As) hc (by lia);obtain⟨t,ht⟩:∃t,t=o+a*q+c:=⟨_,rfl⟩;have mb:=am7 (b:=2^64) (out:=out) (p:=(2^64)^(i+j)) (j:=i+j) (c:=c) (t:=t) (x:=a) (y:=q) (Y:=0) (ba:=bo+(2^64)^i*(a*bv (2^64) (y.take j))) ho (by lia) ht (by simpa using aO) rfl rfl;rw[m2,<-ht] at f3;rw[<-ht] at m1 m3;obtain⟨d1,rN⟩:∃d,d=(a*q%2^64+o+0)/2^64:=⟨_,rfl⟩;obtain⟨d2,fB⟩:∃d,d=((a*q%2^64+o+0)%2^64+c+0)/2^64:=⟨_,rfl⟩;rw[<-rN] at f2 m3;rw[<-fB] at f3 m3;rw[show (uc 0)=AV.int .u64 0 from rfl] at f2 f3;obtain⟨h1,iN⟩:∃d,d=a*q/2^64:=⟨_,rfl⟩;rw[<-iN] at f1 m3;have mV:h1+d1<2^64:=by lia
  have BG:h1+d1+d2<2^64:=by lia
  simp only[go_sem,ya,yi,JY,show (j:Int)<y.length by lia,ey,f1,wrapN (n:=i+j) (by lia),show (i:Int)+(j:Int)=((i+j:Nat):Int) from rfl,di 0 0 (show i+j<n by lia),yd,e3,f2,f3,show (h1:Int)+(d1:Int)=((h1+d1:Nat):Int) from rfl,afD mV,show ((h1+d1:Nat):Int)+(d2:Int)=((h1+d1+d2:Nat):Int) from rfl,afD BG,lS (l:=out) (o:=i+j) (by lia)]
  refine⟨_,k-1,rfl,by lia,j+1,h1+d1+d2,_,?_,by lia,by simp[hlen],BG,nt bc (x:=t%2^64) (i:=i+j) (xG _ As),?_,fun m hm=>?_⟩
  .rw [wrap64 (by lia) (by lia)];simp only[go_sem,ya,yb,ap,az hv.pu,az hw.pu]<;>rfl
  .rw [m3,show i+(j+1)=i+j+1 by lia,zT,kv,<-hq,xE a,xE ((2^64)^i)];simp only[xC,y5] at mb;rw[mb,xD,<-Nat.add_assoc,xe ((2^64)^i),<-xe a,xn a ((2^64)^j),xe]
  .rw [qH (by lia)];exact eU m hm
 .right
  have:j=y.length:=by lia
  subst this;rw[xN] at aO;simp only[go_sem,ya,JY,show ¬(y.length:Int)<y.length by lia];exact⟨_,_,rfl,by simp,_,c,out,rfl,rfl,rfl,rfl,rfl,rfl,rfl,rfl,rfl,hlen,hc,bc,aO,eU⟩
def au6(nI:L.pure 143=FL zC)(ia:L.pure 171=FL oW)(hv:bP v x)(hw:bP w y)(hx:lo (2^64) x)(hy:lo (2^64) y)(lx:x.length<=49999999999)(ly:y.length<=49999999999)(hn:n=x.length+y.length):
  cZ P L [1,5,20,21,22] JZ (fun k s=>∃(i:Nat) (out:List Nat),s=⟨[(1,w),(5,.ax 0 0 n),(20,v),(21,aa x.length),(22,aa i)],[(0,.cells ycZ ycZ ycZ 1 (out.map uc))],1,0⟩/\i+k=x.length/\out.length=n/\lo (2^64) out/\
    bv (2^64) out=bv (2^64) (x.take i)*bv (2^64) y/\(∀m,i+y.length<=m->out.getD m 0=0)) (fun ex s'=>∃tm out,s'=⟨tm,[(0,.cells ycZ ycZ ycZ 1 (out.map uc))],1,0⟩/\ex=.exit 0/\aj tm 5=.ax 0 0 n/\out.length=n/\lo (2^64) out/\
    bv (2^64) out=bv (2^64) x*bv (2^64) y):=by
 apply c6;rintro k s ⟨i,out,rfl,hk,hlen,bc,aO,eU⟩;by_cases hi:i<x.length
 .left
  have gx:=iz (show 0<2^64 by decide) hx i;have ex:=hv.bq hi;obtain⟨a,ha⟩:∃a,a=x.getD i 0:=⟨_,rfl⟩;simp only[go_sem,ya,JZ,hw.len,show (i:Int)<x.length by lia,ex];generalize hq:D P L (.loop _ JY) _=q;obtain⟨ex,s,rfl,tm,c,zV,rfl,rfl,t1,t5,t6,t8,t20,t21,t22,Vy,hc,azd,Vz,Lx⟩:=bH hq (au5 (P:=P) (L:=L) nI ia hv hw hx hy lx ly hn hi gx (bo:=bv (2^64) out) y.length)
   ⟨0,0,out,by simp only[go_sem,ya,yb,ap,az hv.pu,az hw.pu]<;>rfl,by lia,hlen,by decide,bc,by simp[bv],eU⟩
  have hz:zV.getD (i+y.length) 0=0:=Lx _ (yu _);have aW:=oY (b:=2^64) (l:=zV) (i:=i+y.length) (x:=c) (by lia);rw[hz,xC,y5,Vz] at aW
  simp only[go_sem,ya,yi,ap,t1,t5,t6,t8,t20,t21,t22,hw.len,az hv.pu,az hw.pu,wrapN (n:=i+y.length) (by lia),show (i:Int)+(y.length:Int)=((i+y.length:Nat):Int) from rfl,di 0 0 (show i+y.length<n by lia),yd,lS (l:=zV) (o:=i+y.length) (by lia)];refine⟨_,k-1,rfl,by lia,i+1,zV.set (i+y.length) c,?_,by lia,by simp[Vy],nt azd hc,?_,fun m hm=>?_⟩
  .rw [wrap64 (by lia) (by lia)];simp only[go_sem,ya,yb,ap,az hv.pu,az hw.pu]<;>rfl
  .rw [aW,aO,kv,xH,<-ha,xe]
  .rw [qH (by lia)];exact Lx m (by lia)
 .right
  have:i=x.length:=by lia
  subst this;rw[xN] at aO;simp only[go_sem,ya,JZ,show ¬(x.length:Int)<x.length by lia];exact⟨_,_,rfl,by simp,_,out,rfl,rfl,rfl,hlen,bc,aO⟩
def aze(h:Has P L 144 PZ)(nH:Has P L 166 CR)(nI:L.pure 143=FL zC)(ia:L.pure 171=FL oW)(hv:bP v x)(hw:bP w y)(hx:lo (2^64) x)(hy:lo (2^64) y)(lx:x.length<=49999999999)(ly:y.length<=49999999999):
  ∃r out,ab P L 144 [v,w] r/\bP r out/\lo (2^64) out/\ig out/\bv (2^64) out=bv (2^64) x*bv (2^64) y:=by
 obtain⟨n,hn⟩:∃n,n=x.length+y.length:=⟨_,rfl⟩;unfold ab;rw[aE h]
 simp only[go_sem,ya,yb,PZ,hv.len,hw.len,wrapN (n:=n) (by lia),show (x.length:Int)+(y.length:Int)=((x.length+y.length:Nat):Int) from rfl,<-hn,EU (n:=n) _ (by lia)];generalize hq:D P L (.loop _ JZ) _=q;obtain⟨ex,s,rfl,tm,o,rfl,rfl,t5,hlen,bc,aO⟩:=bH hq (au6 (P:=P) (L:=L) nI ia hv hw hx hy lx ly hn x.length)
  ⟨0,yF n 0,by simp only[go_sem,ya,yb,ap,az hv.pu,az hw.pu]<;>rfl,by lia,by simp,GD (by decide) n,by rw[GF];simp[bv],fun m _=>DW n m⟩
 have hf:=n7 ycZ o;rw[hlen] at hf;have⟨r,e1,hr⟩:=C0 nH hf (by lia);refine⟨r,_,?_,hr,Ch bc,Cg _,by rw[Cf];exact aO⟩
 simp only[go_sem,yb,ap,t5,CZ _ (n:=n) (l:=o) hlen ycZ,e1,hr.shut,hr.eA]
end
section
variable {b s u u2 v1 v2 y:Nat}
def Px(n:Int):IntKind.wrap .u64 n=n%2^64:=by
 simp[IntKind.wrap,IntKind.signed,IntKind.bits]
def wrapM(n:Nat):IntKind.wrap .u64 (n:Int)=((n%2^64:Nat):Int):=by rw[Px];lia
def rm(a b:Nat):binOp .mul (uc a) (uc b)=FL (uc (a*b%2^64)):=by
 rw[ado,<-xM,wrapM]
def CL(a b:Nat):binOp .add (uc a) (uc b)=FL (uc ((a+b)%2^64)):=by
 rw[adn,<-Int.natCast_add,wrapM]
def EV{a c:Nat}(h:(a+2^64-b)%2^64=c)(hb:b<=2^64):binOp .sub (uc a) (uc b)=FL (uc c):=by
 rw[Ow,Px]
 grind
def au7(k k':xc)(a b:Int):binOp .shl (.int k a) (.int k' b)=DT .shl k a b:=rfl
def au8(k k':xc)(a b:Int):binOp .shr (.int k a) (.int k' b)=DT .shr k a b:=rfl
def Ly(k:xc)(a:Nat)(hs:s<=64):binOp .shl (.int .u64 (a:Int)) (.int k (s:Int))=FL (uc (a*2^s%2^64)):=by
 rw[au7];simp only[DT,yt (show ¬(s:Int)<0 by lia),xV,IntKind.bits,xF hs];rw[show ((2:Int)^s)=((2^s:Nat):Int) by simp,<-xM,wrapM]
def Lz(k:xc)(a:Nat)(hs:s<=64):binOp .shr (.int .u64 (a:Int)) (.int k (s:Int))=FL (uc (a/2^s)):=by
 rw[au8];simp only[DT,yt (show ¬(s:Int)<0 by lia),xV,IntKind.bits,xF hs]
 grind
def agR(a:Nat):binOp .and (.int .u64 (a:Int)) (.int .u64 4294967295)=FL (uc (a%4294967296)):=by
 show FL (AV.int .u64 (IntKind.wrap .u64 ((wu 64 (a:Int)&&&wu 64 4294967295).toNat:Int)))=_
 rw[show wu 64 (a:Int)=tE 64 a from tF 64 a,show wu 64 4294967295=tE 64 4294967295 from rfl];rw[BitVec.toNat_and,vZ,vZ,show (4294967295%2^64:Nat)=2^32-1 from rfl,Nat.and_two_pow_sub_one_eq_mod,wrapM]
 grind
def Yu{a:Nat}(ha:a<2^64)(hb:b<2^64):binOp .or (.int .u64 (a:Int)) (.int .u64 (b:Int))=FL (uc (a|||b)):=by
 show FL (AV.int .u64 (IntKind.wrap .u64 ((wu 64 (a:Int)|||wu 64 (b:Int)).toNat:Int)))=_
 congr 2
 rw[show wu 64 (a:Int)=tE 64 a from tF 64 a,show wu 64 (b:Int)=tE 64 b from tF 64 b];rw[BitVec.toNat_or,vZ,vZ,yS (show a<2^64 from ha),yS (show b<2^64 from hb),wrapM]
 have:a|||b<2^64:=Nat.or_lt_two_pow ha hb
 lia
def UQ{p c:Nat}(h:c<2^s):(p*2^s)|||c=p*2^s+c:=by
 rw[<-Nat.shiftLeft_eq,<-Nat.shiftLeft_add_eq_or_of_lt h]
def aat:∀(f n:Nat),n<2^f->eN f n<=f/\n<2^eN f n/\(0<n->0<eN f n/\2^(eN f n-1)<=n)
 | 0,n,h=>by simp[eN];simpa using h
 | f+1,n,h=>by
  simp only[eN];by_cases h0:n=0
  .simp_all
  .rw [gW h0,yR];have⟨h1,h2,h3⟩:=aat f (n/2) (by lia);refine⟨by lia,?_,fun _=>⟨by lia,?_⟩⟩
   .grind
   .rw [Nat.add_sub_cancel_left];by_cases hn:0<n/2
    .have ⟨h4,h5⟩:=h3 hn;obtain⟨m,hm⟩:∃m,eN f (n/2)=m+1:=⟨eN f (n/2)-1,by lia⟩
     grind
    .have hz:n/2=0:=by lia
     have:eN f 0=0:=by cases f with
      | zero=>rfl
      | succ f=>rfl
     grind
def TO(h0:0<y)(h:y<2^64):64-eN 64 y<64/\9223372036854775808<=y*2^(64-eN 64 y)/\y*2^(64-eN 64 y)<2^64:=by
 have⟨h1,h2,h3⟩:=aat 64 y h;have⟨h4,h5⟩:=h3 h0;generalize eN 64 y=k at*
 refine⟨by lia,?_,?_⟩
 .have:=yI (2^(64-k)) h5
  rw[<-xD,show k-1+(64-k)=63 by lia] at this;exact this
 .have:=xZ h2 (xg (64-k))
  rw[<-xD,show k+(64-k)=64 by lia] at this;exact this
section
variable {P:aF}{L:Lib}{f:cl}
def aeb(h:L.pure 167=FL GW){x:Nat}(hx:x<2^64):bL P L f 167 [uc x]=FL (aa (64-eN 64 x:Nat)):=by
 rw[kj h];show (bif yO x (2^64) then _ else FM)=_
 rw[ma hx];rfl
def am8{t r:Nat}(c9:v2<b)(lR:t<b)(ht:t*v1+r=u)(h:b<=r\/t*v2<=b*r+u2):t*(v1*b+v2)<=u*b+u2:=by
 have h2:t*v2<=b*r+u2:=by
  rcases h with h | h
  .have:=xf (uP lR) (uP c9)
   have:=yW b h
   lia
  .exact h
 rw[xE,<-xe,<-ht,xH,xn r b];lia
def axN(n:Nat):me (.toInt .u64) (.int .i64 (n:Int))=FL (uc (n%2^64)):=by
 show FL (AV.int .u64 (IntKind.wrap .u64 (n:Int)))=_
 rw[wrapM]
def ZW{q r:Nat}(hy:y=v1*4294967296+v2)(c9:v2<4294967296)(HO:0<v1)(fb:v1<4294967296)(hu:u<y)(BK:u2<4294967296)(hq:q*v1+r=u)(hr:r<4294967296)(hQ:(u*4294967296+u2)/y<=q):
  (4294967296<=q\/4294967296*r+u2<q*v2->0<q/\(q-1)*v1+(r+v1)=u/\(u*4294967296+u2)/y<=q-1/\(4294967296<=r+v1->(u*4294967296+u2)/y=q-1))/\
  (¬4294967296<=q->q*v2<=4294967296*r+u2->(u*4294967296+u2)/y=q):=by
 have fV:0<y:=by lia
 have RL:∀t s,t*v1+s=u->4294967296<=t->s<4294967296:=fun t s h1 h2=>by
  have:=yI v1 h2
  grind
 have aec:∀t s,t*v1+s=u->t<4294967296->(4294967296<=s\/t*v2<=4294967296*s+u2)->(u*4294967296+u2)/y<=t->(u*4294967296+u2)/y=t:=fun t s h1 h2 h3 h4=>by
  have:=am8 c9 h2 h1 h3
  rw[<-hy] at this
  have:=(tH fV).2 this
  lia
 constructor
 .intro h;have BL:0<q:=by
   grind
  have h1:(q-1)*v1+(r+v1)=u:=by
   obtain⟨p,rfl⟩:∃p,q=p+1:=⟨q-1,by lia⟩
   grind
  have h2:(u*4294967296+u2)/y<=q-1:=by
   have aH:u*4294967296+u2<q*y:=by
    rcases h with h | h
    .have h3:u*4294967296+u2<4294967296*y:=by lia
     exact yP h3 (yI y h)
    .rw [hy,xE,<-xe,<-hq,xH,xn r];lia
   have:=(xB fV).2 aH
   lia
  exact⟨BL,h1,h2,fun h3=>aec _ _ h1 (by
   by_cases hb:4294967296<=q-1
   .have:=RL _ _ h1 hb;lia
   .lia) (.inl h3) h2⟩
 .intro h1 h2;exact aec q r hq (by lia) (.inr h2) hQ
def au9{z:Nat}(hy:y=v1*4294967296+v2)(c9:v2<4294967296)(HO:0<v1)(fb:v1<4294967296)(hu:u<y)(BK:u2<4294967296):
  cZ P L [2,8,9,10,11,13,14,15,16] Cq (fun k st=>∃q r:Nat,st=⟨[(2,uc y),(8,uc s),(9,uc v1),(10,uc v2),(11,uc u),(13,uc u2),(14,uc z),(15,uc q),(16,uc r)],[],0,0⟩/\q*v1+r=u/\r<4294967296/\(u*4294967296+u2)/y<=q/\q=k) (fun ex st'=>∃tm ct,st'=⟨tm,[],ct,0⟩/\ex=.exit 0/\aj tm 2=uc y/\aj tm 8=uc s/\aj tm 9=uc v1/\aj tm 10=uc v2/\aj tm 11=uc u/\aj tm 13=uc u2/\aj tm 14=uc z/\aj tm 15=uc ((u*4294967296+u2)/y)):=by
 apply c6;rintro k st ⟨q,r,rfl,hq,hr,hQ,rfl⟩;have⟨g1,g2⟩:=ZW hy c9 HO fb hu BK hq hr hQ;have hqb:q*1<=q*v1:=yW q HO;have azf:=yI 4294967296 (show v1<=4294967295 by lia);have pX:q<2^64:=by lia
 have XZ:=yW 4294967296 (show r<=4294967295 by lia);have e1:=rm 4294967296 r;rw[show uc 4294967296=AV.int .u64 4294967296 from rfl,yS (show 4294967296*r<2^64 by lia)] at e1;have e2:=CL (4294967296*r) u2;rw[yS (show 4294967296*r+u2<2^64 by lia)] at e2;have e4:=CL r v1;rw[yS (show r+v1<2^64 by lia)] at e4;by_cases hc:4294967296<=q\/4294967296*r+u2<q*v2
 .have ⟨h0,h1,h2,h3⟩:=g1 hc;have e3:binOp .sub (uc q) (.int .u64 1)=FL (uc (q-1)):=EV (b:=1) (by lia) (by lia);by_cases hb:4294967296<=r+v1
  .right
   have BM:=h3 hb;rcases (show 4294967296<=q\/(¬4294967296<=q/\4294967296*r+u2<q*v2) by lia) with t1 | ⟨t1,t2⟩
   .simp only [go_sem,ya,Cq,show (4294967296:Int)<=(q:Int) by lia,e3,e4,show (4294967296:Int)<=((r+v1:Nat):Int) by lia];exact⟨_,_,rfl,by simp,_,_,rfl,rfl,rfl,rfl,rfl,rfl,rfl,rfl,rfl,by rw[BM];simp only[go_sem,ya]⟩
   .have Yv:=xf (show q<=4294967295 by lia) (show v2<=4294967295 by lia);have e5:=rm q v2;rw[yS (show q*v2<2^64 by lia)] at e5;simp only[go_sem,ya,Cq,show ¬(4294967296:Int)<=(q:Int) by lia,e5,e1,e2,show ((4294967296*r+u2:Nat):Int)<((q*v2:Nat):Int) by lia,e3,e4,show (4294967296:Int)<=((r+v1:Nat):Int) by lia];exact⟨_,_,rfl,by simp,_,_,rfl,rfl,rfl,rfl,rfl,rfl,rfl,rfl,rfl,by rw[BM];simp only[go_sem,ya]⟩
  .left
   rcases (show 4294967296<=q\/(¬4294967296<=q/\4294967296*r+u2<q*v2) by lia) with t1 | ⟨t1,t2⟩
   .simp only [go_sem,ya,Cq,show (4294967296:Int)<=(q:Int) by lia,e3,e4,show ¬(4294967296:Int)<=((r+v1:Nat):Int) by lia];exact⟨_,q-1,rfl,by lia,q-1,r+v1,by simp only[go_sem,ya,ap],h1,by lia,h2,rfl⟩
   .have Yv:=xf (show q<=4294967295 by lia) (show v2<=4294967295 by lia);have e5:=rm q v2;rw[yS (show q*v2<2^64 by lia)] at e5;simp only[go_sem,ya,Cq,show ¬(4294967296:Int)<=(q:Int) by lia,e5,e1,e2,show ((4294967296*r+u2:Nat):Int)<((q*v2:Nat):Int) by lia,e3,e4,show ¬(4294967296:Int)<=((r+v1:Nat):Int) by lia];exact⟨_,q-1,rfl,by lia,q-1,r+v1,by simp only[go_sem,ya,ap],h1,by lia,h2,rfl⟩
 .right
  have BM:=g2 (by lia) (by lia);have e5:=rm q v2;rw[yS (show q*v2<2^64 by lia)] at e5;simp only[go_sem,ya,Cq,show ¬(4294967296:Int)<=(q:Int) by lia,e5,e1,e2,show ¬((4294967296*r+u2:Nat):Int)<((q*v2:Nat):Int) by lia];exact⟨_,_,rfl,by simp,_,_,rfl,rfl,rfl,rfl,rfl,rfl,rfl,rfl,rfl,by rw[BM];simp only[go_sem,ya]⟩
end
end
section
variable {P:aF}{L:Lib}{f:cl}
def ava{y s v1 v2 u u2 z:Nat}(hy:y=v1*4294967296+v2)(c9:v2<4294967296)(HO:0<v1)(fb:v1<4294967296)(hu:u<y)(BK:u2<4294967296):
  cZ P L [2,8,9,10,14,15,16,17,18] Cr (fun k st=>∃q r:Nat,st=⟨[(2,uc y),(8,uc s),(9,uc v1),(10,uc v2),(14,uc u2),(15,uc z),(16,uc r),(17,uc u),(18,uc q)],[],0,0⟩/\q*v1+r=u/\r<4294967296/\(u*4294967296+u2)/y<=q/\q=k) (fun ex st'=>∃tm ct,st'=⟨tm,[],ct,0⟩/\ex=.exit 2/\aj tm 2=uc y/\aj tm 8=uc s/\aj tm 9=uc v1/\aj tm 10=uc v2/\aj tm 14=uc u2/\aj tm 15=uc z/\aj tm 17=uc u/\aj tm 18=uc ((u*4294967296+u2)/y)):=by
 apply c6;rintro k st ⟨q,r,rfl,hq,hr,hQ,rfl⟩;have⟨g1,g2⟩:=ZW hy c9 HO fb hu BK hq hr hQ;have hqb:q*1<=q*v1:=yW q HO;have azf:=yI 4294967296 (show v1<=4294967295 by lia);have pX:q<2^64:=by lia
 have XZ:=yW 4294967296 (show r<=4294967295 by lia);have e1:=rm 4294967296 r;rw[show uc 4294967296=AV.int .u64 4294967296 from rfl,yS (show 4294967296*r<2^64 by lia)] at e1;have e2:=CL (4294967296*r) u2;rw[yS (show 4294967296*r+u2<2^64 by lia)] at e2;have e4:=CL r v1;rw[yS (show r+v1<2^64 by lia)] at e4;by_cases hc:4294967296<=q\/4294967296*r+u2<q*v2
 .have ⟨h0,h1,h2,h3⟩:=g1 hc;have e3:binOp .sub (uc q) (.int .u64 1)=FL (uc (q-1)):=EV (b:=1) (by lia) (by lia);by_cases hb:4294967296<=r+v1
  .right
   have BM:=h3 hb;rcases (show 4294967296<=q\/(¬4294967296<=q/\4294967296*r+u2<q*v2) by lia) with t1 | ⟨t1,t2⟩
   .simp only [go_sem,ya,Cr,show (4294967296:Int)<=(q:Int) by lia,e3,e4,show (4294967296:Int)<=((r+v1:Nat):Int) by lia];exact⟨_,_,rfl,by simp,_,_,rfl,rfl,rfl,rfl,rfl,rfl,rfl,rfl,rfl,by rw[BM];simp only[go_sem,ya]⟩
   .have Yv:=xf (show q<=4294967295 by lia) (show v2<=4294967295 by lia);have e5:=rm q v2;rw[yS (show q*v2<2^64 by lia)] at e5;simp only[go_sem,ya,Cr,show ¬(4294967296:Int)<=(q:Int) by lia,e5,e1,e2,show ((4294967296*r+u2:Nat):Int)<((q*v2:Nat):Int) by lia,e3,e4,show (4294967296:Int)<=((r+v1:Nat):Int) by lia];exact⟨_,_,rfl,by simp,_,_,rfl,rfl,rfl,rfl,rfl,rfl,rfl,rfl,rfl,by rw[BM];simp only[go_sem,ya]⟩
  .left
   rcases (show 4294967296<=q\/(¬4294967296<=q/\4294967296*r+u2<q*v2) by lia) with t1 | ⟨t1,t2⟩
   .simp only [go_sem,ya,Cr,show (4294967296:Int)<=(q:Int) by lia,e3,e4,show ¬(4294967296:Int)<=((r+v1:Nat):Int) by lia];exact⟨_,q-1,rfl,by lia,q-1,r+v1,by simp only[go_sem,ya,ap],h1,by lia,h2,rfl⟩
   .have Yv:=xf (show q<=4294967295 by lia) (show v2<=4294967295 by lia);have e5:=rm q v2;rw[yS (show q*v2<2^64 by lia)] at e5;simp only[go_sem,ya,Cr,show ¬(4294967296:Int)<=(q:Int) by lia,e5,e1,e2,show ((4294967296*r+u2:Nat):Int)<((q*v2:Nat):Int) by lia,e3,e4,show ¬(4294967296:Int)<=((r+v1:Nat):Int) by lia];exact⟨_,q-1,rfl,by lia,q-1,r+v1,by simp only[go_sem,ya,ap],h1,by lia,h2,rfl⟩
 .right
  have BM:=g2 (by lia) (by lia);have e5:=rm q v2;rw[yS (show q*v2<2^64 by lia)] at e5;simp only[go_sem,ya,Cr,show ¬(4294967296:Int)<=(q:Int) by lia,e5,e1,e2,show ¬((4294967296*r+u2:Nat):Int)<((q*v2:Nat):Int) by lia];exact⟨_,_,rfl,by simp,_,_,rfl,rfl,rfl,rfl,rfl,rfl,rfl,rfl,rfl,by rw[BM];simp only[go_sem,ya]⟩
def afE(a:Nat):binOp .shr (.int .u64 (a:Int)) (.int .u64 32)=FL (uc (a/4294967296)):=Lz .u64 a (s:=32) (by decide)
def agS(a:Nat){b:Nat}(ha:a<2^64)(hb:0<b):binOp .quo (uc a) (uc b)=FL (uc (a/b)):=by
 rw[eK _ _ _ (by lia),xP (by lia),<-Int.natCast_ediv,wrapM,yS];exact wh (vI a b) ha
def azg(a:Nat){b:Nat}(hb:0<b):binOp .rem (uc a) (uc b)=FL (uc (a%b)):=by
 rw[fC _ _ _ (by lia),xO (by lia),<-Int.natCast_emod]
def am9{hi lo y s u z Y:Nat}(hs:s<64)(bc:lo<2^64)(hY:Y=y*2^s)(hu:u=hi*2^s+lo/2^(64-s))(hz:z=lo*2^s%2^64):
  (hi*2^64+lo)*2^s=u*2^64+z:=by
 have e:2^64=2^(64-s)*2^s:=by rw[<-xD,show 64-s+s=64 by lia]
 have h1:lo*2^s/2^64=lo/2^(64-s):=by
  rw[e,tI _ _ (xg s)]
 grind
def abk{Y q a b:Nat}(h1:a<Y)(h2:b<4294967296)(h3:q=(a*4294967296+b)/Y):q<4294967296:=by
 rw[h3];exact (xB (by lia)).2 (by lia)
def api{u w x z z0 z1 q0 q1 Y:Nat}(rN:q1*Y+w=u*4294967296+z1)(ij:q0*Y+x=w*4294967296+z0)(hz:z=z1*4294967296+z0):u*2^64+z=(q1*4294967296+q0)*Y+x:=by grind
def alG{q1 q0:Nat}(h1:q1<4294967296)(h0:q0<4294967296):q1*4294967296<2^64/\q1*4294967296+q0<2^64:=by lia
def agT(h:Has P L 165 K3)(LA:L.pure 167=FL GW){hi lo y:Nat}(eU:hi<y)(bc:lo<2^64)(hy:y<2^64):
  ab P L 165 [uc hi,uc lo,uc y] (.aw [uc ((hi*2^64+lo)/y),uc ((hi*2^64+lo)%y)]):=by
 have fV:0<y:=by lia
 by_cases h0:hi=0
 .subst h0;have e1:=agS lo bc fV;have e2:=azg lo fV;rw[wq,yd];unfold ab;rw[aE h];simp only[go_sem,ya,K3,show ¬(y:Int)=0 by lia,show ¬(y:Int)<=0 by lia,show ((0:Nat):Int)=0 from rfl,e1,e2];rfl
 .obtain ⟨s,hs⟩:∃s,s=64-eN 64 y:=⟨_,rfl⟩;have hl:=aeb (P:=P) (f:=D P L) LA hy;have⟨l1,l2,l3⟩:=TO fV hy;rw[<-hs] at hl l1 l2 l3;obtain⟨Y,hY⟩:∃Y,Y=y*2^s:=⟨_,rfl⟩;obtain⟨u,hu⟩:∃u,u=hi*2^s+lo/2^(64-s):=⟨_,rfl⟩;obtain⟨z,hz⟩:∃z,z=lo*2^s%2^64:=⟨_,rfl⟩;have hdiv:=am9 l1 bc hY hu hz;rw[<-hY] at l2 l3;have hp:=xg s;obtain⟨v1,fb⟩:∃v,v=Y/4294967296:=⟨_,rfl⟩;obtain⟨v2,c9⟩:∃v,v=Y%4294967296:=⟨_,rfl⟩;have hYv:Y=v1*4294967296+v2:=by lia
  obtain⟨z1,mW⟩:∃v,v=z/4294967296:=⟨_,rfl⟩;obtain⟨z0,jX⟩:∃v,v=z%4294967296:=⟨_,rfl⟩;have HP:z<2^64:=by lia
  have hhY:hi*2^s<Y:=by rw[hY];exact xZ eU hp
  have gM:lo/2^(64-s)<2^s:=by
   refine (xB (xg _)).2 ?_;rw[<-xD,show s+(64-s)=64 by lia];exact bc
  have pP:hi*2^s|||lo/2^(64-s)=u:=by rw[UQ gM,hu]
  have hN:hi*2^64+lo<y*2^64:=by
   have:=yI (2^64) (show hi+1<=y from eU)
   lia
  have Yw:u<Y:=by
   have h1:=xZ hN hp;rw[hdiv,Nat.mul_right_comm,<-hY] at h1
   lia
  obtain⟨q1,fX⟩:∃q,q=(u*4294967296+z1)/Y:=⟨_,rfl⟩;obtain⟨w,hw⟩:∃q,q=(u*4294967296+z1)%Y:=⟨_,rfl⟩;obtain⟨q0,BL⟩:∃q,q=(w*4294967296+z0)/Y:=⟨_,rfl⟩;obtain⟨x,hx⟩:∃q,q=(w*4294967296+z0)%Y:=⟨_,rfl⟩;have RM:w<Y:=by rw[hw];exact xG _ (by lia)
  have Yx:x<Y:=by rw[hx];exact xG _ (by lia)
  have rN:=xQ (u*4294967296+z1) Y;rw[<-fX,<-hw,xn] at rN;have ij:=xQ (w*4294967296+z0) Y;rw[<-BL,<-hx,xn] at ij;have azh:=abk Yw (show z1<4294967296 by lia) fX;have azi:=abk RM (show z0<4294967296 by lia) BL;have⟨td1,td2⟩:=alG azh azi;have QC:(hi*2^64+lo)*2^s=(q1*4294967296+q0)*Y+x:=by
   rw[hdiv];exact api rN ij (by lia)
  have r1:(hi*2^64+lo)/y=q1*4294967296+q0:=by
   rw[<-tI _ _ hp,QC,<-hY,xn _ Y,tY (by lia),xW Yx,y5]
  have r2:x/2^s=(hi*2^64+lo)%y:=by
   have h1:x=(hi*2^64+lo)*2^s%(y*2^s):=by
    rw[QC,<-hY,xn _ Y,tZ,yS Yx]
   rw[h1,ux,Nat.mul_div_cancel _ hp]
  have o1:=Ly .u64 y (s:=s) (by lia);rw[<-hY,yS l3] at o1;have o2:=afE Y;rw[<-fb] at o2;have o3:=agR Y;rw[<-c9] at o3;have o4:=Ly .u64 hi (s:=s) (by lia);rw[yS (show hi*2^s<2^64 by lia)] at o4;have o5:binOp .sub (.int .u64 64) (uc s)=FL (uc (64-s)):=EV (a:=64) (by lia) (by lia);have o6:=Lz .u64 lo (s:=64-s) (by lia);have o7:=Yu (a:=hi*2^s) (b:=lo/2^(64-s)) (by lia) (wh (vI _ _) bc);rw[pP] at o7;have o8:=Ly .u64 lo (s:=s) (by lia);rw[<-hz] at o8;have o9:=afE z;rw[<-mW] at o9;have o10:=agR z;rw[<-jX] at o10;have Hh:0<v1:=by lia
  have afF:∀{a:Nat},a<Y->binOp .quo (uc a) (uc v1)=FL (uc (a/v1))/\binOp .mul (uc (a/v1)) (uc v1)=FL (uc (a/v1*v1))/\binOp .sub (uc a) (uc (a/v1*v1))=FL (uc (a%v1)):=fun {a} ha=>by
   have h1:=xQ a v1;rw[xn] at h1;have h2:=rm (a/v1) v1;generalize a/v1*v1=m at*
   rw[yS (show m<2^64 by lia)] at h2;exact⟨agS a (by lia) Hh,h2,EV (by lia) (by lia)⟩
  have⟨g1,g2,g3⟩:=afF Yw;have⟨g4,g5,g6⟩:=afF RM;have first:∀{a b:Nat},b<4294967296->(a*4294967296+b)/Y<=a/v1:=fun {a b} hb=>by
   have:=Ss (b:=4294967296) (V:=Y) (v1:=v1) (v2:=v2) (vr:=0) (U:=a*4294967296+b) (u0:=0) (u1:=a) (u2:=b) (ur:=0) (p:=1) (by lia) (by lia) (by decide) hb Hh
   simpa using this
  have back:∀{a b q x:Nat},a*4294967296+b=q*Y+x->x<Y->binOp .mul (uc a) (.int .u64 4294967296)=FL (uc (a*4294967296%2^64))/\binOp .add (uc (a*4294967296%2^64)) (uc b)=FL (uc ((a*4294967296%2^64+b)%2^64))/\
    binOp .mul (uc q) (uc Y)=FL (uc (q*Y%2^64))/\binOp .sub (uc ((a*4294967296%2^64+b)%2^64)) (uc (q*Y%2^64))=FL (uc x):=fun {a b q x} h1 h2=>by
   refine⟨rm a 4294967296,CL _ _,rm q Y,EV ?_ (by lia)⟩;generalize q*Y=m at*
   lia
  have⟨k1,k2,k3,k4⟩:=back rN.symm RM;have⟨k5,k6,k7,k8⟩:=back ij.symm Yx;have m1:=rm q1 4294967296;rw[yS td1,show uc 4294967296=AV.int .u64 4294967296 from rfl] at m1;have m2:=CL (q1*4294967296) q0;rw[yS td2] at m2;have m3:=Lz .u64 x (s:=s) (by lia);rw[r1,<-r2];unfold ab;rw[aE h];simp only[go_sem,ya,K3,show ¬(y:Int)=0 by lia,show ¬(y:Int)<=(hi:Int) by lia,show ¬(hi:Int)=0 by lia,hl,axN,yS (show s<2^64 by lia),o1,o2,o3,o4,o5,o6,o7,o8,o9,o10,g1,g2,g3];generalize nQ:D P L (.loop _ Cq) _=qq
  obtain⟨ex,st,rfl,tm,ct,rfl,rfl,t2,t8,t9,t10,t11,t13,t14,t15⟩:=bH nQ (au9 (P:=P) (L:=L) (s:=s) (z:=z0) hYv (by lia) Hh (by lia) Yw (show z1<4294967296 by lia) (u/v1)) ⟨u/v1,u%v1,by simp only[go_sem,ya,ap],by rw[xn];exact xQ u v1,by have:=xG u Hh;lia,first (by lia),rfl⟩
  rw[<-fX] at t15;simp only[go_sem,ya,ap,t2,t8,t9,t10,t11,t13,t14,t15,k1,k2,k3,k4,g4,g5,g6];generalize EW:D P L (.loop _ Cr) _=Yy;obtain⟨ex,st,rfl,pL,ct2,rfl,rfl,t2,t8,t9,t10,t14,t15,t17,t18⟩:=bH EW (ava (P:=P) (L:=L) (s:=s) (z:=q1) hYv (by lia) Hh (by lia) RM (show z0<4294967296 by lia) (w/v1)) ⟨w/v1,w%v1,by simp only[go_sem,ya,ap],by rw[xn];exact xQ w v1,by have:=xG w Hh;lia,first (by lia),rfl⟩
  rw[<-BL] at t18;simp only[go_sem,ya,ap,t2,t8,t14,t15,t17,t18,m1,m2,k5,k6,k7,k8,m3];rfl
end
mutual
def below(n:Nat):AV->Prop
 | .ptr id _=>id<n
 | .ax id _ _=>id<n
 | .map id=>id<n
 | .it id=>id<n
 | .fn (.f _) first cap=>so n first/\so n cap
 | .fn (.y l) first cap=>l<n/\first=[]/\cap=[]
 | .agg cs=>so n cs
 | .aw cs=>so n cs
 | _=>True
def so(n:Nat):List AV->Prop
 | []=>True
 | v::r=>below n v/\so n r
end
def sq(n:Nat):Env->Prop
 | []=>True
 | (_,v)::r=>below n v/\sq n r
def Ei(n:Nat):Obj->Prop
 | .cells _ pu _ _ cs=>pu=ycZ\/so n cs
 | .mp _ ks vs=>so n ks/\so n vs
 | .si _ _=>True
 | .lp tm _ _ _ _ _=>sq n tm
def iB(b n:Nat):Hp->Prop
 | []=>True
 | (id,o)::r=>id<b/\Ei n o/\iB b n r
mutual
def abl{f:Nat->Option Nat}{n:Nat}(hf:∀x,x<n->f x=FL x):∀{v:AV},below n v->br f v=v
 | .int _ _,_ | .bool _,_ | .av _ _,_ | .dl _ _ _,_ | .str _,_ | .kY,_ | .bN _,_ | .ah,_ | .au _ _ _,_ | .iG,_ | .jM,_ | .jN _ _,_ | .undef,_ | .c7 _ _ _ _,_=>rfl
 | .ptr id o,h=>by simp only[br,hf id h]
 | .ax id o k,h=>by simp only[br,hf id h]
 | .map id,h=>by simp only[br,hf id h]
 | .it id,h=>by simp only[br,hf id h]
 | .fn (.y l) first cap,h=>by
  obtain⟨h1,rfl,rfl⟩:=h;simp only[br,hf l h1,dI]
 | .fn (.f _) first cap,h=>by
  simp only[br,B7 hf h.1,B7 hf h.2]
 | .agg cs,h=>by simp only[below] at h;simp only[br,B7 hf h]
 | .aw cs,h=>by simp only[below] at h;simp only[br,B7 hf h]
def B7{f:Nat->Option Nat}{n:Nat}(hf:∀x,x<n->f x=FL x):∀{vs:List AV},so n vs->dI f vs=vs
 | [],_=>rfl
 | v::r,h=>by simp only[dI,abl hf h.1,B7 hf h.2]
end
def SI{f:Nat->Option Nat}{n:Nat}(hf:∀x,x<n->f x=FL x):∀{tm:Env},sq n tm->dS f tm=tm
 | [],_=>rfl
 | (_,v)::r,h=>by simp only[dS,abl hf h.1,SI hf h.2]
def alH{f:Nat->Option Nat}{n:Nat}(hf:∀x,x<n->f x=FL x):∀{o:Obj},Ei n o->gI f o=o
 | .cells _ pu _ _ cs,h=>by
  cases pu with
  | true=>rfl
  | false=>simp only[Ei,yC,yct] at h;simp only[gI,yR,B7 hf h]
 | .mp _ ks vs,h=>by simp only[gI,B7 hf h.1,B7 hf h.2]
 | .si _ _,_=>rfl
 | .lp tm _ _ _ _ _,h=>by simp only[Ei] at h;simp only[gI,SI hf h]
mutual
def aau{n:Nat}:∀{v:AV},below n v->∀x,x∈refs v->x<n
 | .int _ _,_,x,h | .bool _,_,x,h | .av _ _,_,x,h | .dl _ _ _,_,x,h | .str _,_,x,h | .kY,_,x,h | .bN _,_,x,h | .ah,_,x,h | .au _ _ _,_,x,h | .iG,_,x,h | .jM,_,x,h | .jN _ _,_,x,h | .undef,_,x,h | .c7 _ _ _ _,_,x,h=>by simp[refs] at h
 | .ptr id o,h,x,hx=>by simp only[refs,xz] at hx;subst hx;exact h
 | .ax id o k,h,x,hx=>by simp only[refs,xz] at hx;subst hx;exact h
 | .map id,h,x,hx=>by simp only[refs,xz] at hx;subst hx;exact h
 | .it id,h,x,hx=>by simp only[refs,xz] at hx;subst hx;exact h
 | .fn (.y l) first cap,h,x,hx=>by simp only[refs,xz] at hx;subst hx;exact h.1
 | .fn (.f _) first cap,h,x,hx=>by
  simp only[refs,xJ] at hx;exact hx.elim (B6 h.1 x) (B6 h.2 x)
 | .agg cs,h,x,hx=>by simp only[below] at h;simp only[refs] at hx;exact B6 h x hx
 | .aw cs,h,x,hx=>by simp only[below] at h;simp only[refs] at hx;exact B6 h x hx
def B6{n:Nat}:∀{vs:List AV},so n vs->∀x,x∈gh vs->x<n
 | [],_,x,h=>by simp[gh] at h
 | v::r,h,x,hx=>by
  simp only[gh,xJ] at hx;exact hx.elim (aau h.1 x) (B6 h.2 x)
end
def Su{n:Nat}:∀{tm:Env},sq n tm->∀x,x∈dR tm->x<n
 | [],_,x,h=>by simp[dR] at h
 | (_,v)::r,h,x,hx=>by
  simp only[dR,xJ] at hx;exact hx.elim (aau h.1 x) (Su h.2 x)
def akV{n:Nat}:∀{o:Obj},Ei n o->∀x,x∈jI o->x<n
 | .cells _ pu _ _ cs,h,x,hx=>by
  cases pu with
  | true=>simp[jI] at hx
  | false=>simp only[Ei,yC,yct] at h;exact B6 h x hx
 | .mp _ ks vs,h,x,hx=>by
  simp only[jI,xJ] at hx;exact hx.elim (B6 h.1 x) (B6 h.2 x)
 | .si _ _,_,x,hx=>by simp[jI] at hx
 | .lp tm _ _ _ _ _,h,x,hx=>by simp only[Ei] at h;exact Su h x hx
def lG(B:Nat):List (List AV)->Hp
 | []=>[]
 | cs::r=>(B+r.length,.cells ycZ ycZ ycZ 1 cs)::lG B r
def Ew(B:Nat):List (List AV)->Hp->Hp
 | [],acc=>acc
 | cs::r,acc=>Ew (B+1) r ((B,.cells ycZ ycZ ycZ 1 cs)::acc)
def aav:∀(l:List (List AV)) (B:Nat) (x:List AV) (acc:Hp),Ew B (l++[x]) acc=(B+l.length,.cells ycZ ycZ ycZ 1 x)::Ew B l acc
 | [],B,x,acc=>rfl
 | c::l,B,x,acc=>by
  simp only[ym,Ew,aav l,yy]
  grind
def abm(B:Nat)(acc:Hp):∀rs:List (List AV),Ew B rs.reverse acc=lG B rs++acc
 | []=>rfl
 | c::r=>by
  simp only[ybm,aav,abm B acc r,yaZ,lG,ym]
def abn{B:Nat}{old:Hp}:∀{rs:List (List AV)} {i:Nat} (h:i<rs.length),ak (lG B rs++old) (B+i)=FL (.cells ycZ ycZ ycZ 1 (rs.reverse[i]'(by simpa using h)))
 | c::r,i,h=>by
  simp only[lG,ym,ybm];by_cases hi:i=r.length
  .subst hi;rw[ak,wO,yx]
   simp
  .have aH:i<r.length:=by grind
   rw[ak,gW (by lia),yR,abn aH]
   grind
def qQ{a b:Nat}(h:a<b):yO a b=ycZ:=by simp_all
def sr{a b:Nat}(h:b<=a):yO a b=yda:=by
 cases hq:yO a b with
 | false=>rfl
 | true=>have:=yv hq;lia
def Sk{B:Nat}{old:Hp}:∀rs:List (List AV),cQ B (lG B rs++old)=cQ B old
 | []=>rfl
 | c::r=>by
  simp only[lG,ym];rw[cQ,sr (by lia),yR,Sk r]
def aaw{B:Nat}{old:Hp}{f:Nat->Option Nat}:∀rs:List (List AV),fQ B f (lG B rs++old)=fQ B f old
 | []=>rfl
 | c::r=>by
  simp only[lG,ym];rw[fQ,sr (by lia),yR,aaw r]
def Sv{B n:Nat}{f:Nat->Option Nat}(hf:∀x,x<n->f x=FL x):∀{old:Hp},iB B n old->fQ B f old=old
 | [],_=>rfl
 | (id,o)::r,h=>by
  rw[fQ,qQ h.1,yx,alH hf h.2.1,Sv hf h.2.2]
def alI{B s x:Nat}(h:B+s<=x):jq x (wo B s)=yda:=by
 induction s generalizing B with
 | zero=>rfl
 | succ s ih=>rw[vQ,jq,gW (by lia),yR,ih (by lia)]
def SJ{hp:Hp}{B R:Nat}(zW:∀i,i<R->∃rw ex sz cs,ak hp (B+i)=FL (.cells rw ycZ ex sz cs)):
  ∀(W:List Nat) (bn s:Nat),W.length<bn->s<=R->W.filter (fun x=> !yO x B)=wo (B+s) (R-s)->reach hp B bn W (wo B s)=wo B R
 | [],0,s,hf,_,_=>by simp at hf
 | [],bn+1,s,hf,hs,h=>by
  have:R-s=0:=by
   grind
  rw[reach,show R=s by lia]
 | id::W,0,s,hf,_,_=>by simp at hf
 | id::W,bn+1,s,hf,hs,h=>by
  have nK:W.length<bn:=by simp_all
  rw[reach];by_cases hid:id<B
  .rw [qQ hid,Bool.true_or,yx];rw[ybx,qQ hid] at h;exact SJ zW W bn s nK hs (by simpa using h)
  .rw [ybx,sr (by lia)] at h;have hRs:R-s=(R-s-1)+1:=by
    have:=congrArg wb h
    grind
   rw[hRs,vQ] at h;injection h with h1 h2
   subst h1;rw[sr (by lia),vh,alI (yu _),yR];have⟨rw,ex,sz,cs,ho⟩:=zW s (by lia);simp only[ho,jI,yx,yG];have e:wo B s++[B+s]=wo B (s+1):=by rw[List.range'_concat];simp
   rw[e];exact SJ zW W bn (s+1) nK (by lia) (by rw[h2,show R-s-1=R-(s+1) by lia,show B+s+1=B+(s+1) by lia])
def alJ{B s i k:Nat}(h:i<s):gZ (B+i) (wo B s) k=FL (k+i):=by
 induction s generalizing B i k with
 | zero=>lia
 | succ s ih=>
  rw[vQ,gZ];by_cases hi:i=0
  .simp_all
  .rw [gW (by lia),yR]
   have:=ih (B:=B+1) (i:=i-1) (k:=k+1) (by lia)
   grind
def akW{B R x:Nat}(h:x<B+R):iD B (wo B R) x=FL x:=by
 unfold iD;by_cases hx:x<B
 .rw [qQ hx,yx]
 .rw [sr (by lia),yR]
  have:=alJ (B:=B) (s:=R) (i:=x-B) (k:=B) (by lia)
  grind
def aax{hp:Hp}{f:Nat->Option Nat}:∀(ro:List (List AV)) (B:Nat) (acc:Hp),(∀i (h:i<ro.length),ak hp (B+i)=FL (.cells ycZ ycZ ycZ 1 ro[i]))->eE hp f (wo B ro.length) B acc=Ew B ro acc
 | [],B,acc,_=>rfl
 | c::r,B,acc,h=>by
  have h0:=h 0 (by simp);simp only[y5,List.getElem_cons_zero] at h0;rw[yy,vQ,eE];simp only[h0,gI,yx,Ew]
  exact aax r (B+1) _ (fun i hi=>by
   have:=h (i+1) (by simpa using hi)
   rw[show B+1+i=B+(i+1) by lia,this]
   simp)
def akp{live:List Nat}{tm:Env}{B ct:Nat}{old:Hp}{rs:List (List AV)}(ht:sq B (bm tm live))(ho:iB B (B+rs.length) old)(hl:(dR (bm tm live)).length+(cQ B old).length<100000)(hr:(cQ B old).filter (fun x=> !yO x B)=wo B rs.length):bk live ⟨tm,lG B rs++old,ct,B⟩=⟨bm tm live,lG B rs++old,B+rs.length,B⟩:=by
 have zW:∀i (h:i<rs.length),ak (lG B rs++old) (B+i)=FL (.cells ycZ ycZ ycZ 1 (rs.reverse[i]'(by simpa using h))):=fun i h=>abn h
 have aeN:reach (lG B rs++old) B 100000 (dR (bm tm live)++cQ B (lG B rs++old)) []=wo B rs.length:=by
  have:=SJ (hp:=lG B rs++old) (B:=B) (R:=rs.length) (fun i hi=>⟨_,_,_,_,zW i hi⟩) (dR (bm tm live)++cQ B (lG B rs++old)) 100000 0 (by rw[Sk,yN];exact hl) (tq _) (by
   rw[List.filter_append,Sk,hr,yaI.2 (fun x hx=>by
    have:=Su ht x hx
    simp[qQ this])]
   simp)
  grind
 have hid:∀x,x<B+rs.length->iD B (wo B rs.length) x=FL x:=fun x hx=>akW hx
 have hn:=aax (hp:=lG B rs++old) (f:=iD B (wo B rs.length)) rs.reverse B old (fun i hi=>zW i (by simpa using hi));rw[yaZ] at hn;simp only[bk,aeN,aaw,Sv hid ho,hn,abm,List.length_range']
 rw[SI (n:=B) (fun x hx=>hid x (by lia)) ht]
def NG{B b n:Nat}(hb:b<=B):∀{H:Hp},iB b n H->∀x,x∈cQ B H->x<n
 | [],_,x,hx=>by simp[cQ] at hx
 | (id,o)::r,h,x,hx=>by
  rw[cQ,qQ (by have:=h.1;lia),yx,xJ] at hx
  exact hx.elim (akV h.2.1 x) (NG hb h.2.2 x)
def ZX{live:List Nat}{tm:Env}{B ct:Nat}{old:Hp}(ht:sq B (bm tm live))(ho:iB B B old)(hl:(dR (bm tm live)).length+(cQ B old).length<100000):
  bk live ⟨tm,old,ct,B⟩=⟨bm tm live,old,B,B⟩:=by
 have:=akp (rs:=[]) (ct:=ct) ht (by simpa using ho) hl (by
  rw[yaI.2 (fun x hx=>by have:=NG (yu B) ho x hx;simp[qQ this])]
  rfl)
 simpa[lG] using this
section
variable {hp:Hp}{ps:List Nat}{ct:Nat}
def Uo{n:Nat}{F:aA}(h:Has P L n F){aq:List AV}{ex:Ex}{s:St}{v:AV}(hD:D P L F.body ⟨fI 0 aq,hp,ct,ct⟩=FL (ex,s))(he:ex=.normal\/ex=.ret)(hr:jE s F.eA=FL v):
  jl P L (D P L) hp ct n aq=FL (v,s.hp,s.ct):=by
 simp only[jl,h.heap,h.code,hD]
 grind
def acm{l:Nat}{xs:List AV}{tm tm' jb pL:Env}{Ab BA:List Nat}{a b a1 b1 a2 b2:VC}{pe rI pe2:zM}{s1 s2:St}(h1:ak hp l=FL (.lp tm ps a b 0 pe))(h2:sn tm ps xs=FL tm')(h3:D P L a ⟨tm',hp,ct,ct⟩=FL (.normal,s1))(h4:ak s1.hp l=FL (.lp jb Ab a1 b1 0 rI))(h5:D P L b ⟨s1.tm,aW s1.hp l (.lp jb Ab a1 b1 1 rI),s1.ct,s1.ct⟩=FL (.normal,s2))(h6:ak s2.hp l=FL (.lp pL BA a2 b2 1 pe2)):
  lA (D P L) hp ct l xs=FL (.bool ycZ,aW s2.hp l (.lp pL BA a2 b2 0 .none),s2.ct):=by
 simp only[lA,h1,h2,h3,h4,h5,h6]
def axO{f:X}{as_ body:VC}{s:St}{n:Nat}{first cap:List AV}{v:AV}{tm:Env}{ps':List Nat}{a b:VC}{st:Nat}(h1:ay s.tm f=.fn (.f n) first cap)(h2:L.heap n=FM)(h3:jl P L (D P L) ((s.ct,.lp s.tm ps as_ body 0 .none)::s.hp) (s.ct+1) n (first++(.fn (.y s.ct) [] []::cap))=FL (v,hp,ct))(h4:ak hp s.ct=FL (.lp tm ps' a b st .none))(h5:st≠1):D P L (.rf f ps as_ body) s=FL (.normal,⟨s.tm,cT hp s.ct,ct,s.base⟩):=by
 rw[mh];simp only[bD,h1,h2,h3,h4,gW h5,yR]
mutual
def r5{n:Nat}:∀{v:AV},aX v=ycZ->below n v
 | .int _ _,_ | .bool _,_ | .av _ _,_ | .dl _ _ _,_ | .str _,_ | .kY,_ | .bN _,_ | .ah,_ | .au _ _ _,_ | .iG,_ | .jM,_ | .jN _ _,_ | .undef,_=>trivial
 | .c7 _ _ _ _,_=>trivial
 | .ptr _ _,h | .ax _ _ _,h | .map _,h | .it _,h=>by simp[aX] at h
 | .fn (.y _) _ _,h=>by simp[aX] at h
 | .fn (.f _) _ _,h=>by
  simp only[aX,yf] at h;exact⟨I8 h.1,I8 h.2⟩
 | .agg cs,h=>by simp only[aX] at h;simp only[below];exact I8 h
 | .aw cs,h=>by simp only[aX] at h;simp only[below];exact I8 h
def I8{n:Nat}:∀{vs:List AV},aG vs=ycZ->so n vs
 | [],_=>trivial
 | _::_,h=>by
  simp only[aG,yf] at h;exact⟨r5 h.1,I8 h.2⟩
end
end
section
variable {pre x post:List Nat}{i:Nat}
def qK:(pre++x++post).length=pre.length+x.length+post.length:=by grind
def DX(h:i<x.length):(pre++x++post).getD (pre.length+i) 0=x.getD i 0:=by grind
def OB(a:Nat)(h:i<x.length):(pre++x++post).set (pre.length+i) a=pre++x.set i a++post:=by simp_all
end
def nv(n:Nat)(k:xc)(a:Int):below n (.int k a)=True:=rfl
def oe(n id o k:Nat):below n (.ax id o k)=(id<n):=rfl
def nl(n:Nat):sq n []=True:=rfl
def nk(n i:Nat)(v:AV)(r:Env):sq n ((i,v)::r)=(below n v/\sq n r):=rfl
def sf{live:List Nat}{tm:Env}{ct:Nat}{a b:List AV}(ht:sq 2 (bm tm live))(hl:(dR (bm tm live)).length<100000):
  bk live ⟨tm,[(1,.cells ycZ ycZ ycZ 1 a),(0,.cells ycZ ycZ ycZ 1 b)],ct,2⟩=⟨bm tm live,[(1,.cells ycZ ycZ ycZ 1 a),(0,.cells ycZ ycZ ycZ 1 b)],2,2⟩:=
 ZX ht ⟨by lia,.inl rfl,by lia,.inl rfl,trivial⟩ (by
  have:cQ 2 [(1,Obj.cells ycZ ycZ ycZ 1 a),(0,Obj.cells ycZ ycZ ycZ 1 b)]=[]:=rfl
  rw[this,yJ,y5];exact hl)
def alK{x s c:Nat}(hs:s<64)(hx:x<2^64)(hc:c<2^s):
  c|||(x*2^s%2^64)<2^64/\c<2^64/\x/2^(64-s)<2^s/\(c|||(x*2^s%2^64))+2^64*(x/2^(64-s))=x*2^s+c:=by
 have e:2^64=2^(64-s)*2^s:=by rw[<-xD,show 64-s+s=64 by lia]
 have h1:x*2^s%2^64=(x%2^(64-s))*2^s:=by rw[e,ux]
 have h2:x/2^(64-s)<2^s:=by
  refine (xB (xg _)).2 ?_
  grind
 have h3:c|||(x*2^s%2^64)=(x%2^(64-s))*2^s+c:=by rw[h1,ycJ,UQ hc]
 have h4:(x%2^(64-s))*2^s+c<2^64:=by
  have:=yI (2^s) (show x%2^(64-s)+1<=2^(64-s) from xG _ (xg _))
  grind
 have h5:=uk x (2^(64-s))
 grind
def avb{v:AV}{w:List Nat}(hv:bP v w)(hw:lo (2^64) w)(lw:w.length<=99999999999){s n:Nat}(hs:s<64)(hn:n=w.length+1):
  cZ P L [1,5,12,13,14] Gq (fun k st=>∃(i:Nat) (out:List Nat),st=⟨[(1,aa s),(5,.ax 0 0 n),(12,v),(13,aa w.length),(14,aa i)],[(0,.cells ycZ ycZ ycZ 1 (out.map uc))],1,0⟩/\i+k=w.length/\out.length=n/\lo (2^64) out/\bv (2^64) out=bv (2^64) (w.take i)*2^s/\out.getD i 0<2^s/\(∀m,i<m->out.getD m 0=0)) (fun ex st'=>∃tm out,st'=⟨tm,[(0,.cells ycZ ycZ ycZ 1 (out.map uc))],1,0⟩/\ex=.exit 0/\aj tm 5=.ax 0 0 n/\out.length=n/\lo (2^64) out/\bv (2^64) out=bv (2^64) w*2^s):=by
 apply c6;rintro k st ⟨i,out,rfl,hk,hlen,bc,aO,hc,eU⟩;by_cases hi:i<w.length
 .left
  have gx:=iz (show 0<2^64 by decide) hw i;have ex:=hv.bq hi;have ec:=A9 (l:=out) (o:=i) (by lia);have aW:=oY (b:=2^64) (l:=out) (i:=i) (x:=out.getD i 0|||(w.getD i 0*2^s%2^64)) (by lia);have hz:out.getD (i+1) 0=0:=eU _ (by lia);have eZ:=kv (b:=2^64) (l:=w) i;generalize out.getD i 0=c at*
  generalize w.getD i 0=x at*
  have⟨s1,s2,s3,s4⟩:=alK hs gx hc;have o1:=Ly .i64 x (s:=s) (by lia);have o2:=Yu s2 (xG (x*2^s) (by decide));have o3:binOp .sub (.int .i64 64) (aa s)=FL (aa (64-s:Nat)):=by
   rw[Ow,wrap64 (by lia) (by lia)];congr 2;lia
  have o4:=Lz .i64 x (s:=64-s) (by lia);generalize kH:c|||(x*2^s%2^64)=c' at*
  by_cases h0:0<s
  .have Py:=oY (b:=2^64) (l:=out.set i c') (i:=i+1) (x:=x/2^(64-s)) (by simp;lia)
   rw[qH (by lia),hz,xC,y5] at Py;have azj:x/2^(64-s)<2^64:=wh (vI _ _) gx;generalize x/2^(64-s)=y at*
   simp only[go_sem,ya,yi,Gq,show (i:Int)<w.length by lia,ex,di 0 0 (show i<n by lia),yd,ec,o1,o2,lS (l:=out) (o:=i) (by lia),show (0:Int)<(s:Int) by lia,show (i:Int)+1=((i+1:Nat):Int) from rfl,wrapN (n:=i+1) (by lia),o3,o4,di 0 0 (show i+1<n by lia),lS (l:=out.set i c') (o:=i+1) (by simp;lia)]
   refine⟨_,k-1,rfl,by lia,i+1,(out.set i c').set (i+1) y,by simp only[go_sem,ya,yb,ap,az hv.pu]<;>rfl,by lia,by simp[hlen],nt (nt bc s1) azj,?_,by rw[alm (by simp;lia)];exact s3,fun m hm=>by rw[qH (by lia),qH (by lia)];exact eU m (by lia)⟩
   rw[eZ,xH,Py,<-aO,zT,xe,xe ((2^64)^i)];have e:=congrArg (fun t=>(2^64)^i*t) s4;simp only[xE] at e;generalize (2^64)^i*(2^64*y)=p1 at*
   generalize (2^64)^i*(x*2^s)=p2 at*
   generalize (2^64)^i*c'=p3 at*
   lia
  .have pM:s=0:=by lia
   subst pM;have mq:c=0:=by simpa using hc
   have mZ:x/2^(64-0)=0:=xW gx;rw[mZ,xC,y5,vP,yi] at s4
   simp only[go_sem,ya,yi,Gq,show (i:Int)<w.length by lia,ex,di 0 0 (show i<n by lia),yd,ec,o1,o2,lS (l:=out) (o:=i) (by lia),show ¬(0:Int)<((0:Nat):Int) by lia,show (i:Int)+1=((i+1:Nat):Int) from rfl,wrapN (n:=i+1) (by lia)];refine⟨_,k-1,rfl,by lia,i+1,out.set i c',by simp only[go_sem,ya,yb,ap,az hv.pu]<;>rfl,by lia,by simp[hlen],nt bc s1,?_,by rw[qH (by lia),hz];exact xg _,fun m hm=>by rw[qH (by lia)];exact eU m (by lia)⟩
   rw[vP,yi] at aO ⊢;rw[eZ,<-aO];rw[mq,xC,y5] at aW;rw[aW,s4,mq,y5]
 .right
  have:i=w.length:=by lia
  subst this;rw[xN] at aO;simp only[go_sem,ya,Gq,show ¬(w.length:Int)<w.length by lia];exact⟨_,_,rfl,by simp,_,out,rfl,rfl,rfl,hlen,bc,aO⟩
def agU(h:Has P L 168 P3){v:AV}{w:List Nat}(hv:bP v w)(hw:lo (2^64) w)(lw:w.length<=99999999999){s:Nat}(hs:s<64):
  ∃out,ab P L 168 [v,aa s] (.c7 ycZ 1 (w.length+1) (out.map uc))/\out.length=w.length+1/\lo (2^64) out/\bv (2^64) out=bv (2^64) w*2^s:=by
 obtain⟨n,hn⟩:∃n,n=w.length+1:=⟨_,rfl⟩;unfold ab;rw[aE h]
 simp only[go_sem,ya,yb,P3,hv.len,wrapN (n:=n) (by lia),show (w.length:Int)+1=((w.length+1:Nat):Int) from rfl,<-hn,EU (n:=n) _ (by lia)];generalize hq:D P L (.loop _ Gq) _=q;obtain⟨ex,st,rfl,tm,o,rfl,rfl,t5,hlen,bc,aO⟩:=bH hq (avb (P:=P) (L:=L) hv hw lw hs hn w.length)
  ⟨0,yF n 0,by simp only[go_sem,ya,yb,ap,az hv.pu]<;>rfl,by lia,by simp,GD (by decide) n,by rw[GF];simp[bv],by rw[DW];exact xg _,fun m _=>DW n m⟩
 refine⟨o,?_,hlen,bc,aO⟩;simp only[go_sem,yb,ap,t5];exact SH (ji _ _ _) (by simp[hlen]) (by decide)
abbrev H2(a b:List Nat):Hp:=[(1,.cells ycZ ycZ ycZ 1 (a.map uc)),(0,.cells ycZ ycZ ycZ 1 (b.map uc))]
structure iJ(x vs:List Nat)(n v1 v2 u0 u1 u2:Nat):Prop where
 n2:2<=n
 nb:n<=99999999999
 lx:x.length=n+1
 lv:vs.length=n
 gx:lo (2^64) x
 gv:lo (2^64) vs
 fb:vs.getD (n-1) 0=v1
 c9:vs.getD (n-2) 0=v2
 h0:x.getD n 0=u0
 h1:x.getD (n-1) 0=u1
 h2:x.getD (n-2) 0=u2
 pos:0<v1
 lt:bv (2^64) x<2^64*bv (2^64) vs
def axP(b p a v1 v2:Nat):a+p*v2+p*b*v1=(v1*b+v2)*p+a:=by grind
def axQ(b p a v0 v1 v2:Nat):a+p*v2+p*b*v1+p*b*b*v0=((v0*b+v1)*b+v2)*p+a:=by grind
section
variable {x vs:List Nat}{n v1 v2 u0 u1 u2:Nat}
def iJ.MK(h:iJ x vs n v1 v2 u0 u1 u2):v1<2^64:=h.fb▸iz (by decide) h.gv _
def iJ.Fm(h:iJ x vs n v1 v2 u0 u1 u2):v2<2^64:=h.c9▸iz (by decide) h.gv _
def iJ.ML(h:iJ x vs n v1 v2 u0 u1 u2):u1<2^64:=h.h1▸iz (by decide) h.gx _
def iJ.MM(h:iJ x vs n v1 v2 u0 u1 u2):u2<2^64:=h.h2▸iz (by decide) h.gx _
def iJ.parts(h:iJ x vs n v1 v2 u0 u1 u2):∃p vr ur,bv (2^64) vs=(v1*2^64+v2)*p+vr/\vr<p/\bv (2^64) x=((u0*2^64+u1)*2^64+u2)*p+ur/\ur<p:=by
 obtain⟨m,hm⟩:∃m,n=m+2:=⟨n-2,by have:=h.n2;lia⟩
 subst hm;have e1:=kv (b:=2^64) (l:=vs) (m+1);have e2:=kv (b:=2^64) (l:=vs) m;have f0:=kv (b:=2^64) (l:=x) (m+2);have f1:=kv (b:=2^64) (l:=x) (m+1);have f2:=kv (b:=2^64) (l:=x) m;have fb:vs.getD (m+1) 0=v1:=h.fb;have c9:vs.getD m 0=v2:=h.c9;have h0:x.getD (m+2) 0=u0:=h.h0;have h1:x.getD (m+1) 0=u1:=h.h1;have h2:x.getD m 0=u2:=h.h2
 rw[yK (by have:=h.lv;lia),fb,e2,c9] at e1
 rw[yK (by have:=h.lx;lia),h0,f1,h1,f2,h2] at f0
 have g1:=nB (Cm h.gv m)
 rw[yT,xF (by have:=h.lv;lia)] at g1
 have g2:=nB (Cm h.gx m)
 rw[yT,xF (by have:=h.lx;lia)] at g2
 refine⟨(2^64)^m,_,_,?_,g1,?_,g2⟩
 .grind
 .grind
def iJ.down(h:iJ x vs n v1 v2 u0 u1 u2){t r:Nat}(ht:t*v1+r=u0*2^64+u1)(hr:r*2^64+u2<t*v2):bv (2^64) x/bv (2^64) vs<=t-1:=by
 have⟨p,vr,ur,h1,h2,h3,h4⟩:=h.parts;exact aap h1 h3 h4 ht hr
def iJ.stop(h:iJ x vs n v1 v2 u0 u1 u2){t r:Nat}(lR:t<2^64)(ht:t*v1+r=u0*2^64+u1)(hr:2^64<=r\/t*v2<=r*2^64+u2):t<=bv (2^64) x/bv (2^64) vs+1:=by
 have⟨p,vr,ur,h1,h2,h3,h4⟩:=h.parts;exact abc (by decide) h1 h2 h3 h.pos h.Fm lR ht hr
def iJ.first(h:iJ x vs n v1 v2 u0 u1 u2):bv (2^64) x/bv (2^64) vs<=(u0*2^64+u1)/v1:=by
 have⟨p,vr,ur,h1,h2,h3,h4⟩:=h.parts;exact Ss h1 h3 h4 h.MM h.pos
def iJ.top(h:iJ x vs n v1 v2 u0 u1 u2):u0<=v1:=by
 have⟨p,vr,ur,h1,h2,h3,h4⟩:=h.parts;exact abd h1 h3 h2 h.Fm h.lt
def iJ.digit(h:iJ x vs n v1 v2 u0 u1 u2):bv (2^64) x/bv (2^64) vs<2^64:=by
 refine (xB ?_).2 h.lt;rcases xj (bv (2^64) vs) with h0 | h0
 .have:=h.lt;rw[h0] at this;simp at this
 .exact h0
end
def aed(nI:L.pure 143=FL zC)(ia:L.pure 171=FL oW){w:AV}{x vs pre post qs:List Nat}(hw:bP w vs){n v1 v2 u0 u1 u2:Nat}(hl:iJ x vs n v1 v2 u0 u1 u2):
  cZ P L [0,1,5,6,7,8] AZ (fun k s=>∃q r:Nat,s=⟨[(0,.ax 0 pre.length (n+1)),(1,w),(5,aa n),(6,uc q),(7,uc (r%2^64)),(8,uc (r/2^64))],H2 qs (pre++x++post),2,2⟩/\q*v1+r=u0*2^64+u1/\r<2*2^64/\q<2^64/\bv (2^64) x/bv (2^64) vs<=q/\q=k) (fun ex s'=>∃tm q,s'=⟨tm,H2 qs (pre++x++post),2,2⟩/\ex=.exit 0/\aj tm 0=.ax 0 pre.length (n+1)/\aj tm 1=w/\aj tm 5=aa n/\aj tm 6=uc q/\q<2^64/\bv (2^64) x/bv (2^64) vs<=q/\q<=bv (2^64) x/bv (2^64) vs+1):=by
 apply c6;rintro k s ⟨q,r,rfl,hq,hr,pX,hQ,rfl⟩;have dQ:=hl.n2;have rL:=hl.nb;by_cases jU:r<2^64
 .have HQ:r%2^64=r:=yS jU;have Dq:r/2^64=0:=xW jU;rw[HQ,Dq];have Hi:=hl.MK;have Wy:=hl.Fm;have agV:=hl.MM;have rO:=hw.bq (i:=n-2) (by have:=hl.lv;lia)
  have fe:=hw.bq (i:=n-1) (by have:=hl.lv;lia)
  rw[hl.c9] at rO;rw[hl.fb] at fe;have Aw:=A9 (l:=pre++x++post) (o:=pre.length+(n-2)) (by rw[qK];have:=hl.lx;lia)
  rw[DX (by have:=hl.lx;lia),hl.h2] at Aw
  have f1:=O0 (P:=P) (f:=D P L) nI pX Wy;have f2:=Eh (P:=P) (f:=D P L) ia (x:=r) (y:=v1) (c:=0) jU Hi (by lia);rw[show (uc 0)=AV.int .u64 0 from rfl] at f2;have eV:=xQ (q*v2) (2^64);have bc:=xG (q*v2) (show 0<2^64 by decide);obtain⟨H,hH⟩:∃H,H=q*v2/2^64:=⟨_,rfl⟩;obtain⟨G,hG⟩:∃G,G=q*v2%2^64:=⟨_,rfl⟩;rw[<-hH,<-hG] at f1 eV;rw[<-hG] at bc;have BN:(n:Int)-2=((n-2:Nat):Int):=by lia
  have rP:(n:Int)-1=((n-1:Nat):Int):=by lia
  by_cases c1:H<r
  .right
   simp only[go_sem,ya,AZ,H2,show ((0:Nat):Int)=0 from rfl,BN,wrapN (n:=n-2) (by lia),rO,f1,show (H:Int)<(r:Int) by lia];exact⟨_,_,rfl,by simp,_,q,rfl,rfl,rfl,rfl,rfl,rfl,pX,hQ,hl.stop pX hq (.inr (by lia))⟩
  .by_cases c2:H=r/\G<=u2
   .right
    have⟨c2,c3⟩:=c2
    simp only[go_sem,ya,AZ,H2,show ((0:Nat):Int)=0 from rfl,BN,wrapN (n:=n-2) (by lia),rO,f1,show (H:Int)=(r:Int) by lia];simp only[show ¬(r:Int)<(r:Int) by lia,yH]
    simp only[go_sem,ya,yi,BN,wrapN (n:=n-2) (by lia),di 0 pre.length (show n-2<n+1 by lia),Aw,show (G:Int)<=(u2:Int) by lia];exact⟨_,_,rfl,by simp,_,q,rfl,rfl,rfl,rfl,rfl,rfl,pX,hQ,hl.stop pX hq (.inr (by lia))⟩
   .left
    have Di:r*2^64+u2<q*v2:=by lia
    have BL:0<q:=by
     rcases xj q with h0 | h0
     .subst h0;lia
     .exact h0
    have e3:binOp .sub (uc q) (.int .u64 1)=FL (uc (q-1)):=EV (b:=1) (by lia) (by lia);have h1:(q-1)*v1+(r+v1)=u0*2^64+u1:=by
     obtain⟨p,rfl⟩:∃p,q=p+1:=⟨q-1,by lia⟩;rw[xH,uR] at hq;rw[uV];lia
    have Fo:=hl.down hq Di;rw[y5] at f2;by_cases c3:H=r
    .have c4:¬G<=u2:=fun h=>c2 ⟨c3,h⟩
     subst c3
     simp only[go_sem,ya,xq,yi,AZ,H2,show ((0:Nat):Int)=0 from rfl,BN,rP,wrapN (n:=n-2) (by lia),wrapN (n:=n-1) (by lia),rO,fe,f1,f2,show ¬(H:Int)<(H:Int) by lia,di 0 pre.length (show n-2<n+1 by lia),Aw,show ¬(G:Int)<=(u2:Int) by lia,e3];refine⟨_,q-1,rfl,by lia,q-1,H+v1,?_,h1,by lia,by lia,Fo,rfl⟩;rw[sf (by simp only[go_sem,ya,yz,nv,oe,nl,nk,r5 hw.pu,vS]) (by simp only[go_sem,ya,yb,yz,iw hw.pu])];simp only[go_sem,ya]
    .simp only [go_sem,ya,xq,AZ,H2,show ((0:Nat):Int)=0 from rfl,BN,rP,wrapN (n:=n-2) (by lia),wrapN (n:=n-1) (by lia),rO,fe,f1,f2,show ¬(H:Int)<(r:Int) by lia,show ¬(H:Int)=(r:Int) by lia,e3];refine⟨_,q-1,rfl,by lia,q-1,r+v1,?_,h1,by lia,by lia,Fo,rfl⟩;rw[sf (by simp only[go_sem,ya,yz,nv,oe,nl,nk,r5 hw.pu,vS]) (by simp only[go_sem,ya,yb,yz,iw hw.pu])];simp only[go_sem,ya]
 .right
  have Dq:r/2^64=1:=by lia
  rw[Dq];simp only[go_sem,ya,AZ,H2,show ((1:Nat):Int)=1 from rfl,yay];exact⟨_,_,rfl,by simp,_,q,rfl,rfl,rfl,rfl,rfl,rfl,pX,hQ,hl.stop pX hq (.inl (by lia))⟩
def ana{b p x y z lj c bo BO ca q v X Y:Nat}(h1:q*v+c=b*ca+lj)(h2:z+lj+bo=x+b*BO)(h3:Y+q*X=y+p*(c+bo))(W:Nat)(hW:W+p*x=Y+p*z):
  W+q*(X+p*v)=y+p*b*(ca+BO):=by grind
def anb{q v c:Nat}(hq:q<2^64)(hv:v<2^64)(hc:c<2^64):
  q*v+c=2^64*(q*v/2^64+(q*v%2^64+c+0)/2^64)+(q*v%2^64+c+0)%2^64/\
  q*v/2^64+(q*v%2^64+c+0)/2^64<2^64:=by
 have h:=xf (show q<=18446744073709551615 by lia) (show v<=18446744073709551615 by lia)
 grind
def avc(nI:L.pure 143=FL zC)(ia:L.pure 171=FL oW)(zU:L.pure 173=FL Cp){w:AV}{x vs pre post qs:List Nat}(hw:bP w vs){n:Nat}(rL:n<=99999999999)(lv:vs.length=n)(gv:lo (2^64) vs){q:Nat}(hq:q<2^64):
  cZ P L [0,1,5,6,11,12,104,105] J0 (fun k s=>∃(i c bo:Nat) (y:List Nat),s=⟨[(0,.ax 0 pre.length (n+1)),(1,w),(5,aa n),(6,uc q),(11,uc bo),(12,uc c),(104,aa n),(105,aa i)],H2 qs (pre++y++post),2,2⟩/\i+k=n/\y.length=n+1/\lo (2^64) y/\c<2^64/\bo<=1/\
    bv (2^64) y+q*bv (2^64) (vs.take i)=bv (2^64) x+(2^64)^i*(c+bo)) (fun ex s'=>∃tm c bo y,s'=⟨tm,H2 qs (pre++y++post),2,2⟩/\ex=.exit 2/\aj tm 0=.ax 0 pre.length (n+1)/\aj tm 1=w/\aj tm 5=aa n/\aj tm 6=uc q/\aj tm 11=uc bo/\aj tm 12=uc c/\y.length=n+1/\lo (2^64) y/\c<2^64/\bo<=1/\
    bv (2^64) y+q*bv (2^64) vs=bv (2^64) x+(2^64)^n*(c+bo)):=by
 apply c6;rintro k s ⟨i,c,bo,y,rfl,hk,ly,gy,hc,jY,aO⟩;by_cases hi:i<n
 .left
  have dC:(0:Nat)<2^64:=by decide
  have zd:=iz dC gv i;have rQ:=iz dC gy i;have ev:=hw.bq (i:=i) (by lia);have ey:=A9 (l:=pre++y++post) (o:=pre.length+i) (by rw[qK];lia)
  rw[DX (by lia)] at ey;have eZ:=kv (b:=2^64) (l:=vs) i;obtain⟨a,ha⟩:∃a,a=vs.getD i 0:=⟨_,rfl⟩;obtain⟨d,hd⟩:∃d,d=y.getD i 0:=⟨_,rfl⟩;rw[<-ha] at zd ev eZ;rw[<-hd] at rQ ey;have⟨m1,m2⟩:=anb hq zd hc;have f1:=O0 (P:=P) (f:=D P L) nI hq zd;have f2:=Eh (P:=P) (f:=D P L) ia (x:=q*a%2^64) (y:=c) (c:=0) (xG _ dC) hc (by lia);obtain⟨lj,agW⟩:∃t,t=(q*a%2^64+c+0)%2^64:=⟨_,rfl⟩;obtain⟨c1,eC⟩:∃t,t=(q*a%2^64+c+0)/2^64:=⟨_,rfl⟩;have agX:lj<2^64:=by rw[agW];exact xG _ dC
  rw[<-agW,<-eC] at f2 m1;rw[<-eC] at m2;obtain⟨h1,iN⟩:∃t,t=q*a/2^64:=⟨_,rfl⟩;rw[<-iN] at f1 m1 m2;rw[show (uc 0)=AV.int .u64 0 from rfl] at f2;have f3:=UP (P:=P) (f:=D P L) zU rQ agX jY;have mw:=TN rQ agX jY;obtain⟨z,hz⟩:∃t,t=(d+2^64*2-lj-bo)%2^64:=⟨_,rfl⟩;obtain⟨b',bG⟩:∃t,t=(if lj+bo<=d then 0 else 1):=⟨_,rfl⟩;have jf:b'<=1:=by rw[bG];split<;>lia
  have HP:z<2^64:=by rw[hz];exact xG _ dC
  rw[<-hz,<-bG] at f3 mw;have f4:binOp .add (uc h1) (uc c1)=FL (uc (h1+c1)):=by
   rw[CL,yS m2]
  have aW:=oY (b:=2^64) (l:=y) (i:=i) (x:=z) (by lia);rw[<-hd] at aW;have aM:=fun (hp:Hp) (ct:Nat)=>lS (hp:=hp) (ct:=ct) (id:=0) (v:=z) (ex:=ycZ) (l:=pre++y++post) (o:=pre.length+i) (by rw[qK];lia)
  have px:=OB (pre:=pre) (x:=y) (post:=post) (i:=i) z (by lia);simp only[go_sem,ya,yi,J0,H2,show (i:Int)<(n:Int) by lia,ev,f1,f2,f4,di 0 pre.length (show i<n+1 by lia),ey,f3,aM,px];refine⟨_,k-1,rfl,by lia,i+1,h1+c1,b',y.set i z,?_,by lia,by simp[ly],nt gy HP,m2,jf,?_⟩
  .rw [sf (by simp only[go_sem,ya,yz,nv,oe,nl,nk,r5 hw.pu,vS]) (by simp only[go_sem,ya,yb,yz,iw hw.pu])];rw[wrap64 (by lia) (by lia)];simp only[go_sem,ya]<;>rfl
  .rw [eZ,zT];exact ana m1 mw aO _ aW
 .right
  have:i=n:=by lia
  subst this;rw[yK (by lia)] at aO;simp only[go_sem,ya,J0,H2,show ¬(i:Int)<(i:Int) by lia];exact⟨_,_,rfl,by simp,_,c,bo,y,rfl,rfl,rfl,rfl,rfl,rfl,rfl,rfl,ly,gy,hc,jY,aO⟩
def avd(ia:L.pure 171=FL oW){w:AV}{y0 vs pre post qs:List Nat}(hw:bP w vs){n:Nat}(rL:n<=99999999999)(lv:vs.length=n)(gv:lo (2^64) vs){q:Nat}:
  cZ P L [0,1,5,6,17,156,157] J4 (fun k s=>∃(i c:Nat) (y:List Nat),s=⟨[(0,.ax 0 pre.length (n+1)),(1,w),(5,aa n),(6,uc q),(17,uc c),(156,aa n),(157,aa i)],H2 qs (pre++y++post),2,2⟩/\i+k=n/\y.length=n+1/\lo (2^64) y/\c<=1/\
    bv (2^64) y+(2^64)^i*c=bv (2^64) y0+bv (2^64) (vs.take i)) (fun ex s'=>∃tm c y,s'=⟨tm,H2 qs (pre++y++post),2,2⟩/\ex=.exit 4/\aj tm 0=.ax 0 pre.length (n+1)/\aj tm 5=aa n/\aj tm 6=uc q/\aj tm 17=uc c/\y.length=n+1/\lo (2^64) y/\c<=1/\
    bv (2^64) y+(2^64)^n*c=bv (2^64) y0+bv (2^64) vs):=by
 apply c6;rintro k s ⟨i,c,y,rfl,hk,ly,gy,hc,aO⟩;by_cases hi:i<n
 .left
  have dC:(0:Nat)<2^64:=by decide
  have zd:=iz dC gv i;have rQ:=iz dC gy i;have ev:=hw.bq (i:=i) (by lia);have ey:=A9 (l:=pre++y++post) (o:=pre.length+i) (by rw[qK];lia)
  rw[DX (by lia)] at ey;have eZ:=kv (b:=2^64) (l:=vs) i;obtain⟨a,ha⟩:∃a,a=vs.getD i 0:=⟨_,rfl⟩;obtain⟨d,hd⟩:∃d,d=y.getD i 0:=⟨_,rfl⟩;rw[<-ha] at zd ev eZ;rw[<-hd] at rQ ey;have f1:=Eh (P:=P) (f:=D P L) ia rQ zd hc;have aW:=oY (b:=2^64) (l:=y) (i:=i) (x:=(d+a+c)%2^64) (by lia);rw[<-hd] at aW;have jV:=NF ((2^64)^i) (2^64) (d+a+c);have kH:(d+a+c)/2^64<=1:=by lia
  have HP:(d+a+c)%2^64<2^64:=xG _ dC;generalize (d+a+c)%2^64=z at*
  generalize (d+a+c)/2^64=c' at*
  have aM:=fun (hp:Hp) (ct:Nat)=>lS (hp:=hp) (ct:=ct) (id:=0) (v:=z) (ex:=ycZ) (l:=pre++y++post) (o:=pre.length+i) (by rw[qK];lia)
  have px:=OB (pre:=pre) (x:=y) (post:=post) (i:=i) z (by lia);simp only[go_sem,ya,yi,J4,H2,show (i:Int)<(n:Int) by lia,ev,f1,di 0 pre.length (show i<n+1 by lia),ey,aM,px];refine⟨_,k-1,rfl,by lia,i+1,c',y.set i z,?_,by lia,by simp[ly],nt gy HP,kH,?_⟩
  .rw [sf (by simp only[go_sem,ya,yz,nv,oe,nl,nk,r5 hw.pu,vS]) (by simp only[go_sem,ya,yb,yz,iw hw.pu])];rw[wrap64 (by lia) (by lia)];simp only[go_sem,ya]<;>rfl
  .rw [eZ,zT];rw[xE,xE] at jV
   lia
 .right
  have:i=n:=by lia
  subst this;rw[yK (by lia)] at aO;simp only[go_sem,ya,J4,H2,show ¬(i:Int)<(i:Int) by lia];exact⟨_,_,rfl,by simp,_,c,y,rfl,rfl,rfl,rfl,rfl,rfl,ly,gy,hc,aO⟩
def step_end{A V q Y B bo:Nat}(hV:0<V)(h:Y+q*V=A+B*bo)(h1:A/V<=q)(h2:q<=A/V+1)(hY:Y<B)(hVB:V<=B)(jY:bo<=1):
  (bo=0->q=A/V/\Y=A%V)/\(bo=1->q=A/V+1/\Y+V=B+A%V):=by
 have eV:=xQ A V;have hm:=xG A hV;generalize A/V=Q at*
 have hq:q=Q\/q=Q+1:=by lia
 constructor
 .rintro rfl;rcases hq with rfl | rfl
  .grind
  .grind
 .grind
structure Wd(P:aF)(L:Lib):Prop where
 nI:L.pure 143=FL zC
 ia:L.pure 171=FL oW
 zU:L.pure 173=FL Cp
 LA:L.pure 167=FL GW
 agY:Has P L 165 K3
 nH:Has P L 166 CR
 agZ:Has P L 168 P3
 azk:Has P L 169 zP
 ag0:Has P L 158 G7
 azl:Has P L 157 K2
 ag1:Has P L 159 P1
 azm:Has P L 144 PZ
 Wz:Has P L 137 K0
def aD:VC->VC
 | .seq _ b=>b
 | c=>c
def ave(h:Wd P L){w:AV}{x vs pre post qs:List Nat}(hw:bP w vs){n v1 v2 u0 u1 u2:Nat}(hl:iJ x vs n v1 v2 u0 u1 u2){q:Nat}(hq:q<2^64)(fX:bv (2^64) x/bv (2^64) vs<=q)(Ax:q<=bv (2^64) x/bv (2^64) vs+1):
  ∃tm x',D P L (aD (aD (aD (aD (aD (aD zP.body)))))) ⟨[(0,.ax 0 pre.length (n+1)),(1,w),(5,aa n),(6,uc q)],H2 qs (pre++x++post),2,2⟩=FL (.ret,⟨tm,H2 qs (pre++x'++post),2,2⟩)/\aj tm 4=uc (bv (2^64) x/bv (2^64) vs)/\x'.length=n+1/\lo (2^64) x'/\bv (2^64) x'=bv (2^64) x%bv (2^64) vs:=by
 have dQ:=hl.n2;have rL:=hl.nb;have dC:(0:Nat)<2^64:=by decide
 have hV:0<bv (2^64) vs:=by
  rcases xj (bv (2^64) vs) with h0 | h0
  .have:=hl.lt;rw[h0] at this;simp at this
  .exact h0
 have Ay:below 2 w:=r5 hw.pu;have MN:=nB hl.gv;rw[hl.lv] at MN;have aEP:(2^64)^n<=(2^64)^(n+1):=y9 (by decide) (by lia);have aEQ:aD (aD (aD (aD (aD (aD zP.body)))))=aD (aD (aD (aD (aD (aD zP.body))))):=rfl;simp only[go_sem,ya,zP,aD,H2];generalize nQ:D P L (.loop _ J0) _=qq;obtain⟨ex,s,rfl,tm,c,bo,y,rfl,rfl,t0,t1,t5,t6,t11,t12,ly,gy,hc,jY,aO⟩:=bH nQ (avc (P:=P) (L:=L) h.nI h.ia h.zU hw rL hl.lv hl.gv hq (x:=x) (pre:=pre) (post:=post) (qs:=qs) n) ⟨0,0,0,x,by
  rw[sf (by simp only[go_sem,ya,yz,nv,oe,nl,nk,Ay,vS]) (by simp only[go_sem,ya,yb,yz,iw hw.pu])]
  simp only[go_sem,ya]<;>rfl,by lia,hl.lx,hl.gx,dC,by lia,by simp[bv]⟩
 have Yz:=iz dC gy n;have ey:=A9 (l:=pre++y++post) (o:=pre.length+n) (by rw[qK];lia)
 rw[DX (by lia)] at ey;obtain⟨d,hd⟩:∃d,d=y.getD n 0:=⟨_,rfl⟩;rw[<-hd] at Yz ey;have f3:=UP (P:=P) (f:=D P L) h.zU Yz hc jY;have mw:=TN Yz hc jY;obtain⟨z,hz⟩:∃t,t=(d+2^64*2-c-bo)%2^64:=⟨_,rfl⟩;obtain⟨b',bG⟩:∃t,t=(if c+bo<=d then 0 else 1):=⟨_,rfl⟩;have jf:b'<=1:=by rw[bG];split<;>lia
 have HP:z<2^64:=by rw[hz];exact xG _ dC
 rw[<-hz,<-bG] at f3 mw;have aW:=oY (b:=2^64) (l:=y) (i:=n) (x:=z) (by lia);rw[<-hd] at aW;have aM:=fun (hp:Hp) (ct:Nat)=>lS (hp:=hp) (ct:=ct) (id:=0) (v:=z) (ex:=ycZ) (l:=pre++y++post) (o:=pre.length+n) (by rw[qK];lia)
 have px:=OB (pre:=pre) (x:=y) (post:=post) (i:=n) z (by lia);have Fp:lo (2^64) (y.set n z):=nt gy HP;have Dr:(y.set n z).length=n+1:=by simp[ly]
 have hY:=nB Fp;rw[Dr] at hY;have azn:bv (2^64) (y.set n z)+q*bv (2^64) vs=bv (2^64) x+(2^64)^(n+1)*b':=by
  have e2:=congrArg (fun t=>(2^64)^n*t) mw;rw[zT,xe];simp only[xE] at e2 aO;generalize (2^64)^n*(2^64*b')=p1 at*
  generalize (2^64)^n*z=p2 at*
  generalize (2^64)^n*d=p3 at*
  generalize (2^64)^n*c=p4 at*
  generalize (2^64)^n*bo=p5 at*
  lia
 have⟨s0,s1⟩:=step_end hV azn fX Ax hY (by lia) jf;simp only[go_sem,ya,yb,yz,yi,sf,nv,oe,nl,nk,Ay,vS,iw hw.pu,t0,t1,t5,t6,t11,t12,di 0 pre.length (show n<n+1 by lia),ey,f3,aM,px];by_cases jX:b'=0
 .have ⟨e1,e2⟩:=s0 jX;simp only[go_sem,ya,show (b':Int)=0 by lia];exact⟨_,y.set n z,rfl,by rw[<-e1];simp only[go_sem],Dr,Fp,e2⟩
 .have ⟨e1,e2⟩:=s1 (by lia);simp only[go_sem,ya,show ¬(b':Int)=0 by lia];generalize EW:D P L (.loop _ J4) _=Yy;obtain⟨ex,s,rfl,pL,c2,y2,rfl,rfl,t0,t5,t6,t17,YA,RN,Ao,axR⟩:=bH EW (avd (P:=P) (L:=L) h.ia hw rL hl.lv hl.gv (y0:=y.set n z) (pre:=pre) (post:=post) (qs:=qs) (q:=q) n) ⟨0,0,y.set n z,by
   rw[sf (by simp only[go_sem,ya,yz,nv,oe,nl,nk,Ay,vS]) (by simp only[go_sem,ya,yb,yz,iw hw.pu])]
   simp only[go_sem,ya]<;>rfl,by lia,Dr,Fp,by lia,by simp[bv]⟩
  have azo:=iz dC RN n;have YB:=A9 (l:=pre++y2++post) (o:=pre.length+n) (by rw[qK];lia)
  rw[DX (by lia)] at YB;obtain⟨d2,fB⟩:∃d,d=y2.getD n 0:=⟨_,rfl⟩;rw[<-fB] at azo YB;have f4:=CL d2 c2;have Py:=oY (b:=2^64) (l:=y2) (i:=n) (x:=(d2+c2)%2^64) (by lia);rw[<-fB] at Py;have jV:=NF ((2^64)^n) (2^64) (d2+c2);have azp:(d2+c2)%2^64<2^64:=xG _ dC;have hc3:(d2+c2)/2^64<=1:=by lia
  generalize (d2+c2)%2^64=z2 at*
  generalize (d2+c2)/2^64=c3 at*
  have Hj:=fun (hp:Hp) (ct:Nat)=>lS (hp:=hp) (ct:=ct) (id:=0) (v:=z2) (ex:=ycZ) (l:=pre++y2++post) (o:=pre.length+n) (by rw[qK];lia)
  have Pz:=OB (pre:=pre) (x:=y2) (post:=post) (i:=n) z2 (by lia);have RO:lo (2^64) (y2.set n z2):=nt RN azp;have MO:(y2.set n z2).length=n+1:=by simp[YA]
  have hY3:=nB RO;rw[MO] at hY3;have BL:0<q:=by rw[e1];exact Nat.succ_pos _
  have hq3:bv (2^64) x/bv (2^64) vs=q-1:=by rw[e1,uV]
  have f5:binOp .sub (uc q) (.int .u64 1)=FL (uc (q-1)):=EV (b:=1) (by lia) (by lia);simp only[go_sem,ya,yb,yz,yi,sf,nv,oe,nl,nk,vS,t0,t5,t6,t17,di 0 pre.length (show n<n+1 by lia),YB,f4,Hj,Pz,f5];refine⟨_,y2.set n z2,rfl,by rw[hq3];simp only[go_sem],MO,RO,?_⟩;have e3:bv (2^64) (y2.set n z2)+(2^64)^(n+1)*c3=(2^64)^(n+1)+bv (2^64) x%bv (2^64) vs:=by
   rw[<-e2,<-axR,zT];rw[xE] at jV;omega
  rcases (show c3=0\/c3=1 by lia) with rfl | rfl
  .omega
  .lia
def azq(h:Wd P L){w:AV}{x vs pre post qs:List Nat}(hw:bP w vs){n v1 v2 u0 u1 u2:Nat}(hl:iJ x vs n v1 v2 u0 u1 u2):
  ∃x',jl P L (D P L) (H2 qs (pre++x++post)) 2 169 [.ax 0 pre.length (n+1),w]=FL (uc (bv (2^64) x/bv (2^64) vs),H2 qs (pre++x'++post),2)/\x'.length=n+1/\lo (2^64) x'/\bv (2^64) x'=bv (2^64) x%bv (2^64) vs:=by
 have dQ:=hl.n2;have rL:=hl.nb;have Ay:below 2 w:=r5 hw.pu;have rP:(n:Int)-1=((n-1:Nat):Int):=by lia
 have fe:=hw.bq (i:=n-1) (by have:=hl.lv;lia)
 rw[hl.fb] at fe;have Ds:=A9 (l:=pre++x++post) (o:=pre.length+n) (by rw[qK];have:=hl.lx;lia)
 rw[DX (by have:=hl.lx;lia),hl.h0] at Ds
 have Dt:=A9 (l:=pre++x++post) (o:=pre.length+(n-1)) (by rw[qK];have:=hl.lx;lia)
 rw[DX (by have:=hl.lx;lia),hl.h1] at Dt
 have Hi:=hl.MK;have QD:=hl.ML;have pC:=hl.top;have jQ:∃tm x',D P L zP.body ⟨fI 0 [.ax 0 pre.length (n+1),w],H2 qs (pre++x++post),2,2⟩=FL (.ret,⟨tm,H2 qs (pre++x'++post),2,2⟩)/\aj tm 4=uc (bv (2^64) x/bv (2^64) vs)/\x'.length=n+1/\lo (2^64) x'/\bv (2^64) x'=bv (2^64) x%bv (2^64) vs:=by
  have behind:∀(jb:Env) (q:Nat),aj jb 0=.ax 0 pre.length (n+1)->aj jb 1=w->aj jb 5=aa n->aj jb 6=uc q->q<2^64->bv (2^64) x/bv (2^64) vs<=q->q<=bv (2^64) x/bv (2^64) vs+1->
    ∃tm x',qW P L (qW P L (A6 0 (FL (Ex.exit 0,⟨jb,H2 qs (pre++x++post),2,2⟩))) (.kp [0,1,5,6])) (aD (aD (aD (aD (aD (aD zP.body))))))=FL (.ret,⟨tm,H2 qs (pre++x'++post),2,2⟩)/\aj tm 4=uc (bv (2^64) x/bv (2^64) vs)/\x'.length=n+1/\lo (2^64) x'/\bv (2^64) x'=bv (2^64) x%bv (2^64) vs:=by
   intro jb q t0 t1 t5 t6 g1 g2 g3;have hk:bm jb [0,1,5,6]=[(0,.ax 0 pre.length (n+1)),(1,w),(5,aa n),(6,uc q)]:=by simp only[go_sem,t0,t1,t5,t6]
   rw[adm,iS,agJ,sf (by rw[hk];simp only[go_sem,yz,nv,oe,nl,nk,Ay,vS]) (by rw[hk];simp only[go_sem,yb,yz,iw hw.pu]),iS,hk];exact ave h hw hl g1 g2 g3
  by_cases hc:u0<v1
  .have f1:=agT h.agY h.LA (P:=P) (L:=L) hc QD Hi;have eV:=xQ (u0*2^64+u1) v1;have oB:=xG (u0*2^64+u1) hl.pos;have pX:(u0*2^64+u1)/v1<2^64:=by
    refine (xB hl.pos).2 ?_
    have:=yI (2^64) (show u0+1<=v1 from hc)
    rw[xn (2^64) v1]
    lia
   have O1:=hl.first;rw[xn] at eV;generalize (u0*2^64+u1)/v1=q0 at*
   generalize (u0*2^64+u1)%v1=r0 at*
   simp only[go_sem,ya,yi,zP,H2,hw.len,hl.lv,rP,wrapN (n:=n-1) (by lia),fe,di 0 pre.length (show n<n+1 by lia),di 0 pre.length (show n-1<n+1 by lia),Ds,Dt,show ¬(v1:Int)<=(u0:Int) by lia,f1];generalize nQ:D P L (.loop _ AZ) _=qq;obtain⟨ex,s,rfl,jb,q,rfl,rfl,t0,t1,t5,t6,g1,g2,g3⟩:=bH nQ (aed (P:=P) (L:=L) h.nI h.ia hw hl (pre:=pre) (post:=post) (qs:=qs) q0) ⟨q0,r0,by
    rw[sf (by simp only[go_sem,ya,yz,nv,oe,nl,nk,Ay,vS]) (by simp only[go_sem,ya,yb,yz,iw hw.pu])];rw[yS (show r0<2^64 by lia),xW (show r0<2^64 by lia)]
    simp only[go_sem,ya]<;>rfl,eV,by lia,pX,O1,rfl⟩
   exact behind jb q t0 t1 t5 t6 g1 g2 g3
  .have sZ:u0=v1:=by lia
   have f1:=Eh (P:=P) (f:=D P L) h.ia QD Hi (c:=0) (by lia);rw[y5,show (uc 0)=AV.int .u64 0 from rfl] at f1;have QE:=hl.digit
   simp only[go_sem,ya,yi,zP,H2,hw.len,hl.lv,rP,wrapN (n:=n-1) (by lia),fe,di 0 pre.length (show n<n+1 by lia),di 0 pre.length (show n-1<n+1 by lia),Ds,Dt,show (v1:Int)<=(u0:Int) by lia,f1];generalize nQ:D P L (.loop _ AZ) _=qq;obtain⟨ex,s,rfl,jb,q,rfl,rfl,t0,t1,t5,t6,g1,g2,g3⟩:=bH nQ (aed (P:=P) (L:=L) h.nI h.ia hw hl (pre:=pre) (post:=post) (qs:=qs) 18446744073709551615) ⟨18446744073709551615,u1+v1,by
    rw[sf (by simp only[go_sem,ya,yz,nv,oe,nl,nk,Ay,vS]) (by simp only[go_sem,ya,yb,yz,iw hw.pu])]
    simp only[go_sem,ya]<;>rfl,by rw[sZ];lia,by lia,by decide,by lia,rfl⟩
   exact behind jb q t0 t1 t5 t6 g1 g2 g3
 have⟨tm,x',g1,g2,g3,g4,g5⟩:=jQ;refine⟨x',?_,g3,g4,g5⟩;exact Uo h.azk g1 (.inr rfl) (by show jE _ [RV.t 4]=_;rw[Wr,Vx,g2])
def WN(v:AV)(m:Nat):Prop:=∃l,bP v l/\lo (2^64) l/\ig l/\bv (2^64) l=m
def apj(i:Nat)(q:List Nat)(x:Nat):(yF (i+1) 0++q).set i x=yF i 0++x::q:=by
 rw[List.replicate_succ',xy]
 simp_all
def OC{b:Nat}{l:List Nat}{i:Nat}(h:i<l.length):bv b (l.drop i)=l.getD i 0+b*bv b (l.drop (i+1)):=by
 rw[yZ h,gd h];rfl
def UR{v w:AV}{x y:List Nat}(hv:bP v x)(hw:bP w y)(hp:Hp):result hp (.aw [v,w])=FL (.aw [v,w]):=by
 rcases hv with ⟨rfl,_⟩ | ⟨e,rfl⟩<;>rcases hw with ⟨rfl,_⟩ | ⟨e',rfl⟩<;>rfl
def arB{hp:Hp}{id n l h:Nat}{pu ex:Bool}{cs:List AV}{tm:Env}{x y:X}(hg:ak hp id=FL (.cells ycZ pu ex 1 cs))(hx:cV tm 0 (FL x)=FL l)(hy:cV tm n (FL y)=FL h)(h1:l<h)(h2:h<=n):
  fJ hp (.sl 1) (.ax id 0 n) tm (FL x) (FL y)=FL (.ax id l (h-l)):=by
 simp only[fJ,hg,hx,hy,yB (uP h1),yB h2,wO,wL,yx,gW (Nat.ne_of_lt h1),wU,yR,yd,yi]
def acn{hp:Hp}{id n h:Nat}{pu ex:Bool}{cs:List AV}{tm:Env}{y:X}(hg:ak hp id=FL (.cells ycZ pu ex 1 cs))(hy:cV tm n (FL y)=FL h)(h1:0<h)(h2:h<=n):
  fJ hp (.sl 1) (.ax id 0 n) tm FM (FL y)=FL (.ax id 0 h):=by
 have hx:cV tm 0 FM=FL 0:=rfl;simp only[fJ,hg,hx,hy,yB (tq h),yB h2,wO,wL,yx,gW (show (0:Nat)≠h by lia),wU,yR,wq,y5,ycu]
def afG(P:aF)(L:Lib)(f:cl)(hp:Hp)(ct n:Nat)(xs:List AV):eQ P L f hp ct .heap (.fn (.f n) [] []) xs=jl P L f hp ct n xs:=by
 simp only[eQ,yG,xT]
def avf(h:Wd P L){v w:AV}{x:List Nat}(hv:bP v x)(hx:lo (2^64) x)(lx:x.length<=99999999999){d:Nat}(hw:bP w [d])(ij:0<d)(YC:d<2^64){n:Nat}(hn:n=x.length):
  cZ P L [0,1,6,7,8] JW (fun k s=>∃(i r:Nat) (q:List Nat),s=⟨[(0,v),(1,w),(6,.ax 0 0 n),(7,uc r),(8,aa ((i:Int)-1))],[(0,.cells ycZ ycZ ycZ 1 ((yF i 0++q).map uc))],1,0⟩/\i=k/\i+q.length=n/\lo (2^64) q/\r<d/\bv (2^64) (x.drop i)=bv (2^64) q*d+r) (fun ex s'=>∃tm r q,s'=⟨tm,[(0,.cells ycZ ycZ ycZ 1 (q.map uc))],1,0⟩/\ex=.exit 0/\aj tm 6=.ax 0 0 n/\aj tm 7=uc r/\q.length=n/\lo (2^64) q/\r<d/\bv (2^64) x=bv (2^64) q*d+r):=by
 apply c6;rintro k s ⟨i,r,q,rfl,rfl,hlen,bc,hr,aO⟩
 cases i with
 | zero=>
  right
  simp only[go_sem,ya,JW,show ¬(0:Int)<=((0:Nat):Int)-1 by lia];exact⟨_,_,rfl,by simp,_,r,q,rfl,rfl,rfl,rfl,by lia,bc,hr,by simpa using aO⟩
 | succ i=>
  left
  have gx:=iz (show 0<2^64 by decide) hx i;have e1:=hv.bq (i:=i) (by lia);have e2:=hw.bq (i:=0) (by simp);have jW:=OC (b:=2^64) (l:=x) (i:=i) (by lia);rw[show ([d]:List Nat).getD 0 0=d from rfl] at e2;generalize x.getD i 0=a at*
  have e3:=agT (P:=P) (L:=L) h.agY h.LA hr gx YC;have eV:=xQ (r*2^64+a) d;have oB:=xG (r*2^64+a) ij;have pX:(r*2^64+a)/d<2^64:=by
   refine (xB ij).2 ?_
   lia
  generalize (r*2^64+a)/d=q1 at*
  generalize (r*2^64+a)%d=r1 at*
  have aM:=fun (hp:Hp) (ct:Nat)=>lS (hp:=hp) (ct:=ct) (id:=0) (v:=q1) (ex:=ycZ) (l:=yF (i+1) 0++q) (o:=i) (by simp;lia)
  simp only[go_sem,ya,yi,JW,show ((i+1:Nat):Int)-1=(i:Int) by lia,show (0:Int)<=(i:Int) by lia,e1,e2,e3,di 0 0 (show i<n by lia),yd,aM,apj];refine⟨_,i,rfl,by lia,i,r1,q1::q,?_,rfl,by simp;lia,NR.2 ⟨GC.2 pX,bc⟩,oB,?_⟩
  .rw [wrap64 (by lia) (by lia)];simp only[go_sem,ya,yb,ap,az hv.pu,az hw.pu]<;>rfl
  .rw [jW,aO];simp only[bv];rw[xH,xE,<-xe (2^64)];rw[xn d q1] at eV
   lia
def anc{s u u1:Nat}(hs:s<64)(hu:u<2^64):u/2^s<2^64/\(0<s->u/2^s|||(u1*2^(64-s)%2^64)<2^64)/\
  (if 0<s then (u/2^s|||(u1*2^(64-s)%2^64)) else u/2^s)*2^s+u%2^s=u+2^64*(u1%2^s):=by
 have e:2^64=2^s*2^(64-s):=by rw[<-xD,show s+(64-s)=64 by lia]
 have h1:u1*2^(64-s)%2^64=(u1%2^s)*2^(64-s):=by rw[e,ux]
 have hp:=xg s;have h2:u/2^s<2^(64-s):=by
  refine (xB hp).2 ?_
  grind
 have h3:u/2^s|||(u1*2^(64-s)%2^64)=(u1%2^s)*2^(64-s)+u/2^s:=by rw[h1,ycJ,UQ h2]
 have h4:(u1%2^s)*2^(64-s)+u/2^s<2^64:=by
  have:=yI (2^(64-s)) (show u1%2^s+1<=2^s from xG _ hp)
  grind
 have h5:=uk u (2^s)
 grind
def avg{us qs:List Nat}{n la m s:Nat}(hs:s<64)(lu:us.length=la)(gu:lo (2^64) us)(hn:n<la)(MP:la<=100000000000):
  cZ P L [9,11,12,13,96,97] Gm (fun k st=>∃(i:Nat) (rs:List Nat),st=⟨[(9,aa s),(11,.ax 0 0 la),(12,aa n),(13,.ax 1 0 m),(96,aa n),(97,aa i)],H2 qs (rs++us.drop i),2,0⟩/\i+k=n/\rs.length=i/\lo (2^64) rs/\bv (2^64) rs*2^s+us.getD 0 0%2^s=bv (2^64) (us.take i)+(2^64)^i*(us.getD i 0%2^s)) (fun ex st'=>∃tm rs,st'=⟨tm,H2 qs (rs++us.drop n),2,0⟩/\ex=.exit 4/\aj tm 11=.ax 0 0 la/\aj tm 12=aa n/\aj tm 13=.ax 1 0 m/\rs.length=n/\lo (2^64) rs/\bv (2^64) rs*2^s+us.getD 0 0%2^s=bv (2^64) (us.take n)+(2^64)^n*(us.getD n 0%2^s)):=by
 apply c6;rintro k st ⟨i,rs,rfl,hk,lr,gr,aO⟩;by_cases hi:i<n
 .left
  have dC:(0:Nat)<2^64:=by decide
  have g0:=iz dC gu i;have g1:=iz dC gu (i+1);have d0:us.drop i=us.getD i 0::us.getD (i+1) 0::us.drop (i+2):=by
   rw[yZ (show i<us.length by lia),yZ (show i+1<us.length by lia),gd,gd]
  have eZ:=kv (b:=2^64) (l:=us) i;have jO:∀r,r<2^64->r*2^s+us.getD i 0%2^s=us.getD i 0+2^64*(us.getD (i+1) 0%2^s)->lo (2^64) (rs++[r])/\bv (2^64) (rs++[r])*2^s+us.getD 0 0%2^s=bv (2^64) (us.take (i+1))+(2^64)^(i+1)*(us.getD (i+1) 0%2^s):=fun r h1 h2=>by
   refine⟨NR.2 ⟨gr,GC.2 h1⟩,?_⟩;rw[zp,Ct,lr,eZ,xH,zT,xe,xe];have e2:=congrArg (fun t=>(2^64)^i*t) h2;simp only[xE] at e2;generalize (2^64)^i*(r*2^s)=p1 at*
   generalize (2^64)^i*(us.getD i 0%2^s)=p2 at*
   generalize (2^64)^i*us.getD i 0=p3 at*
   generalize (2^64)^i*(2^64*(us.getD (i+1) 0%2^s))=p4 at*
   lia
  have WA:us.drop (i+1)=us.getD (i+1) 0::us.drop (i+2):=by
   rw[yZ (show i+1<us.length by lia),gd]
  generalize us.getD i 0=a at*
  obtain⟨c,hc⟩:∃c,c=us.getD (i+1) 0:=⟨_,rfl⟩;rw[<-hc] at g1 d0 WA jO;generalize us.drop (i+2)=dr at*
  rw[d0];have⟨n1,n2,n3⟩:=anc (u1:=c) hs g0;have o1:=Lz .i64 a (s:=s) (by lia);have o2:=Ly .i64 c (s:=64-s) (by lia);have o3:binOp .sub (.int .i64 64) (aa s)=FL (aa (64-s:Nat)):=by
   rw[Ow,wrap64 (by lia) (by lia)];congr 2;lia
  have o4:=Yu n1 (xG (c*2^(64-s)) dC);have sa:∀z y,(rs++z::y).set i a=rs++a::y:=fun z y=>by rw[yaM _ _ (by lia),lr];simp
  have e0:∀z y,um i ((rs++z::y).map uc)=uc z::y.map uc:=fun z y=>by
   rw[xb,tv (by simp[lr])];rfl
  have e1:∀z y u,um (i+1) ((rs++z::y::u).map uc)=uc y::u.map uc:=fun z y u=>by
   rw[show rs++z::y::u=(rs++[z])++y::u by simp,xb,tv (by simp[lr])];rfl
  have sX:∀(hp:Hp) (ct x z:Nat) (y:List Nat),fy hp ct 0 i 1 [.int .u64 (x:Int)] (FL (.cells ycZ ycZ ycZ 1 ((rs++z::y).map uc)))=FL (.aw [],aW hp 0 (.cells ycZ ycZ ycZ 1 ((rs++x::y).map uc)),ct):=fun hp ct x z y=>by
   rw[lS (by simp;lia),yaM _ _ (by lia),lr];simp
  by_cases h0:0<s
  .rw [yD h0] at n3;have⟨f1,f2⟩:=jO _ (n2 h0) n3;generalize a/2^s=a1 at*
   generalize a1|||(c*2^(64-s)%2^64)=r at*
   simp only[go_sem,ya,yi,Gm,H2,show (i:Int)<(n:Int) by lia,di 0 0 (show i<la by lia),yd,e0,o1,sX,show (0:Int)<(s:Int) by lia,show (i:Int)+1=((i+1:Nat):Int) from rfl,wrapN (n:=i+1) (by lia),show ((i+1:Nat):Int)<(la:Int) by lia,di 0 0 (show i+1<la by lia),e1,o3,o2,o4];refine⟨_,k-1,rfl,by lia,i+1,rs++[r],by simp only[go_sem,ya,yb,ap];rw[WA];simp,by lia,by simp[lr],f1,by rw[<-hc];exact f2⟩
  .rw [yt h0] at n3;have⟨f1,f2⟩:=jO _ n1 n3;generalize a/2^s=a1 at*
   simp only[go_sem,ya,yi,Gm,H2,show (i:Int)<(n:Int) by lia,di 0 0 (show i<la by lia),yd,e0,o1,sX,show ¬(0:Int)<(s:Int) by lia,show (i:Int)+1=((i+1:Nat):Int) from rfl,wrapN (n:=i+1) (by lia)];refine⟨_,k-1,rfl,by lia,i+1,rs++[a1],by simp only[go_sem,ya,yb,ap];rw[WA];simp,by lia,by simp[lr],f1,by rw[<-hc];exact f2⟩
 .right
  have:i=n:=by lia
  subst this;simp only[go_sem,ya,Gm,H2,show ¬(i:Int)<(i:Int) by lia];exact⟨_,_,rfl,by simp,_,rs,rfl,rfl,rfl,rfl,rfl,lr,gr,aO⟩
section
variable {v w:AV}{l x:List Nat}
def abo{b p A V bu bq0 U0 pre:Nat}(h1:bu=pre+p*A)(h2:bu+bq0*V=U0):(pre+p*(A%V))+(bq0+p*(A/V))*V=U0:=by
 have eV:=xQ A V
 grind
def axS(hp:Hp)(ct:Nat)(ex:Bool)(sz n:Nat)(cs:List AV):own hp ct (.c7 ex sz n cs)=(.ax ct 0 n,(ct,.cells ycZ ycZ ex sz cs)::hp,ct+1):=rfl
def avh(h:Wd P L){vs:List Nat}(hw:bP w vs)(gv:lo (2^64) vs){n la m:Nat}(lv:vs.length=n)(dQ:2<=n)(Mm:n<=la)(MP:la<=99999999999)(hm:m=la-n+1)(fb:0<vs.getD (n-1) 0){s U0:Nat}:
  cZ P L [9,10,11,12,13,14] JX (fun k st=>∃(j:Nat) (us qs:List Nat),st=⟨[(9,aa s),(10,w),(11,.ax 0 0 (la+1)),(12,aa n),(13,.ax 1 0 m),(14,aa ((j:Int)-1))],H2 qs us,2,0⟩/\j=k/\j<=m/\us.length=la+1/\qs.length=m/\lo (2^64) us/\lo (2^64) qs/\(∀i,i<j->qs.getD i 0=0)/\
    bv (2^64) us+bv (2^64) qs*bv (2^64) vs=U0/\bv (2^64) (us.drop j)<bv (2^64) vs) (fun ex st'=>∃tm us qs,st'=⟨tm,H2 qs us,2,0⟩/\ex=.exit 2/\aj tm 9=aa s/\aj tm 11=.ax 0 0 (la+1)/\aj tm 12=aa n/\aj tm 13=.ax 1 0 m/\us.length=la+1/\qs.length=m/\lo (2^64) us/\lo (2^64) qs/\
    bv (2^64) us+bv (2^64) qs*bv (2^64) vs=U0/\bv (2^64) us<bv (2^64) vs):=by
 apply c6;rintro k st ⟨j,us,qs,rfl,rfl,hj,lu,lq,gu,gq,hz,aO,pC⟩
 cases j with
 | zero=>
  right
  simp only[go_sem,ya,JX,H2,show ¬(0:Int)<=((0:Nat):Int)-1 by lia];exact⟨_,_,rfl,by simp,_,us,qs,rfl,rfl,rfl,rfl,rfl,rfl,lu,lq,gu,gq,aO,by simpa using pC⟩
 | succ j=>
  left
  have dC:(0:Nat)<2^64:=by decide
  obtain⟨pre,eM⟩:∃p,p=us.take j:=⟨_,rfl⟩;obtain⟨x,hx⟩:∃p,p=(us.drop j).take (n+1):=⟨_,rfl⟩;obtain⟨post,fR⟩:∃p,p=us.drop (j+(n+1)):=⟨_,rfl⟩;have lp:pre.length=j:=by rw[eM,yT];lia
  have lx:x.length=n+1:=by rw[hx,yT,xY];lia
  have lD:us=pre++x++post:=by
   rw[eM,hx,fR,<-vO,xy,we,we]
  have gx:lo (2^64) x:=by rw[hx];exact Cm (adj gu _) _
  have WB:lo (2^64) pre:=by rw[eM];exact Cm gu _
  have axT:lo (2^64) post:=by rw[fR];exact adj gu _
  have hA:bv (2^64) (us.drop j)=us.getD j 0+2^64*bv (2^64) (us.drop (j+1)):=OC (by lia);have hgj:=iz dC gu j;have YD:us.drop j=x++post:=by rw[fR,hx,<-vO,we]
  have BP:bv (2^64) (us.drop j)=bv (2^64) x+(2^64)^(n+1)*bv (2^64) post:=by rw[YD,zp,lx]
  have MN:=nB gv;rw[lv] at MN;have aH:bv (2^64) (us.drop j)<2^64*bv (2^64) vs:=by lia
  have hp0:bv (2^64) post=0:=by
   rcases xj (bv (2^64) post) with e | e
   .exact e
   .have h1:=yW ((2^64)^(n+1)) e;rw[yi,zT] at h1;rw[zT] at BP
    lia
  rw[hp0,xC,y5] at BP;have hl:iJ x vs n (vs.getD (n-1) 0) (vs.getD (n-2) 0) (x.getD n 0) (x.getD (n-1) 0) (x.getD (n-2) 0):=
   ⟨dQ,by lia,lx,lv,gx,gv,rfl,rfl,rfl,rfl,rfl,fb,by rw[<-BP];exact aH⟩
  have QE:=hl.digit;have⟨x',e1,YE,RP,MQ⟩:=azq h hw hl (pre:=pre) (post:=post) (qs:=qs);rw[lp,<-lD] at e1;have YF:bv (2^64) us=bv (2^64) pre+(2^64)^j*bv (2^64) x:=by
   have:=Js (b:=2^64) us j (by lia)
   rw[BP,<-eM] at this;exact this
  have WC:bv (2^64) (pre++x'++post)=bv (2^64) pre+(2^64)^j*bv (2^64) x':=by
   rw[xy,zp,zp,hp0,xC,y5,lp]
  have aW:=oY (b:=2^64) (l:=qs) (i:=j) (x:=bv (2^64) x/bv (2^64) vs) (by lia);rw[hz j (by lia),xC,y5] at aW;have jO:=abo (b:=0) YF aO;have aM:=fun (hp:Hp) (ct:Nat)=>lS (hp:=hp) (ct:=ct) (id:=1) (v:=bv (2^64) x/bv (2^64) vs) (ex:=ycZ) (l:=qs) (o:=j) (by lia)
  have zc:0<bv (2^64) vs:=by lia
  have oB:=xG (bv (2^64) x) zc;have mR:∀tm (x y:X),cV tm 0 (FL x)=FL j->cV tm (la+1) (FL y)=FL (j+n+1)->fJ (H2 qs us) (.sl 1) (.ax 0 0 (la+1)) tm (FL x) (FL y)=FL (.ax 0 j (n+1)):=fun tm x y h1 h2=>by
   rw[arB (cs:=us.map uc) (pu:=ycZ) (ex:=ycZ) rfl h1 h2 (by lia) (by lia),show j+n+1-j=n+1 by lia]
  simp only[go_sem,ya,yi,JX,H2,show ((j+1:Nat):Int)-1=(j:Int) by lia,show (0:Int)<=(j:Int) by lia,show (j:Int)+(n:Int)=((j+n:Nat):Int) from rfl,wrapN (n:=j+n) (by lia),show ((j+n:Nat):Int)+1=((j+n+1:Nat):Int) from rfl,wrapN (n:=j+n+1) (by lia),mR,dM,afG,e1,di 1 0 (show j<m by lia),yd,aM];refine⟨_,j,rfl,by lia,j,pre++x'++post,qs.set j (bv (2^64) x/bv (2^64) vs),?_,rfl,by lia,by rw[qK,lp,YE,fR,xY];lia,by simp[lq],NR.2 ⟨NR.2 ⟨WB,RP⟩,axT⟩,nt gq QE,fun i hi=>by rw[qH (by lia)];exact hz i (by lia),?_,?_⟩
  .rw [wrap64 (by lia) (by lia)];simp only[go_sem,ya,yb,ap,az hw.pu]<;>rfl
  .rw [WC,MQ,aW];exact jO
  .rw [xy,tv lp,zp,hp0,xC,y5,MQ];exact oB
def axU{n:Nat}(h:l.length=n+1):(2^64)^n*l.getD n 0<=bv (2^64) l:=by
 have:=kv (b:=2^64) (l:=l) n
 grind
def pD{m K:Nat}(hn:ig l)(hv:bv (2^64) l=m)(h:m<(2^64)^K):l.length<=K:=amz (b:=2^64) (by decide) hn (by rw[hv];exact h)
def avi(h:Wd P L){d:Nat}(hv:bP v x)(hw:bP w [d])(gx:lo (2^64) x)(lx:x.length<=90000000000)(ij:0<d)(YC:d<2^64)(ec:ab P L 158 [v,w] (aa (dU (bv (2^64) x) d)))(hc:d<=bv (2^64) x):
  ∃q r,ab P L 137 [v,w] (.aw [q,r])/\WN q (bv (2^64) x/d)/\WN r (bv (2^64) x%d):=by
 have eC:¬dU (bv (2^64) x) d<0:=by unfold dU;rw[yt (by lia)];split<;>decide
 obtain⟨n,hn⟩:∃n,n=x.length:=⟨_,rfl⟩;have main:∃r l,(∀c:Nat->AV->AV->Option AV,True)/\r<d/\l.length=n/\lo (2^64) l/\bv (2^64) x=bv (2^64) l*d+r/\
   ∃q1 r1,bP q1 (dZ l)/\bP r1 (dZ [r])/\ab P L 137 [v,w] (.aw [q1,r1]):=by
  unfold ab;rw[aE h.Wz]
  simp only[go_sem,ya,K0,hv.len,hv.ai,hw.len,hw.ai,ec,eC,yy,yJ,yd,show ((1:Nat):Int)=(1:Int) from rfl,<-hn,EU (n:=n) _ (by lia)];generalize hq:D P L (.loop _ JW) _=q;obtain⟨ex,s,rfl,tm,r,l,rfl,rfl,t6,t7,An,bc,hr,aO⟩:=bH hq (avf (P:=P) (L:=L) h hv gx (by lia) hw ij YC hn n) ⟨n,0,[],by
   rw[wrap64 (by lia) (by lia),xT]
   simp only[go_sem,ya,yb,ap,az hv.pu,az hw.pu]<;>rfl,rfl,rfl,OX,ij,by rw[xa (by lia)];simp[bv]⟩
  have hf:=n7 ycZ l;rw[An] at hf;have⟨q1,e1,fX⟩:=C0 h.nH hf (by lia);have⟨r1,e2,ej⟩:=C0 h.nH (n7 ycZ [r]) (by simp);simp only[yy,yJ,yd,y7,List.map_nil] at e2;refine⟨r,l,fun _=>trivial,hr,An,bc,aO,q1,r1,fX,ej,?_⟩
  simp only[go_sem,ya,yb,yz,yk,yi,ap,t6,t7,CZ _ (n:=n) (l:=l) An ycZ,e1,fX.shut,e2,ej.shut];exact UR fX ej _
 have⟨r,l,_,hr,An,bc,aO,q1,r1,fX,ej,e⟩:=main;have hq:bv (2^64) l=bv (2^64) x/d:=by
  rw[aO,xn,tY ij,xW hr,y5]
 have hm:r=bv (2^64) x%d:=by
  rw[aO,xn,tZ,yS hr]
 exact⟨q1,r1,e,⟨_,fX,Ch bc,Cg _,by rw[Cf,hq]⟩,⟨_,ej,Ch (GC.2 (by lia)),Cg _,by rw[Cf,Ct,hm]⟩⟩
def avj(h:Wd P L){y:List Nat}(hv:bP v x)(hw:bP w y)(gx:lo (2^64) x)(gy:lo (2^64) y)(nx:ig x)(ny:ig y)(lx:x.length<=90000000000)(ly:2<=y.length)(ec:ab P L 158 [v,w] (aa (dU (bv (2^64) x) (bv (2^64) y))))(hc:bv (2^64) y<=bv (2^64) x):
  ∃q r,ab P L 137 [v,w] (.aw [q,r])/\WN q (bv (2^64) x/bv (2^64) y)/\WN r (bv (2^64) x%bv (2^64) y):=by
 have dC:(0:Nat)<2^64:=by decide
 have eC:¬dU (bv (2^64) x) (bv (2^64) y)<0:=by unfold dU;rw[yt (by lia)];split<;>decide
 have hyx:y.length<=x.length:=by
  by_cases hh:x.length<y.length
  .have:=Ov (b:=2^64) (by decide) gx ny hh;lia
  .lia
 obtain⟨n,hn⟩:∃n,n=y.length:=⟨_,rfl⟩;obtain⟨la,MP⟩:∃la,la=x.length:=⟨_,rfl⟩;have qY:=N6 ny (fun e=>by subst e;simp at ly);have Fq:=iz dC gy (y.length-1);have YG:=hw.bq (i:=y.length-1) (by lia);have je:=axU (l:=y) (n:=n-1) (by lia);rw[<-hn] at qY Fq YG;obtain⟨top,pC⟩:∃top,y.getD (n-1) 0=top:=⟨_,rfl⟩;rw[pC] at qY Fq YG je;have elz:=aeb (P:=P) (f:=D P L) h.LA Fq;have⟨z1,z2,z3⟩:=TO (yat qY) Fq;generalize 64-eN 64 top=s at*
 have⟨ov,ev,lov,gov,vov⟩:=agU h.agZ hw gy (by lia) z1;have⟨ou,eu,lou,gou,vou⟩:=agU h.agZ hv gx (by lia) z1;have⟨v',YH,eS⟩:=C0 h.nH (n7 ycZ ov) (by lia);rw[lov,<-hn] at YH;rw[<-hn] at ev;rw[<-MP] at eu lou;have jV:=xg s;obtain⟨vs,BD⟩:∃vs,vs=dZ ov:=⟨_,rfl⟩;rw[<-BD] at eS;have Fs:lo (2^64) vs:=by rw[BD];exact Ch gov
 have MR:ig vs:=by rw[BD];exact Cg _
 have Az:bv (2^64) vs=bv (2^64) y*2^s:=by rw[BD,Cf,vov]
 have hyW:bv (2^64) y*2^s<(2^64)^n:=by
  have e:2^64=2^(64-s)*2^s:=by rw[<-xD,show 64-s+s=64 by lia]
  have e1:=kv (b:=2^64) (l:=y) (n-1);rw[show n-1+1=n by lia,yK (by lia),pC] at e1;have e2:=nB (Cm gy (n-1));rw[yT,xF (by lia)] at e2;have e3:top<2^(64-s):=uW (a:=2^s) (Nat.lt_of_lt_of_eq z3 e);have e4:=yI (2^s) (show top+1<=2^(64-s) from e3);rw[<-e] at e4;have e5:bv (2^64) y<(2^64)^(n-1)*(top+1):=by rw[xE,yi];lia
  have e6:=xZ e5 jV;rw[xe] at e6;have e7:=yW ((2^64)^(n-1)) e4;rw[<-zT,show n-1+1=n by lia] at e7;exact yP e6 e7
 have azr:(2^64)^(n-1)*2^s<=bv (2^64) vs:=by
  rw[Az];refine yI _ (xi ?_ je)
  have:=yW ((2^64)^(n-1)) (show 1<=top by lia)
  lia
 have BQ:vs.length=n:=by
  have h1:vs.length<=n:=by
   refine pD MR Az ?_;exact hyW
  have h2:¬vs.length<n:=fun hh=>by
   have e1:=nB Fs;have e2:(2^64)^vs.length<=(2^64)^(n-1):=y9 dC (by lia);have e3:=yI (2^s) je;rw[xe,<-Az] at e3;have e4:=yW ((2^64)^(n-1)) (show 1<=top*2^s by lia)
   lia
  lia
 have fb:0<vs.getD (n-1) 0:=by
  have:=N6 MR (fun e=>by rw[e] at BQ;simp at BQ;lia)
  rw[BQ] at this;exact yat this
 obtain⟨m,hm⟩:∃m,m=la-n+1:=⟨_,rfl⟩;have VA:bv (2^64) (ou.drop m)<bv (2^64) vs:=by
  have e1:=Js (b:=2^64) ou m (by lia);have e2:=nB gx;rw[<-MP] at e2;have e3:=xZ e2 jV;rw[<-vou] at e3;have e4:(2^64)^la=(2^64)^m*(2^64)^(n-1):=by rw[<-xD];congr 1;lia
  rw[e4,xe] at e3;have e5:(2^64)^m*bv (2^64) (ou.drop m)<(2^64)^m*((2^64)^(n-1)*2^s):=by lia
  exact yP (Nat.lt_of_mul_lt_mul_left e5) azr
 have e1y:(y.length:Int)-1=((n-1:Nat):Int):=by lia
 have azs:((la:Nat):Int)-(n:Int)=((m-1:Nat):Int):=by lia
 have jQ:∃tm us qs rs,(us.length=la+1/\qs.length=m/\lo (2^64) us/\lo (2^64) qs/\bv (2^64) us+bv (2^64) qs*bv (2^64) vs=bv (2^64) x*2^s/\bv (2^64) us<bv (2^64) vs/\
   rs.length=n/\lo (2^64) rs/\bv (2^64) rs*2^s+us.getD 0 0%2^s=bv (2^64) (us.take n)+(2^64)^n*(us.getD n 0%2^s))/\aj tm 0=v/\
   ∃q1 r1,bP q1 (dZ qs)/\bP r1 (dZ rs)/\ab P L 137 [v,w] (.aw [q1,r1]):=by
  unfold ab at ec ev eu YH;unfold ab;rw[aE h.Wz];have hfo:=CZ (n:=n+1) (l:=ov) (hp:=[]) (by lia) ycZ
  simp only[go_sem,ya,yb,K0,hv.len,hv.ai,hw.len,hw.ai,ec,eC,show ¬(y.length:Int)=1 by lia,e1y,wrapN (n:=n-1) (by lia),YG,elz,ev,axS,CZ _ (n:=n+1) (l:=ov) (by lia) ycZ,YH,eS.len,eS.shut,eu,BQ,<-MP,azs,wrapN (n:=m-1) (by lia),show ((m-1:Nat):Int)+1=(m:Int) by lia,wrapN (n:=m) (by lia),EU (n:=m) _ (by lia)];generalize nQ:D P L (.loop _ JX) _=qq;obtain⟨ex,st,rfl,tm,us,qs,rfl,rfl,t9,t11,t12,t13,RQ,RR,HR,YI,aO,aH⟩:=bH nQ (avh (P:=P) (L:=L) h eS Fs BQ (by lia) (by lia) (by lia) hm fb (s:=s) (U0:=bv (2^64) x*2^s) m) ⟨m,ou,yF m 0,by
   rw[show ((m-1:Nat):Int)=(m:Int)-1 by lia]
   simp only[go_sem,ya,yb,ap,az eS.pu]<;>rfl,rfl,yu _,lou,by simp,gou,GD dC m,fun i _=>DW m i,by rw[GF,wq,y5,vou],VA⟩
  simp only[go_sem,ya,yb,ap,t9,t11,t12,t13];generalize EW:D P L (.loop _ Gm) _=Yy;obtain⟨ex,st,rfl,pL,rs,rfl,rfl,t11,t12,t13,YJ,YK,QF⟩:=bH EW (avg (P:=P) (L:=L) (qs:=qs) (m:=m) (la:=la+1) (n:=n) z1 RQ HR (by lia) (by lia) n) ⟨0,[],by simp only[go_sem,ya,yb,ap]<;>rfl,by lia,rfl,OX,by simp[bv]⟩
  have mR:∀(hp:Hp) tm (y:X),ak hp 0=FL (.cells ycZ ycZ ycZ 1 ((rs++us.drop n).map uc))->cV tm (la+1) (FL y)=FL n->fJ hp (.sl 1) (.ax 0 0 (la+1)) tm FM (FL y)=FL (.ax 0 0 n):=fun hp tm y h1 h2=>acn h1 h2 (by lia) (by lia)
  have MS:=n7 ycZ qs;rw[RR] at MS;have⟨q1,f1,fX⟩:=C0 h.nH MS (by lia);have eZ:(rs++us.drop n).take n=rs:=by rw[List.take_append_of_le_length (by lia),yK (by lia)]
  have MT:∃e,∀hp:Hp,mQ 0 n (FL (ycZ,1,(rs++us.drop n).map uc,hp))=FL (.au e n (rs.map uc),hp):=by
   refine⟨ycZ&&yO 0 1&&yq n ((rs++us.drop n).map uc).length,fun hp=>?_⟩;simp only[mQ,yd,yi,slice,ye,<-yau,eZ];rw[yB (by simp;lia)]
   rfl
  have⟨e,MT⟩:=MT;have iL:=n7 e rs;rw[YJ] at iL;have⟨r1,f2,ej⟩:=C0 h.nH iL (by lia);unfold ab at f1 f2;refine⟨[(0,v)],us,qs,rs,⟨RQ,RR,HR,YI,aO,aH,YJ,YK,QF⟩,rfl,q1,r1,fX,ej,?_⟩
  simp only[go_sem,ya,yb,ap,t11,t12,t13,CZ _ (n:=m) (l:=qs) RR ycZ,f1,fX.shut,mR,dM,MT,f2,ej.shut];exact UR fX ej _
 have⟨tm,us,qs,rs,⟨RQ,RR,HR,YI,aO,aH,YJ,YK,QF⟩,_,q1,r1,fX,ej,e⟩:=jQ;have fV:0<bv (2^64) y:=by
  have:=yW ((2^64)^(n-1)) (show 1<=top by lia)
  have:=ybM (n:=n-1) dC
  lia
 rw[Az] at aO aH;have LB:bv (2^64) qs=bv (2^64) x/bv (2^64) y:=by
  rw[<-tI _ _ jV,<-aO,ybK,xn,tY (vt fV jV),xW aH,y5]
 have RS:bv (2^64) us=(bv (2^64) x%bv (2^64) y)*2^s:=by
  rw[<-ux,<-aO,ybK,xn (bv _ qs),tZ,yS aH]
 have lD:=Js (b:=2^64) us n (by lia);have ij:bv (2^64) (us.drop n)=0:=by
  rcases xj (bv (2^64) (us.drop n)) with h0 | h0
  .exact h0
  .have:=yW ((2^64)^n) h0
   lia
 have hun:us.getD n 0=0:=by
  have:=OC (b:=2^64) (l:=us) (i:=n) (by lia)
  lia
 rw[ij,xC,y5] at lD;have Dp:us.getD 0 0%2^s=0:=by
  have e1:=OC (b:=2^64) (l:=us) (i:=0) (by lia);rw[ye,RS] at e1;have e2:2^64=2^s*2^(64-s):=by rw[<-xD,show s+(64-s)=64 by lia]
  have e3:(us.getD 0 0+2^64*bv (2^64) (us.drop (0+1)))%2^s=us.getD 0 0%2^s:=by
   conv=>lhs;rw[e2,xe]
   exact Nat.add_mul_mod_self_left _ _ _
  rw[<-e3,<-e1,Nat.mul_mod_left]
 rw[hun,Dp,Nat.zero_mod,xC,y5,y5,<-lD,RS] at QF;have afH:bv (2^64) rs=bv (2^64) x%bv (2^64) y:=Nat.eq_of_mul_eq_mul_right jV QF;exact⟨q1,r1,e,⟨_,fX,Ch YI,Cg _,by rw[Cf,LB]⟩,⟨_,ej,Ch YK,Cg _,by rw[Cf,afH]⟩⟩
def ag2(h:Wd P L){a b K:Nat}(hv:WN v a)(hw:WN w b)(hb:0<b)(ha:a<(2^64)^K)(hbK:b<(2^64)^K)(hK:K<=90000000000):
  ∃q r,ab P L 137 [v,w] (.aw [q,r])/\WN q (a/b)/\WN r (a%b):=by
 have⟨x,HS,gx,nx,vx⟩:=hv;have⟨y,RU,gy,ny,vy⟩:=hw;have lx:x.length<=90000000000:=xi (pD nx vx ha) hK;have ly:y.length<=90000000000:=xi (pD ny vy hbK) hK;have ec:=agP h.ag0 HS RU gx gy nx ny (by lia) (by lia);subst vx;subst vy;by_cases hc:bv (2^64) x<bv (2^64) y
 .have eC:dU (bv (2^64) x) (bv (2^64) y)= -1:=by unfold dU;rw[yD hc]
  rw[eC] at ec;refine⟨.ah,v,?_,⟨[],zu,OX,rfl,by rw[xW hc];rfl⟩,⟨x,HS,gx,nx,by rw[yS hc]⟩⟩
  unfold ab;rw[aE h.Wz];simp only[go_sem,ya,K0,HS.ai,RU.ai,ec,show (-1:Int)<0 by decide];exact UR zu HS _
 .rcases (show y.length=0\/y.length=1\/2<=y.length by lia) with h0 | h1 | h2
  .rw [yL h0] at hb;simp[bv] at hb
  .obtain ⟨d,rfl⟩:∃d,y=[d]:=by
    cases y with
    | nil=>simp at h1
    | cons d r=>cases r with
     | nil=>exact⟨d,rfl⟩
     | cons e r=>simp at h1
   exact avi h HS RU gx lx hb (GC.1 gy) ec (by lia)
  .exact avj h HS RU gx gy nx ny lx h2 ec (by lia)
end
def lk(v:AV)(n:Int):Prop:=∃w l,v=.agg [.bool (decide (n<0)),w]/\bi w l/\dg l/\nz l/\dv l=n.natAbs
def kA{l:List Int}{k:Nat}(hd:dg l)(hn:nz l)(h:dv l<1000000000^k):l.length<=k:=by
 by_cases h0:l=[]
 .grind
 .have h1:=Pr hn hd h0;have h2:1000000000^(l.length-1)<1000000000^k:=wh h1 h;have h3:=(uh (show 1<1000000000 by decide)).1 h2
  lia
def gj{hp:Hp}{ct id:Nat}{a b x y:AV}(h1:er a=ycZ)(h2:er b=ycZ)(p1:aX a=ycZ)(p2:aX b=ycZ):
  fy hp ct id 0 2 [a,b] (FL (.cells ycZ ycZ ycZ 2 [x,y]))=FL (.aw [],aW hp id (.cells ycZ ycZ ycZ 2 [a,b]),ct):=by
 rw[A7 (by rfl) (by simp) (by simp[cd,h1,h2])];simp[aG,p1,p2,over]
def cx(neg:Bool)(m:Nat):Int:=if neg=ycZ then -(m:Int) else m
def sD(h:Has P L 294 CT)(cN:Has P L 300 mP)(neg:Bool){v:AV}{l:List Int}(hv:bi v l)(hd:dg l)(hl:l.length<=20000000000):
  ∃r,ab P L 294 [.bool neg,v] r/\lk r (cx neg (dv l)):=by
 have⟨w,e1,hw,jZ⟩:=CY cN hv hl;have pY:=AP l;have Du:=F9 l;have oI:=Ce hd;have hc:(neg&&decide ((0:Int)<((dY l).length:Nat)))=decide (cx neg (dv l)<0):=by
  unfold cx
  cases neg with
  | false=>simp
  | true=>
   simp only[wS,xA];by_cases h0:dY l=[]
   .rw [h0] at pY ⊢;simp only[dv] at pY;simp[<-pY]
   .have h1:0<(dY l).length:=tg.2 h0;have h2:0<dv l:=by
     rw[<-pY];rcases xj (dv (dY l)) with h | h
     .exact absurd (adh Du oI h) h0
     .exact h
    rw[y8 (by lia),y8 (by lia)]
 refine⟨.agg [.bool (decide (cx neg (dv l)<0)),w],?_,w,dY l,rfl,hw,oI,Du,?_⟩
 .rw [<-hc];unfold ab at e1 ⊢;rw[aE h]
  cases neg with
  | false=>
   simp only[go_sem,ya,yb,yk,CT,aQ,hv.ai,e1,hw.pu,hw.shut,hw.one,hw.cells,gj];rcases hw with ⟨rfl,_⟩ | ⟨e,rfl⟩<;>rfl
  | true=>
   simp only[go_sem,ya,yb,yk,CT,aQ,hv.ai,e1,hw.len,hw.pu,hw.shut,hw.one,hw.cells,gj];rcases hw with ⟨rfl,_⟩ | ⟨e,rfl⟩<;>rfl
 .rw [pY];unfold cx;split<;>lia
def ag3(h:Has P L 298 Qf)(jw:Has P L 294 CT)(cN:Has P L 300 mP){v:AV}{n:Int}{K:Nat}(hK:K<=20000000000)(hv:lk v n)(hn:n.natAbs<1000000000^K):∃r,ab P L 298 [v] r/\lk r (-n):=by
 obtain⟨w,l,rfl,hw,hd,hz,pY⟩:=hv;have⟨r,e1,hr⟩:=sD jw cN (!decide (n<0)) hw hd (xi (kA hd hz (by rw[pY];exact hn)) hK)
 have e:cx (!decide (n<0)) (dv l)= -n:=by
  rw[pY];unfold cx;by_cases h0:n<0
  .simp [h0];lia
  .simp [h0];lia
 rw[e] at hr;obtain⟨w2,l2,rfl,iQ,fB,lc,Br⟩:=hr;refine⟨_,?_,w2,l2,rfl,iQ,fB,lc,Br⟩;unfold ab at e1 ⊢;rw[aE h];simp only[go_sem,ya,yb,Qf,aQ,hw.pu,hw.ai,hw.one,iQ.pu,iQ.one,aT,yd,df,e1,gj,bz];rcases iQ with ⟨rfl,_⟩ | ⟨e,rfl⟩<;>rfl
section
variable {w:AV}{a b z:Int}{k m:Nat}
def dD(s:Int)(w:AV)(z:Int):Prop:=
 (w=.ah/\s=z/\-9223372036854775808<=z/\z<9223372036854775808)\/
 (∃e l,w=.au e l.length (l.map uc)/\lo (2^64) l/\ig l/\bv (2^64) l=z.natAbs/\s=(if z<0 then -1 else 1)/\9223372036854775808<=z.natAbs)
def cD(v:AV)(z:Int):Prop:=∃s w,v=.agg [aa s,w]/\dD s w z
def Bd(k:Nat)(z:Int):Prop:=z.natAbs<2^k
def Cu(k:Nat):2^k<=(2^64)^k:=Nat.pow_le_pow_left (by decide) k
def Bd.mono(h:Bd k z)(hk:k<=m):Bd m z:=yP h (y9 (by decide) hk)
def Bd.neg(h:Bd k z):Bd k (-z):=by unfold Bd at h ⊢;rwa[Int.natAbs_neg]
def Bd.add(ha:Bd k a)(hb:Bd m b):Bd (max k m+1) (a+b):=by
 have h1:Bd (max k m) a:=ha.mono (by lia);have h2:Bd (max k m) b:=hb.mono (by lia);unfold Bd at h1 h2 ⊢
 grind
def Bd.mul(ha:Bd k a)(hb:Bd m b):Bd (k+m) (a*b):=by
 unfold Bd at*
 rw[Int.natAbs_mul,xD];exact Nat.mul_lt_mul'' ha hb
def Bd.le(hb:Bd k b)(h:a.natAbs<=b.natAbs):Bd k a:=wh h hb
def WN.pos{v:AV}(h:WN v m)(h0:0<m):∃e l,v=.au e l.length (l.map uc)/\l≠[]/\lo (2^64) l/\ig l/\bv (2^64) l=m:=by
 have⟨l,hv,g,n,hb⟩:=h;have hl:l≠[]:=fun e=>by subst e;simp[bv] at hb;lia
 rcases hv with ⟨_,e⟩ | ⟨e,rfl⟩
 .simp_all
 .exact ⟨e,l,by simp,hl,g,n,hb⟩
def WN.aK{v:AV}(h:WN v m):∃l,bP v l/\lo (2^64) l/\ig l/\bv (2^64) l=m:=h
def oZ(e:Bool)(n:Nat)(cs:List AV):jr .sl (.au e n cs) .ah=FL yda:=rfl
def iE:jr .sl .ah .ah=FL ycZ:=rfl
def OD(hp:Hp)(ct id:Nat)(a:Int)(e:Bool)(n:Nat)(cs:List AV)(x y:AV):fy hp ct id 0 2 [.int .i64 a,.au e n cs] (FL (.cells ycZ ycZ ycZ 2 [x,y]))=FL (.aw [],aW hp id (.cells ycZ ycZ ycZ 2 [.int .i64 a,.au e n cs]),ct):=gj rfl rfl rfl rfl
def zx{tm:Env}{a x y:AV}{r:List (Nat×Nat×X)}(h:er a=ycZ):fS tm [x,y] 0 1 [a] r=fill tm [a,y] r:=mE (by simp) h
def dD.qv(h1: -9223372036854775808<=z)(h2:z<9223372036854775808):cD (.agg [aa z,.ah]) z:=⟨z,.ah,rfl,.inl ⟨rfl,rfl,h1,h2⟩⟩
def dD.bX{s:Int}(h:dD s w z):(s<0↔z<0)/\(s=0↔z=0)/\-9223372036854775808<=s/\s<9223372036854775808:=by
 rcases h with ⟨_,rfl,h1,h2⟩ | ⟨e,l,_,_,_,_,rfl,h1⟩
 .grind
 .grind
structure Nu(P:aF)(L:Lib):Prop extends Wd P L where
 azt:Has P L 117 PW
 azu:Has P L 142 PY
 WD:Has P L 136 KZ
 LC:Has P L 145 Bl
 azv:Has P L 146 Wa
 WE:Has P L 147 K1
 ag4:Has P L 163 P2
 azw:Has P L 118 EJ
 ag5:Has P L 119 c119
 azx:Has P L 156 Wc
 QG:Has P L 100 nE
 WG:Has P L 164 nF
 azy:Has P L 148 Wb
 azz:Has P L 130 V9
def EX(h:Nu P L)(h1: -9223372036854775808<=z)(h2:z<9223372036854775808):ab P L 117 [aa z] (.agg [aa z,.ah])/\cD (.agg [aa z,.ah]) z:=⟨n117 h.azt z,dD.qv h1 h2⟩
def WH(h:Nu P L){n:Int}(h1: -9223372036854775808<=n)(h2:n<9223372036854775808):ab P L 142 [aa n] (uc n.natAbs):=by
 unfold ab;rw[aE h.azu];by_cases h0:n<0
 .have e:IntKind.wrap .u64 (IntKind.wrap .i64 (0-n))=(n.natAbs:Int):=by
   by_cases hm:n= -9223372036854775808
   .subst hm;rfl
   .rw [wrap64 (by lia) (by lia),Px];lia
  simp only[go_sem,ya,PY,h0,ad9,e]
 .have e:IntKind.wrap .u64 n=(n.natAbs:Int):=by rw[Px];lia
  simp only[go_sem,ya,PY,h0,ad9,e]
def Bs(h:Nu P L){s:Int}(hz:dD s w z):∃r,ab P L 136 [.agg [aa s,w]] (.aw [.bool (decide (z<0)),r])/\WN (cg r) z.natAbs:=by
 rcases hz with ⟨rfl,rfl,h1,h2⟩ | ⟨e,l,rfl,g,n,hb,hs,h1⟩
 .by_cases h0:s=0
  .subst h0;refine⟨.ah,?_,[],zu,OX,rfl,rfl⟩;unfold ab;rw[aE h.WD];simp only[go_sem,ya,yb,KZ,aQ,aT,yd,df,iE,Kv,Int.reduceLT];rfl
  .have e1:=WH h h1 h2;refine⟨.c7 ycZ 1 1 [uc s.natAbs],?_,[s.natAbs],n7 ycZ [s.natAbs],GC.2 (by lia),FQ (by lia) [],Ct _⟩;unfold ab;rw[aE h.WD];simp only[go_sem,ya,yb,yk,yi,KZ,aQ,aT,yd,df,iE,Kv,h0,e1];rfl
 .have pM:decide (s<0)=decide (z<0):=by rw[hs];split<;>simp<;>lia
  refine⟨.au e l.length (l.map uc),?_,l,n7 e l,g,n,hb⟩;unfold ab;rw[aE h.WD];simp only[go_sem,ya,yb,KZ,aQ,aT,yd,df,oZ,Kv,pM];rfl
def abp{d:Nat}(h:d<=9223372036854775807):IntKind.wrap .i64 (d:Int)=d:=wrapN (by lia)
def EY(h:Nu P L)(neg:Bool){K:Nat}(hw:WN w m)(hm:m<(2^64)^K)(hK:K<=90000000000):∃r,ab P L 145 [.bool neg,w] r/\cD r (cx neg m):=by
 have⟨l,hu,g,n,hb⟩:=hw;have An:l.length<=90000000000:=xi (pD n hb hm) hK;by_cases h0:l=[]
 .subst h0
  have:m=0:=by rw[<-hb];rfl
  subst this;have e:cx neg 0=0:=by unfold cx;cases neg<;>rfl
  rw[e];refine⟨.agg [aa 0,.ah],?_,dD.qv (by decide) (by decide)⟩;unfold ab;rw[aE h.LC];simp only[go_sem,ya,yb,Bl,aQ,hu.len,yJ,show (((0:Nat):Nat):Int)=0 from rfl,zF];rfl
 .have lL:0<l.length:=tg.2 h0;by_cases h1:l.length=1/\l.getD 0 0<=9223372036854775807
  .have ⟨h1,h2⟩:=h1;obtain⟨d,rfl⟩:∃d,l=[d]:=by
    cases l with
    | nil=>simp at h1
    | cons d r=>cases r with
     | nil=>exact⟨d,rfl⟩
     | cons e r=>simp at h1
   have h2:d<=9223372036854775807:=h2;rw[Ct] at hb;subst hb;have ex:=hu.bq (i:=0) (by simp);rw[show ([d]:List Nat).getD 0 0=d from rfl] at ex;have hlen:∀hp,kB hp 1 w=FL (.int .i64 1):=fun hp=>hu.len
   cases neg with
   | true=>
    refine⟨.agg [aa (0-(d:Int)),.ah],?_,?_⟩
    .unfold ab;rw[aE h.LC]
     simp only[go_sem,ya,yb,yk,Bl,aQ,hlen,yay,ex,show (d:Int)<=9223372036854775807 by lia,OZ,abp h2,wrap64 (n:=0-(d:Int)) (by lia) (by lia),zF];rfl
    .have:cx ycZ d=0-(d:Int):=by unfold cx;simp
     rw[this];exact dD.qv (by lia) (by lia)
   | false=>
    refine⟨.agg [aa (d:Int),.ah],?_,?_⟩
    .unfold ab;rw[aE h.LC];simp only[go_sem,ya,yb,yk,Bl,aQ,hlen,yay,ex,show (d:Int)<=9223372036854775807 by lia,OZ,abp h2,zF];rfl
    .have:cx yda d=(d:Int):=by unfold cx;simp
     rw[this];exact dD.qv (by lia) (by lia)
  .have BR:9223372036854775808<=m:=by
    rw[<-hb];by_cases h2:l.length=1
    .obtain ⟨d,rfl⟩:∃d,l=[d]:=by
      cases l with
      | nil=>simp at h2
      | cons d r=>cases r with
       | nil=>exact⟨d,rfl⟩
       | cons e r=>simp at h2
     have:¬d<=9223372036854775807:=fun hd=>h1 ⟨h2,hd⟩
     rw[Ct];lia
    .have h3:=UL (b:=2^64) (by decide) n h0;have h4:(2^64)^1<=(2^64)^(l.length-1):=y9 (by decide) (by lia);rw[Nat.pow_one] at h4
     lia
   have c9:∃e,w=.au e l.length (l.map uc):=by
    rcases hu with ⟨rfl,hh⟩ | ⟨e,rfl⟩
    .simp at hh;exact absurd hh h0
    .exact ⟨e,by simp⟩
   obtain⟨e,rfl⟩:=c9;have ex:=hu.bq (i:=0) lL;have first:(decide ((l.length:Int)=1)=ycZ/\¬((l.getD 0 0:Nat):Int)<=9223372036854775807)\/decide ((l.length:Int)=1)=yda:=by
    by_cases h2:l.length=1
    .left;refine⟨by simp;lia,fun hd=>h1 ⟨h2,by lia⟩⟩
    .right;simp;lia
   cases neg with
   | true=>
    refine⟨.agg [aa (-1),.au e l.length (l.map uc)],?_,-1,_,rfl,.inr ⟨e,l,rfl,g,n,by rw[hb];unfold cx;simp,by unfold cx;simp;lia,by unfold cx;simp;lia⟩⟩
    unfold ab;rw[aE h.LC];rcases first with ⟨f1,f2⟩ | f1
    .simp only [go_sem,ya,yb,yk,Bl,aQ,show ¬(l.length:Int)=0 by lia,f1,f2,ex,zx,OD];rfl
    .simp only [go_sem,ya,yb,yk,Bl,aQ,show ¬(l.length:Int)=0 by lia,f1,zx,OD];rfl
   | false=>
    refine⟨.agg [aa 1,.au e l.length (l.map uc)],?_,1,_,rfl,.inr ⟨e,l,rfl,g,n,by rw[hb];unfold cx;simp,by unfold cx;simp,by unfold cx;simp;lia⟩⟩
    unfold ab;rw[aE h.LC];rcases first with ⟨f1,f2⟩ | f1
    .simp only [go_sem,ya,yb,yk,Bl,aQ,show ¬(l.length:Int)=0 by lia,f1,f2,ex,zx,OD];rfl
    .simp only [go_sem,ya,yb,yk,Bl,aQ,show ¬(l.length:Int)=0 by lia,f1,zx,OD];rfl
end
section
variable {v w:AV}{a b s z:Int}{l:List Nat}{K:Nat}
def bB:VC->VC
 | .seq a _=>a
 | c=>c
def apk{x y:Nat}(ha:a.natAbs=x)(hb:b.natAbs=y)(h:decide (a<0)=decide (b<0)):cx (decide (a<0)) (x+y)=a+b:=by
 unfold cx
 grind
def aco{m:Nat}(hm:m+b.natAbs=a.natAbs)(h:¬decide (a<0)=decide (b<0)):cx (decide (a<0)) m=a+b:=by
 unfold cx
 grind
def apl:cx (!decide (a<0)) a.natAbs= -a:=by
 unfold cx
 grind
def acp:cx (decide (a<0) !=decide (b<0)) (a.natAbs*b.natAbs)=a*b:=by
 unfold cx
 grind
def ol(h:bP w l)(hp:Hp):result hp (.agg [aa s,w])=FL (.agg [aa s,w]):=by
 rcases h with ⟨rfl,_⟩ | ⟨e,rfl⟩<;>rfl
def eb(h:bP w l)(hp:Hp)(ct id:Nat)(x y:AV):fy hp ct id 0 2 [.int .i64 s,w] (FL (.cells ycZ ycZ ycZ 2 [x,y]))=FL (.aw [],aW hp id (.cells ycZ ycZ ycZ 2 [.int .i64 s,w]),ct):=gj rfl h.one rfl h.pu
def dD.aK(h:dD s w z):∃l,bP w l:=by
 rcases h with ⟨rfl,_⟩ | ⟨e,l,rfl,_⟩
 .exact ⟨[],zu⟩
 .exact ⟨l,n7 e l⟩
def afI(hp:Hp)(sz:Nat)(ag:Bool):AV->Option AV
 | .ptr id o=>RJ sz ag o (ak hp id)
 | .bN cs=>fT sz ag cs
 | _=>FM
def cI(tm:Env)(hp:Hp)(ct base i sz:Nat)(ag:Bool):results1 ⟨tm,hp,ct,base⟩ (.cell i sz ag)=afI hp sz ag (aj tm i):=by
 rfl
def cJ(hp:Hp)(sz:Nat)(ag:Bool)(id o:Nat):afI hp sz ag (.ptr id o)=RJ sz ag o (ak hp id):=rfl
def Hk(h:Nu P L)(hv:cD v z):ab P L 146 [v] (aa (bX z)):=by
 obtain⟨s,w,rfl,hn⟩:=hv;have⟨l,hu⟩:=hn.aK;have e:bX s=bX z:=by
  have⟨h1,h2,_⟩:=hn.bX;unfold bX;by_cases h0:z<0
  .rw [yD h0,yD (h1.2 h0)]
  .by_cases h3:z=0
   .rw [yt (fun h=>h0 (h1.1 h)),yD (h2.2 h3),yt h0,yD h3]
   .rw [yt (fun h=>h0 (h1.1 h)),yt (fun h=>h3 (h2.1 h)),yt h0,yt h3]
 unfold ab;rw[aE h.azv];simp only[go_sem,ya,yb,Wa,aQ,hu.pu,hu.one,aT,yd,ad8,Eg,acg,Ju,au1,e]
def Hl(h:Nu P L)(hv:cD v z)(hz:Bd K z)(hK:K<=90000000000):∃r,ab P L 147 [v] r/\cD r (-z):=by
 obtain⟨s,w,rfl,hn⟩:=hv;have⟨p,e1,hp⟩:=Bs h hn;have⟨lp,ic,_⟩:=hp.aK;have⟨r,e2,hr⟩:=EY h (!decide (z<0)) hp (yP hz (Cu K)) hK;rw[apl] at hr;have bh:=hr;obtain⟨s',w',rfl,jB⟩:=hr;have⟨l',j0⟩:=jB.aK;rcases hn with ⟨rfl,rfl,h1,h2⟩ | ⟨e,l0,rfl,g,n,hb,hs,h1⟩
 .by_cases h0:s= -9223372036854775808
  .refine ⟨_,?_,bh⟩;unfold ab;rw[aE h.WE];simp only[go_sem,ya,yb,K1,aQ,aT,yd,df,iE,eD,h0];rw[h0] at e1 e2;simp only[go_sem,ya,cr,bY,e1,e2,ic.ai,bz,cI,cJ,cr,ye,ol j0,eb j0]
  .refine ⟨.agg [aa (-s),.ah],?_,dD.qv (by lia) (by lia)⟩;unfold ab;rw[aE h.WE]
   simp only[go_sem,ya,yb,K1,aQ,aT,yd,df,iE,eD,h0,wrap64 (n:=0-s) (by lia) (by lia),zF,zx];rw[Int.zero_sub];rfl
 .refine ⟨_,?_,bh⟩;unfold ab;rw[aE h.WE];simp only[go_sem,ya,yb,K1,aQ,aT,yd,df,oZ,eD,cr,bY,e1,e2,ic.ai,bz,cI,cJ,cr,ye,ol j0,eb j0]
def ag6(h:Nu P L)(hv:cD v z)(hz:Bd K z)(hK:K<=90000000000):∃r,ab P L 163 [v] r/\cD r (z.natAbs:Nat):=by
 have eS:=hv;obtain⟨s,w,rfl,hn⟩:=hv;have⟨l,hu⟩:=hn.aK;have nc:=hn.bX.1;by_cases h0:z<0
 .have ⟨r,e1,hr⟩:=Hl h eS hz hK;rw[show -z=(z.natAbs:Int) by lia] at hr;have bh:=hr;obtain⟨s',w',rfl,jB⟩:=hr;have⟨l',j0⟩:=jB.aK;refine⟨_,?_,bh⟩;unfold ab;rw[aE h.ag4];simp only[go_sem,ya,yb,P2,aQ,hu.pu,hu.ai,hu.one,aT,yd,nc.2 h0,cr,bY,e1,bz,cI,cJ,cr,ye,ol j0,eb j0]
 .rw [show ((z.natAbs:Nat):Int)=z by lia];refine⟨_,?_,eS⟩;unfold ab;rw[aE h.ag4];simp only[go_sem,ya,yb,P2,aQ,hu.pu,hu.one,aT,yd,show ¬s<0 from fun h=>h0 (nc.1 h),cr,cI,cJ,cr,ye,ol hu,eb hu]
def avk(h:Nu P L){s1 s2:Int}{w1 w2:AV}(ha:dD s1 w1 a)(hb:dD s2 w2 b)(ka:Bd K a)(kb:Bd K b)(hK:K<=40000000000):
  ∃r,cD r (a+b)/\∀tm,aj tm 2=.ptr 0 0->aj tm 3=.ptr 1 0->aj tm 4=.ptr 2 0->gn [.cell 4 2 ycZ] (D P L (aD (aD c119.body)) ⟨tm,[(2,.cells ycZ ycZ ycZ 2 [.int .i64 0,.ah]),(1,.cells ycZ ycZ ycZ 2 [aa s2,w2]),(0,.cells ycZ ycZ ycZ 2 [aa s1,w1])],3,0⟩)=FL r:=by
 have⟨l1,u1⟩:=ha.aK;have⟨l2,u2⟩:=hb.aK;have⟨p,e1,hp⟩:=Bs h ha;have⟨q,e2,hq⟩:=Bs h hb;have⟨lp,ic,gp,np,vp⟩:=hp.aK;have⟨lq,pZ,gq,nq,vq⟩:=hq.aK;have Dv:=yP ka (Cu K);have HT:=yP kb (Cu K);have llp:lp.length<=40000000000:=xi (pD np vp Dv) hK;have llq:lq.length<=40000000000:=xi (pD nq vq HT) hK;by_cases hs:decide (a<0)=decide (b<0)
 .have ⟨o,lj,e3,ho,oH,no,vo⟩:=azb h.azl h.nH h.ia ic pZ gp gq (by lia) (by lia);have⟨r,e4,hr⟩:=EY h (decide (a<0)) ⟨lj,ho,oH,no,vo⟩ (K:=K+1) (by rw[vp,vq,xh];lia) (by lia)
  rw[apk vp.symm vq.symm hs] at hr;have bh:=hr;obtain⟨s',w',rfl,jB⟩:=hr;have⟨l',j0⟩:=jB.aK;refine⟨_,bh,fun tm t2 t3 t4=>?_⟩;simp only[go_sem,ya,c119,aD,t2,t3,cr,bY,u1.ai,u2.ai,e1,e2,ic.ai,pZ.ai,eD,qX,hs,tQ];rw[hs] at e4;simp only[go_sem,ya,t4,e3,ho.ai,ho.shut,e4,bz,cI,cJ,cr,ye,ol j0,eb j0]
 .have ze:(decide (a<0)==decide (b<0))=yda:=by simpa using hs
  have e3:=agP h.ag0 ic pZ gp gq np nq (by lia) (by lia);rw[vp,vq] at e3;by_cases hc:b.natAbs<=a.natAbs
  .have ⟨o,lj,e4,ho,oH,no,vo⟩:=agQ h.ag1 h.nH h.zU ic pZ gp gq nq (by lia) (by rw[vp,vq];exact hc)
   rw[vp,vq] at vo;have⟨r,e5,hr⟩:=EY h (decide (a<0)) ⟨lj,ho,oH,no,rfl⟩ (K:=K) (by lia) (by lia);rw[aco vo hs] at hr;have bh:=hr;obtain⟨s',w',rfl,jB⟩:=hr;have⟨l',j0⟩:=jB.aK;have eC:(0:Int)<=dU a.natAbs b.natAbs:=by unfold dU;rw[yt (by lia)];split<;>decide
   refine⟨_,bh,fun tm t2 t3 t4=>?_⟩;simp only[go_sem,ya,c119,aD,t2,t3,t4,cr,bY,u1.ai,u2.ai,e1,e2,ic.ai,pZ.ai,eD,qX,ze,e3,eC,e4,ho.ai,ho.shut,e5,bz,cI,cJ,cr,ye,ol j0,eb j0]
  .have ⟨o,lj,e4,ho,oH,no,vo⟩:=agQ h.ag1 h.nH h.zU pZ ic gq gp np (by lia) (by rw[vp,vq];lia)
   rw[vp,vq] at vo;have⟨r,e5,hr⟩:=EY h (decide (b<0)) ⟨lj,ho,oH,no,rfl⟩ (K:=K) (by lia) (by lia);rw[aco vo (fun e=>hs e.symm),Int.add_comm] at hr;have bh:=hr;obtain⟨s',w',rfl,jB⟩:=hr;have⟨l',j0⟩:=jB.aK;have eC:¬(0:Int)<=dU a.natAbs b.natAbs:=by unfold dU;rw[yD (by lia)];decide
   refine⟨_,bh,fun tm t2 t3 t4=>?_⟩;simp only[go_sem,ya,c119,aD,t2,t3,t4,cr,bY,u1.ai,u2.ai,e1,e2,ic.ai,pZ.ai,eD,qX,ze,e3,eC,e4,ho.ai,ho.shut,e5,bz,cI,cJ,cr,ye,ol j0,eb j0]
def LD(h:Nu P L)(hv:cD v a)(hw:cD w b)(ka:Bd K a)(kb:Bd K b)(hK:K<=40000000000):∃r,ab P L 119 [v,w] r/\cD r (a+b):=by
 obtain⟨s1,w1,rfl,h1⟩:=hv;obtain⟨s2,w2,rfl,h2⟩:=hw;have⟨l2,u2⟩:=h2.aK;have⟨r,hr,tail⟩:=avk h h1 h2 ka kb hK;have fin:∀tm,aj tm 2=.ptr 0 0->aj tm 3=.ptr 1 0->aj tm 4=.ptr 2 0->
   D P L (.seq (bB c119.body) (bB (aD c119.body))) ⟨[(0,.agg [aa s1,w1]),(1,.agg [aa s2,w2])],[],0,0⟩=FL (.normal,⟨tm,[(2,.cells ycZ ycZ ycZ 2 [.int .i64 0,.ah]),(1,.cells ycZ ycZ ycZ 2 [aa s2,w2]),(0,.cells ycZ ycZ ycZ 2 [aa s1,w1])],3,0⟩)->ab P L 119 [.agg [aa s1,w1],.agg [aa s2,w2]] r:=fun tm t2 t3 t4 e=>by
  unfold ab;rw[aE h.ag5];show gn [.cell 4 2 ycZ] (D P L (.seq (bB c119.body) (.seq (bB (aD c119.body)) (aD (aD c119.body)))) ⟨[(0,.agg [aa s1,w1]),(1,.agg [aa s2,w2])],[],0,0⟩)=_
  have e2:D P L (.seq (bB c119.body) (.seq (bB (aD c119.body)) (aD (aD c119.body)))) ⟨[(0,.agg [aa s1,w1]),(1,.agg [aa s2,w2])],[],0,0⟩=qW P L (D P L (.seq (bB c119.body) (bB (aD c119.body))) ⟨[(0,.agg [aa s1,w1]),(1,.agg [aa s2,w2])],[],0,0⟩) (aD (aD c119.body)):=by
   rw[nC,nC]
   cases D P L (bB c119.body) ⟨[(0,.agg [aa s1,w1]),(1,.agg [aa s2,w2])],[],0,0⟩ with
   | none=>rfl
   | some q=>
    have⟨ex,st⟩:=q
    cases ex with
    | normal=>rw[iS,iS,nC]
    | ret=>rfl
    | exit id=>rfl
  rw[e2,e,iS];exact tail tm t2 t3 t4
 rcases h1 with ⟨rfl,rfl,a1,a2⟩ | ⟨e,l,rfl,ga,na,va,sa,a1⟩
 .rcases h2 with ⟨rfl,rfl,b1,b2⟩ | ⟨e,l,rfl,gb,nb,vb,sb,b1⟩
  .by_cases cG: -9223372036854775808<=s1+s2/\s1+s2<9223372036854775808
   .refine ⟨.agg [aa (s1+s2),.ah],?_,dD.qv cG.1 cG.2⟩;have e:decide (s1<s1+s2)=decide (0<s2):=by
     by_cases h:0<s2
     .simp only [h,yM];exact y8 (by lia)
     .simp only [h,yH];exact yQ (by lia)
    unfold ab;rw[aE h.ag5]
    simp only[go_sem,ya,yb,c119,aQ,zF,iE,eD,qX,aT,yd,df,wrap64 (n:=s1+s2) cG.1 cG.2,e,tQ,zx];rfl
   .have e:(decide (s1<IntKind.wrap .i64 (s1+s2))==decide (0<s2))=yda:=by
     have hw:(9223372036854775808<=s1+s2/\IntKind.wrap .i64 (s1+s2)=s1+s2-2^64)\/(s1+s2< -9223372036854775808/\IntKind.wrap .i64 (s1+s2)=s1+s2+2^64):=by
      simp only[IntKind.wrap,IntKind.bits,IntKind.signed,wS]
      split<;>rename_i h<;>simp at h<;>lia
     by_cases h0:0<s2
     .rw [y8 h0,yQ (by lia)];rfl
     .rw [yQ h0,y8 (by lia)];rfl
    refine⟨r,fin _ ?_ ?_ ?_ (by simp only[go_sem,ya,yb,bB,aD,c119,aQ,iE,eD,qX,aT,yd,df,e]<;>rfl),hr⟩<;>simp only[go_sem,ya]
  .refine ⟨r,fin _ ?_ ?_ ?_ (by simp only[go_sem,ya,yb,bB,aD,c119,aQ,iE,oZ,eD,aT,yd,df]<;>rfl),hr⟩<;>simp only[go_sem,ya]
 .refine ⟨r,fin _ ?_ ?_ ?_ (by simp only[go_sem,ya,yb,bB,aD,c119,aQ,u2.pu,u2.one,oZ,eD,aT,yd,df]<;>rfl),hr⟩<;>simp only[go_sem,ya]
end
end VE
