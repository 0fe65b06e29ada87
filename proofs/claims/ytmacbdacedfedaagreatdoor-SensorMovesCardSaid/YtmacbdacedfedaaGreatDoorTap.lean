import Derived.ChangeSlices
import Derived.ChangeReads
import Derived.ChangeSame
import Derived.OpenShut
import Derived.Lib.AtoiErrMem
import Derived.Laws.Externs
import Derived.Attr
import Derived.Test.YtmacbdacedfedaaGreatDoorTao
set_option linter.all false
set_option maxRecDepth 100000
open Array renaming getElem?_eq_some_iff->xt
open BitVec renaming ofInt->wB,ofInt_natCast->tE,ofNat->tD,toNat_ofNat->vY
open Bool renaming and_eq_true->ye,and_self->vm,and_true->uz,false_and->uP,false_eq_true->yC,false_or->ybn,true_and->ud
open Go renaming Addr->uK,ChangeSpec->ycC,DataW->xR,Field->ub,IntKind->xd,MemPlace->wT,Program->xm,TypeId->yv,Value->yg,World->yi
open Int renaming ediv_emod_unique->yag,gcd->vJ,gcd_dvd_left->yan,gcd_dvd_right->yab,mul_ediv_cancel'->ybf,natAbs_ediv_of_dvd->uZ,natCast_mul->xZ,reduceEq->yaI,tdiv_eq_ediv_of_dvd->yaR,tdiv_eq_ediv_of_nonneg->wm,tmod_eq_emod_of_nonneg->wj,toNat_natCast->wJ
open List renaming all_cons->yal,append_assoc->xx,append_nil->wq,cons_append->yx,drop->uk,drop_drop->vH,drop_eq_getElem_cons->yR,drop_eq_nil_of_le->xf,drop_left'->tu,drop_zero->yh,eq_nil_of_length_eq_zero->yK,filter_cons->ybC,filter_eq_nil_iff->tU,flatMap_cons->ybr,getD_cons_succ->ybe,getD_eq_getElem?_getD->yD,getElem?_cons_zero->ui,getElem?_eq_getElem->yN,length->wu,length_append->yJ,length_cons->yy,length_drop->wD,length_map->yL,length_nil->yH,length_pos_iff->ta,length_reverse->ybg,length_singleton->tC,length_take->yQ,mapM_cons->uO,mapM_nil->yaG,map_append->xA,map_cons->yZ,map_take->yaE,mem_append->xH,mem_append_left->tN,mem_append_right->uj,mem_flatMap->tj,mem_singleton->we,nil_append->yM,range->wF,range'->xJ,range'_succ->vO,range'_zero->ybz,range_eq_range'->yaX,replicate->yp,replicate_succ->wO,reverse_cons->ybs,set_append_right->yaU,set_cons_succ->ybl,set_eq_take_append_cons_drop->vD,take_append_drop->wi,take_length->xN,take_of_length_le->yG,take_succ_eq_append_getElem->xa
open Nat renaming add_comm->ybQ,add_mul->xP,add_sub_cancel->vN,add_zero->yW,beq->ym,beq_refl->wV,ble->yA,ble_eq_true_of_le->yt,blt->yI,div_add_mod->xz,div_eq_of_lt->xU,div_le_self->vB,div_lt_iff_lt_mul->xK,eq_of_beq_eq_true->yf,eq_zero_or_pos->xq,gcd->vE,gcd_comm->tY,gcd_rec->ycQ,le_div_iff_mul_le->tK,le_max_left->uH,le_max_right->ux,le_of_ble_eq_true->yr,le_of_lt->uL,le_refl->yu,le_trans->xo,lt_of_le_of_lt->wC,lt_of_lt_of_le->yE,lt_of_mul_lt_mul_right->uS,min_eq_left->xj,mod_add_div->tg,mod_eq_of_lt->yF,mod_lt->xu,mul_add->xC,mul_add_div->tZ,mul_add_mod->yaa,mul_assoc->xe,mul_comm->xp,mul_div_mul_right->tL,mul_le_mul->yS,mul_le_mul_left->yY,mul_le_mul_right->yU,mul_lt_mul_of_pos_right->xX,mul_mod_mul_right->uo,mul_one->yk,mul_pos->vv,mul_zero->xB,one_mul->ybx,or_comm->ycR,pos_of_ne_zero->vW,pow_add->xD,pow_le_pow_right->xc,pow_lt_pow_iff_right->uh,pow_pos->ycw,pow_succ->xh,pow_zero->uG,reduceAdd->yc,reduceEqDiff->ya,reduceLT->yB,reduceLeDiff->yo,reduceMul->xn,strongRecOn->vP,sub_zero->ycB,two_pow_pos->xi,zero_add->yd,zero_le->uN,zero_mul->vh
open Option renaming bind_eq_bind->vV,bind_some->wG,map_some->wU,pure_def->vt
open Option.some renaming injEq->yb
open Prod.mk renaming injEq->yj
open Option renaming some->Ft,none->Fu
open Bool renaming true->ydh,false->ydi
namespace VE
open Go (IntKind)
variable {P:aF}{L:Lib}
section
open Go
section
variable (P:xm)
def Fz(self:yv->Bool):List ub->Nat->Nat->Bool
 | [],o,n=>ym o n
 | f::r,o,n=>ym f.offset o&&(self f.type&&Fz self r (o+P.cellsOf f.type) n)
def flat:Nat->yv->Bool
 | 0,_=>ydi
 | n+1,t=>
  match P.underlying t with
  | some .bool | some (.int _) | some (.float _) | some .string=>ym (P.cellsOf t) 1
  | some (.slice e)=>ym (P.cellsOf t) 1&&(yI 0 (P.cellsOf e)&&flat n e)
  | some (.struct fs)=>Fz P (fun u=>flat n u) fs.toList 0 (P.cellsOf t)
  | some (.array k e)=>ym (P.cellsOf t) (k*P.cellsOf e)&&flat n e
  | _=>ydi
def cK{H:Type}:Nat->yv->xR H->List AV
 | 0,_,_=>[]
 | n+1,t,d=>
  match P.underlying t,d with
  | some .bool,.lit (.bool b)=>[.bool b]
  | some (.int k),.lit (.int _ m)=>[.int k m]
  | some (.float k),.lit (.float _ b)=>[.ao k b]
  | some .string,.lit (.string s)=>[.str (s.map UInt8.toNat)]
  | some (.slice _),.nil=>[.af]
  | some (.slice e),.slice kz spare=>[.au spare.isEmpty kz.length (kz.flatMap fun x=>cK n e x)]
  | some (.struct fs),.agg parts=>(fs.toList.zip parts).flatMap fun x=>cK n x.1.type x.2
  | some (.array _ e),.agg parts=>parts.flatMap fun x=>cK n e x
  | _,_=>[]
end
section
variable {ab:Nat->Nat}{m:Mp}{S:Nat->Prop}{w:yi}
def ZC:∀{a b:List AV} {cX o:Nat},bL ab m S w a cX o->bL ab m S w b cX (o+a.length)->bL ab m S w (a++b) cX o
 | [],b,cX,o,_,h=>by simpa using h
 | x::a,b,cX,o,h1,h2=>by
  exact⟨h1.1,ZC h1.2 (by rw[yy] at h2;rw[show o+1+a.length=o+(a.length+1) by lia];exact h2)⟩
def MI:∀{a b:List AV},aD a=ydh->aD b=ydh->aD (a++b)=ydh
 | [],_,_,h=>h
 | x::a,b,h1,h2=>by
  simp only[aD,yx,ye] at h1 ⊢;exact⟨h1.1,MI h1.2 h2⟩
def ZD:∀{a:List AV} {us:List yg},az ab m S w a us->a.length=us.length
 | [],us,h=>by simp only[az] at h;subst h;rfl
 | x::a,us,h=>by
  obtain⟨u,r,rfl,_,h2⟩:=h;simp[ZD h2]
end
section
variable {H:Type}{enc:yv×yg->H}{P:xm}{w:yi}{held:Bool}{ab:Nat->Nat}{m:Mp}{S:Nat->Prop}
def abG{a:uK}{i:Nat}{u:yg}(h:w.cell? (a.add i)=Ft u):w.cell? ⟨a.block,a.off+i,Fu⟩=Ft u/\(i=0->a.spot=Fu):=by
 by_cases hi:i=0
 .subst hi;have e:a.add 0=a:=by simp[Addr.add]
  rw[e] at h;have hs:a.spot=Fu:=by
   cases hq:a.spot with
   | none=>rfl
   | some k=>
    unfold World.cell? at h
    split at h
    .simp [hq] at h
    all_goals simp_all
  have⟨b,o,sp⟩:=a;simp only at hs;subst hs;exact⟨by simpa using h,fun _=>rfl⟩
 .have e:a.add i=⟨a.block,a.off+i,Fu⟩:=by simp[Addr.add,hi]
  rw[e] at h;exact⟨h,fun h=>(hi h).elim⟩
def alj(a:uK)(i:Nat):(a.add i).block=a.block:=by unfold Addr.add;split<;>rfl
def apj(a:uK)(i:Nat):(a.add i).off=a.off+i:=by unfold Addr.add;split<;>simp_all
def M0{α β:Type}{f:α->Option β}:∀{l:List α} {r:List β},l.mapM f=Ft r->r.length=l.length
 | [],r,h=>by simp only[yaG,vt,yb] at h;subst h;rfl
 | x::l,r,h=>by
  rw[uO] at h
  cases h1:f x with
  | none=>simp[h1] at h
  | some y=>
   cases h2:l.mapM f with
   | none=>simp[h1,h2] at h
   | some ys=>
    simp only[h1,h2,wG,vV,vt,yb] at h;subst h;simp[M0 h2]
def anj{c:AV}{l:List AV}{b o:Nat}(h:bL ab m S w (c::l) b o):b<w.heap.size:=by
 have⟨⟨u,h1,_⟩,_⟩:=h;unfold World.cell? at h1
 cases hq:w.heap[b]? with
 | none=>simp[hq] at h1
 | some o=>exact (xt.1 hq).1
def RX{e:yv}{bi sz:Nat}{f:xR H->List AV}{a:uK}(eC:0<sz)(IH:∀(cs:List yg) (d:xR H) (ps:List wT),DataW.trod enc P w 0 (fun _=>ydh) held bi e cs=Ft (d,ps)->az ab m S w (f d) cs/\aD (f d)=ydh/\cs.length=sz):
  ∀(k j:Nat) (xs:List (xR H×List wT)),(xJ j k).mapM (fun i=>(w.cells? 0 (a.add (i*sz)) sz).bind (DataW.trod enc P w 0 (fun _=>ydh) held bi e))=Ft xs->
   bL ab m S w ((xs.map (·.1)).flatMap f) a.block (a.off+j*sz)/\aD ((xs.map (·.1)).flatMap f)=ydh/\((xs.map (·.1)).flatMap f).length=k*sz/\xs.length=k/\(0<k->a.spot=Fu\/0<j)
 | 0,j,xs,h=>by
  simp only[ybz,yaG,vt,yb] at h;subst h;simp[bL,aD]
 | k+1,j,xs,h=>by
  rw[vO,uO] at h
  cases h1:(w.cells? 0 (a.add (j*sz)) sz) with
  | none=>simp[h1] at h
  | some us=>
   cases h2:DataW.trod enc P w 0 (fun _=>ydh) held bi e us with
   | none=>simp[h1,h2] at h
   | some x=>
    cases h3:(xJ (j+1) k).mapM (fun i=>(w.cells? 0 (a.add (i*sz)) sz).bind (DataW.trod enc P w 0 (fun _=>ydh) held bi e)) with
    | none=>simp[h1,h2,h3] at h
    | some ys=>
     simp only[h1,h2,h3,wG,vV,vt,yb] at h;subst h;have⟨d,ps⟩:=x;have⟨g1,g2,g3⟩:=IH us d ps h2;have⟨k1,k2,k3,k4,_⟩:=RX eC IH k (j+1) ys h3;have⟨_,c2,c3⟩:=World.cells?_some h1;have hl:(f d).length=sz:=by rw[ZD g1,g3]
     have hc:∀(i:Nat) (u:yg),us[i]? =Ft u->w.cell? ⟨a.block,a.off+j*sz+i,Fu⟩=Ft u:=by
      intro i u hi;have By:i<sz:=by grind
      have h:=c3 i By;rw[hi] at h
      have:=(abG h).1
      rwa[alj,apj] at this
     refine⟨?_,?_,?_,by simp[k4],?_⟩
     .simp only [yZ,ybr];refine ZC (FD _ us _ g1 hc) ?_
      grind
     .simp only [yZ,ybr];exact MI g2 k2
     .grind
     .intro _;rcases xq j with hj | hj
      .left
       have h:=c3 0 eC;have hu:us[0]? =Ft us[0]:=by simp_all
       rw[hu] at h
       have:=(abG h).2 rfl
       subst hj;simpa[Addr.add] using this
      .grind
def YO{bi N:Nat}{n:Nat}{cs:List yg}(hN:cs.length=N)(IH:∀(t:yv) (cs:List yg) (d:xR H) (ps:List wT),flat P n t=ydh->DataW.trod enc P w 0 (fun _=>ydh) held bi t cs=Ft (d,ps)->az ab m S w (cK P n t d) cs/\aD (cK P n t d)=ydh/\cs.length=P.cellsOf t):
  ∀(r:List ub) (o:Nat) (xs:List (xR H×List wT)),Fz P (fun u=>flat P n u) r o N=ydh->r.mapM (fun f=>DataW.trod enc P w 0 (fun _=>ydh) held bi f.type ((cs.drop f.offset).take (P.cellsOf f.type)))=Ft xs->
   az ab m S w ((r.zip (xs.map (·.1))).flatMap fun x=>cK P n x.1.type x.2) (cs.drop o)/\aD ((r.zip (xs.map (·.1))).flatMap fun x=>cK P n x.1.type x.2)=ydh
 | [],o,xs,hf,h=>by
  have:=yf hf
  rw[xf (by lia)];simp[az,aD]
 | f::r,o,xs,hf,h=>by
  simp only[Fz,ye] at hf;have⟨e1,e2,e3⟩:=hf;have e1:=yf e1;rw[uO] at h
  cases h2:DataW.trod enc P w 0 (fun _=>ydh) held bi f.type ((cs.drop f.offset).take (P.cellsOf f.type)) with
  | none=>simp[h2] at h
  | some x=>
   cases h3:r.mapM (fun f=>DataW.trod enc P w 0 (fun _=>ydh) held bi f.type ((cs.drop f.offset).take (P.cellsOf f.type))) with
   | none=>simp[h2,h3] at h
   | some ys=>
    simp only[h2,h3,wG,vV,vt,yb] at h;subst h;have⟨d,ps⟩:=x;have⟨g1,g2,g3⟩:=IH f.type _ d ps e2 h2;have⟨k1,k2⟩:=YO hN IH r _ ys e3 h3;rw[e1] at g1;have e:cs.drop o=(cs.drop o).take (P.cellsOf f.type)++cs.drop (o+P.cellsOf f.type):=by rw[<-vH];exact (wi _ _).symm
    rw[e];exact⟨mi g1 k1,MI g2 k2⟩
def abH{bi sz:Nat}{e:yv}{f:xR H->List AV}{cs:List yg}(IH:∀(cs:List yg) (d:xR H) (ps:List wT),DataW.trod enc P w 0 (fun _=>ydh) held bi e cs=Ft (d,ps)->az ab m S w (f d) cs/\aD (f d)=ydh/\cs.length=sz):
  ∀(k j:Nat) (xs:List (xR H×List wT)),(xJ j k).mapM (fun i=>DataW.trod enc P w 0 (fun _=>ydh) held bi e ((cs.drop (i*sz)).take sz))=Ft xs->cs.length=(j+k)*sz->
   az ab m S w ((xs.map (·.1)).flatMap f) (cs.drop (j*sz))/\aD ((xs.map (·.1)).flatMap f)=ydh
 | 0,j,xs,h,hl=>by
  simp only[ybz,yaG,vt,yb] at h;subst h;rw[xf (by rw[hl];simp)]
  simp[az,aD]
 | k+1,j,xs,h,hl=>by
  rw[vO,uO] at h
  cases h2:DataW.trod enc P w 0 (fun _=>ydh) held bi e ((cs.drop (j*sz)).take sz) with
  | none=>simp[h2] at h
  | some x=>
   cases h3:(xJ (j+1) k).mapM (fun i=>DataW.trod enc P w 0 (fun _=>ydh) held bi e ((cs.drop (i*sz)).take sz)) with
   | none=>simp[h2,h3] at h
   | some ys=>
    simp only[h2,h3,wG,vV,vt,yb] at h;subst h;have⟨d,ps⟩:=x;have⟨g1,g2,g3⟩:=IH _ d ps h2;have⟨k1,k2⟩:=abH IH k (j+1) ys h3 (by rw[hl];congr 1;lia)
    have e:cs.drop (j*sz)=(cs.drop (j*sz)).take sz++cs.drop ((j+1)*sz):=by rw[xP,ybx,<-vH];exact (wi _ _).symm
    rw[e];exact⟨mi g1 k1,MI g2 k2⟩
def aas(hS:∀b,b<w.heap.size->S b):∀(n bi:Nat) (t:yv) (cs:List yg) (d:xR H) (ps:List wT),flat P n t=ydh->DataW.trod enc P w 0 (fun _=>ydh) held bi t cs=Ft (d,ps)->
  az ab m S w (cK P n t d) cs/\aD (cK P n t d)=ydh/\cs.length=P.cellsOf t
 | 0,bi,t,cs,d,ps,hf,h=>by simp[flat] at hf
 | n+1,0,t,cs,d,ps,hf,h=>by simp[DataW.trod] at h
 | n+1,bi+1,t,cs,d,ps,hf,h=>by
  have IH:=aas hS n bi;unfold DataW.trod at h;simp only[flat] at hf
  split at h
  .rename_i hu;simp only[hu] at hf;simp only[yb,yj] at h;obtain⟨rfl,rfl⟩:=h;simp only[cK,hu];exact⟨by simp[az,ae],by simp[aD,aW],by rw[yf hf];rfl⟩
  .rename_i hu;simp only[hu] at hf
   split at h
   .rename_i hk;simp only[yb,yj] at h;obtain⟨rfl,rfl⟩:=h;simp only[cK,hu];refine⟨?_,by simp[aD,aW],by rw[yf hf];rfl⟩
    rw[hk.1];simp[az,ae]
   .cases h
  .rename_i hu;simp only[hu] at hf
   split at h
   .rename_i hk;simp only[yb,yj] at h;obtain⟨rfl,rfl⟩:=h;simp only[cK,hu];refine⟨?_,by simp[aD,aW],by rw[yf hf];rfl⟩
    rw[hk.1];simp[az,ae]
   .cases h
  .rename_i hu;simp only[hu] at hf
   split at h
   .simp only [yb,yj] at h;obtain⟨rfl,rfl⟩:=h;simp only[cK,hu];refine⟨?_,by simp[aD,aW],by rw[yf hf];rfl⟩
    simp only[az,ae];exact⟨_,_,rfl,⟨_,rfl,rfl⟩,rfl⟩
   .cases h
  .rename_i hu;simp[hu] at hf
  .rename_i hu;simp[hu] at hf
  .rename_i hu;simp only[hu,ye] at hf;simp only[yb,yj] at h;obtain⟨rfl,rfl⟩:=h;simp only[cK,hu];exact⟨by simp[az,ae],by simp[aD,aW],by rw[yf hf.1];rfl⟩
  .rename_i e a len cap hu;simp only[hu,ye] at hf;have⟨f1,f2,f3⟩:=hf;have eC:=qt.1 f2;simp only at h
   split at h
   case isFalse=>cases h
   rename_i hc;simp only[xQ] at h
   cases h1:(wF len).mapM fun i=>(w.cells? 0 (a.add (i*P.cellsOf e)) (P.cellsOf e)).bind (DataW.trod enc P w 0 (fun _=>ydh) held bi e) with
   | none=>rw[h1] at h;simp at h
   | some kz=>
    cases h2:(wF (cap-len)).mapM fun j=>(w.cells? 0 (a.add ((len+j)*P.cellsOf e)) (P.cellsOf e)).bind (DataW.trod enc P w 0 (fun _=>ydh) held bi e) with
    | none=>rw[h1] at h;simp[h2] at h
    | some rest=>
     rw[h1] at h;simp only[wG,h2,wU,yb,yj] at h;obtain⟨rfl,rfl⟩:=h;have hIH:=fun cs d ps h=>IH e cs d ps f3 h
     rw[yaX] at h1 h2;have⟨k1,k2,k3,k4,k5⟩:=RX (ab:=ab) (m:=m) (S:=S) eC hIH len 0 kz h1;have hrl:rest.length=cap-len:=by rw[M0 h2];simp
     have jP:cap≠0->a.spot=Fu:=by
      intro KO;rcases xq len with h0 | h0
      .subst h0;simp only[yd,ycB] at h2;have⟨_,_,_,_,q5⟩:=RX (ab:=ab) (m:=m) (S:=S) eC hIH cap 0 rest h2;exact (q5 (by lia)).resolve_right (by lia)
      .exact (k5 h0).resolve_right (by lia)
     simp only[cK,hu,yL];refine⟨?_,by simp[aD,aW],by rw[yf f1];rfl⟩
     simp only[az];refine⟨_,_,rfl,?_,rfl⟩;simp only[ae];by_cases KO:cap=0
     .subst KO;have kV:len=0:=by lia
      subst kV;have he:kz=[]:=yK k4;subst he;exact .inr ⟨a,rfl,rfl,rfl⟩
     .have ⟨b,o,sp⟩:=a;have jP:=jP KO;simp only at jP;subst jP;refine .inl ⟨b,o,cap,by rw[k4],by lia,fun hx=>?_,?_,k2,by simpa using k1⟩
      .have:rest.length=0:=by simpa using hx
       lia
      .generalize hg:((kz.map (·.1)).flatMap fun x=>cK P n e x)=l at k1
       cases l with
       | nil=>exact .inl rfl
       | cons c l=>exact .inr (hS b (anj k1))
  .rename_i Ab x1 LK fs hu;simp only[hu] at hf
   split at h
   case isFalse=>cases h
   rename_i hlen
   cases h1:fs.toList.mapM fun f=>DataW.trod enc P w 0 (fun _=>ydh) held bi f.type ((Ab.drop f.offset).take (P.cellsOf f.type)) with
   | none=>rw[h1] at h;simp at h
   | some xs=>
    rw[h1] at h;simp only[wU,yb,yj] at h;obtain⟨rfl,rfl⟩:=h;have⟨k1,k2⟩:=YO hlen (fun t cs d ps hf h=>IH t cs d ps hf h) fs.toList 0 xs hf h1;simp only[cK,hu];exact⟨by simpa using k1,k2,hlen⟩
  .rename_i Ab x1 LK k e hu;simp only[hu,ye] at hf;have⟨f1,f2⟩:=hf;have f1:=yf f1
   split at h
   case isFalse=>cases h
   rename_i hlen
   cases h1:(wF k).mapM fun i=>DataW.trod enc P w 0 (fun _=>ydh) held bi e ((Ab.drop (i*P.cellsOf e)).take (P.cellsOf e)) with
   | none=>rw[h1] at h;simp at h
   | some xs=>
    rw[h1] at h;simp only[wU,yb,yj] at h;obtain⟨rfl,rfl⟩:=h;rw[yaX] at h1;have⟨k1,k2⟩:=abH (ab:=ab) (m:=m) (S:=S) (fun cs d ps h=>IH e cs d ps f2 h) k 0 xs h1 (by rw[hlen,f1];simp)
    simp only[cK,hu];exact⟨by simpa using k1,k2,hlen⟩
  all_goals first
   | (cases h;done)
   | (simp_all;done)
def mA(P:xm)(n:Nat)(t:yv)(d:xR H):AV:=
 match P.underlying t with
 | some (.struct _) | some (.array _ _)=>.agg (cK P n t d)
 | _=>(cK P n t d).headD .undef
def apk(hS:∀b,b<w.heap.size->S b){n base:Nat}{t:yv}{v:yg}{d:xR H}{ps:List wT}(hf:flat P n t=ydh)(h:DataW.Trod enc P w 0 (fun _=>ydh) held t v d ps)(hv:Value.okWide P w .any base t v):ae ab m S w (mA P n t d) v/\aW (mA P n t d)=ydh:=by
 have⟨bi,h⟩:=h;have⟨h1,h2,h3⟩:=aas (ab:=ab) (m:=m) hS n bi t _ d ps hf h;have one:v.cells=#[v]->(∀fs,P.underlying t≠Ft (.struct fs))->(∀k e,P.underlying t≠Ft (.array k e))->ae ab m S w (mA P n t d) v/\aW (mA P n t d)=ydh:=by
  intro hc G9 hna;have e:mA P n t d=(cK P n t d).headD .undef:=by
   unfold mA
   grind
  rw[e];rw[hc] at h1;generalize cK P n t d=l at h1 h2
  cases l with
  | nil=>simp[az] at h1
  | cons x l=>
   simp only[az] at h1;simp only[aD,ye] at h2
   grind
 cases n with
 | zero=>simp[flat] at hf
 | succ n=>
  unfold Value.okWide at hv;simp only[flat] at hf
  cases hu:P.underlying t with
  | none=>simp[hu] at hf
  | some ty=>
   rw[hu] at hv hf;cases ty<;>simp only[yC] at hf hv
   case struct fs=>
    obtain⟨cs,rfl,_,_⟩:=hv;have e:mA P (n+1) t d=.agg (cK P (n+1) t d):=by simp only[mA,hu]
    rw[e];exact⟨by simp only[ae];exact⟨cs,rfl,h1⟩,by simpa only[aW] using h2⟩
   case array k e=>
    obtain⟨cs,rfl,_,_⟩:=hv;have e:mA P (n+1) t d=.agg (cK P (n+1) t d):=by simp only[mA,hu]
    rw[e];exact⟨by simp only[ae];exact⟨cs,rfl,h1⟩,by simpa only[aW] using h2⟩
   all_goals
    refine one ?_ (by simp[hu]) (by simp[hu])
    cases v with
    | agg cs=>exfalso;simp only[Cell.okWide,Cell.ok,hu] at hv
    | _=>rfl
def AQ(P:xm)(n:Nat):List yv->List (xR H)->List AV
 | t::ts,d::ds=>mA P n t d::AQ P n ts ds
 | _,_=>[]
def aat(hS:∀b,b<w.heap.size->S b){n base:Nat}:∀{ts:List yv} {vs:List yg} {ds:List (xR H)} {ps:List wT},ts.all (flat P n)=ydh->DataW.TrodAll enc P w 0 (fun _=>ydh) held ts vs ds ps->
  (∀(j:Nat) t v,ts[j]? =Ft t->vs[j]? =Ft v->Value.okWide P w .any base t v)->az ab m S w (AQ P n ts ds) vs/\aD (AQ P n ts ds)=ydh
 | [],[],[],_,_,_,_=>by simp[AQ,az,aD]
 | t::ts,v::vs,d::ds,ps,hf,h,hv=>by
  simp only[yal,ye] at hf;have⟨p,q,h1,h2,_⟩:=h;have⟨a1,a2⟩:=apk (ab:=ab) (m:=m) hS hf.1 h1 (hv 0 t v rfl rfl);have⟨b1,b2⟩:=aat hS hf.2 h2 (fun j t v h1 h2=>hv (j+1) t v h1 h2);simp only[AQ,az,aD,ye]
  grind
 | [],_::_,_,_,_,h,_=>by simp[DataW.TrodAll] at h
 | [],[],_::_,_,_,h,_=>by simp[DataW.TrodAll] at h
 | _::_,[],_,_,_,h,_=>by simp[DataW.TrodAll] at h
 | _::_,_::_,[],_,_,h,_=>by simp[DataW.TrodAll] at h
end
end
section
open Go
section
variable {H:Type}{enc:yv×yg->H}{P:xm}{w w':yi}{held:Bool}{sp:Nat->Bool}
def akb(hs:∀b,b<w.heap.size->w'.heap[b]? =w.heap[b]?){a:uK}{u:yg}(h:w.cell? a=Ft u):w'.cell? a=Ft u:=by
 unfold World.cell? at h ⊢
 grind
def ajG(hs:∀b,b<w.heap.size->w'.heap[b]? =w.heap[b]?){base:Nat}{a:uK}{n:Nat}{us:List yg}(h:w.cells? base a n=Ft us):w'.cells? base a n=Ft us:=by
 unfold World.cells? at h ⊢
 split at h
 .rename_i hb;rw[yP hb];exact mapM_carry h (fun x y _ _ hx=>akb hs hx)
 .cases h
def apl{a:uK}{n:Nat}(h:0<n):MemPlace.cell a.block (a.off+0)∈MemPlace.row a n:=by
 unfold MemPlace.row
 simp_all
def YP(hs:∀b,b<w.heap.size->w'.heap[b]? =w.heap[b]?):∀(n bi:Nat) (t:yv) (cs:List yg) (d:xR H) (ps:List wT),flat P n t=ydh->DataW.trod enc P w 0 (fun _=>ydh) held bi t cs=Ft (d,ps)->
  (∀p,p∈ps->sp p.block=ydh)->DataW.trod enc P w' 0 sp held bi t cs=Ft (d,ps)
 | 0,bi,t,cs,d,ps,hf,h,hp=>by simp[flat] at hf
 | n+1,0,t,cs,d,ps,hf,h,hp=>by simp[DataW.trod] at h
 | n+1,bi+1,t,cs,d,ps,hf,h,hp=>by
  have IH:=YP hs n bi;have elem:∀{e:yv} {a:uK} {y:xR H×List wT},flat P n e=ydh->(w.cells? 0 a (P.cellsOf e)).bind (DataW.trod enc P w 0 (fun _=>ydh) held bi e)=Ft y->(∀p,p∈y.2->sp p.block=ydh)->
    (w'.cells? 0 a (P.cellsOf e)).bind (DataW.trod enc P w' 0 sp held bi e)=Ft y:=by
   intro e a y he h hq
   cases h1:w.cells? 0 a (P.cellsOf e) with
   | none=>simp[h1] at h
   | some us=>
    rw[h1] at h;rw[ajG hs h1]
    grind
  unfold DataW.trod at h ⊢;simp only[flat] at hf
  split at h
  .grind
  .grind
  .grind
  .grind
  .grind
  .grind
  .grind
  .rename_i e a len cap hu;simp only[hu,ye] at hf;obtain⟨f1,f2,f3⟩:=hf;have eC:=qt.1 f2;simp only at h ⊢
   split at h
   case isFalse=>cases h
   rename_i hc;rw[yP hc];simp only[xQ] at h
   cases h1:(wF len).mapM fun i=>(w.cells? 0 (a.add (i*P.cellsOf e)) (P.cellsOf e)).bind (DataW.trod enc P w 0 (fun _=>ydh) held bi e) with
   | none=>rw[h1] at h;simp at h
   | some kz=>
    cases h2:(wF (cap-len)).mapM fun j=>(w.cells? 0 (a.add ((len+j)*P.cellsOf e)) (P.cellsOf e)).bind (DataW.trod enc P w 0 (fun _=>ydh) held bi e) with
    | none=>rw[h1] at h;simp[h2] at h
    | some rest=>
     rw[h1] at h;simp only[wG,h2,wU,yb,yj] at h;obtain⟨rfl,rfl⟩:=h;have k1:((wF len).mapM fun i=>(w'.cells? 0 (a.add (i*P.cellsOf e)) (P.cellsOf e)).bind (DataW.trod enc P w' 0 sp held bi e))=Ft kz:=
      mapM_carry h1 (fun x y _ hy hx=>elem f3 hx (fun p hq=>hp p (uj _ (tj.2 ⟨y,tN _ hy,hq⟩))))
     have k2:((wF (cap-len)).mapM fun j=>(w'.cells? 0 (a.add ((len+j)*P.cellsOf e)) (P.cellsOf e)).bind (DataW.trod enc P w' 0 sp held bi e))=Ft rest:=
      mapM_carry h2 (fun x y _ hy hx=>elem f3 hx (fun p hq=>hp p (uj _ (tj.2 ⟨y,uj _ hy,hq⟩))))
     have hr:(if sp a.block=ydh then (wF (cap-len)).mapM fun j=>(w'.cells? 0 (a.add ((len+j)*P.cellsOf e)) (P.cellsOf e)).bind (DataW.trod enc P w' 0 sp held bi e) else Ft [])=Ft rest:=by
      by_cases jP:sp a.block=ydh
      .rw [yP jP];exact k2
      .rw [yz jP];have h0:¬0<(kz.length+rest.length)*P.cellsOf e:=fun h0=>jP (hp _ (tN _ (apl h0)))
       have hz:kz.length+rest.length=0:=by
        rcases xq (kz.length+rest.length) with h | h
        .exact h
        .exact (h0 (vv h eC)).elim
       have:rest=[]:=yK (by omega)
       rw[this]
     rw[k1];simp only[wG];rw[hr];rfl
  .rename_i Ab x1 LK fs hu;simp only[hu] at hf
   split at h
   case isFalse=>cases h
   rename_i hlen;rw[yP hlen]
   cases h1:fs.toList.mapM fun f=>DataW.trod enc P w 0 (fun _=>ydh) held bi f.type ((Ab.drop f.offset).take (P.cellsOf f.type)) with
   | none=>rw[h1] at h;simp at h
   | some xs=>
    rw[h1] at h;simp only[wU,yb,yj] at h;obtain⟨rfl,rfl⟩:=h;have rk:∀(r:List ub) (o:Nat),Fz P (fun u=>flat P n u) r o (P.cellsOf t)=ydh->∀f,f∈r->flat P n f.type=ydh:=by
     intro r
     induction r with
     | nil=>intro o _ f hm;cases hm
     | cons g r ih=>
      intro o hq f hm;simp only[Fz,ye] at hq;rcases List.mem_cons.1 hm with rfl | hm
      .exact hq.2.1
      .exact ih _ hq.2.2 f hm
    have k1:(fs.toList.mapM fun f=>DataW.trod enc P w' 0 sp held bi f.type ((Ab.drop f.offset).take (P.cellsOf f.type)))=Ft xs:=
     mapM_carry h1 (fun f y hm hy hx=>IH _ _ y.1 y.2 (rk _ _ hf f hm) hx (fun p hq=>hp p (tj.2 ⟨y,hy,hq⟩)))
    rw[k1];rfl
  .rename_i Ab x1 LK k e hu;simp only[hu,ye] at hf
   split at h
   case isFalse=>cases h
   rename_i hlen;rw[yP hlen]
   cases h1:(wF k).mapM fun i=>DataW.trod enc P w 0 (fun _=>ydh) held bi e ((Ab.drop (i*P.cellsOf e)).take (P.cellsOf e)) with
   | none=>rw[h1] at h;simp at h
   | some xs=>
    rw[h1] at h;simp only[wU,yb,yj] at h;obtain⟨rfl,rfl⟩:=h;have k1:((wF k).mapM fun i=>DataW.trod enc P w' 0 sp held bi e ((Ab.drop (i*P.cellsOf e)).take (P.cellsOf e)))=Ft xs:=
     mapM_carry h1 (fun i y _ hy hx=>IH _ _ y.1 y.2 hf.2 hx (fun p hq=>hp p (tj.2 ⟨y,hy,hq⟩)))
    rw[k1];rfl
  all_goals first
   | (cases h;done)
   | (simp_all;done)
def XZ(hs:∀b,b<w.heap.size->w'.heap[b]? =w.heap[b]?){n:Nat}:∀{ts:List yv} {vs:List yg} {ds:List (xR H)} {ps:List wT},ts.all (flat P n)=ydh->DataW.TrodAll enc P w 0 (fun _=>ydh) held ts vs ds ps->
  (∀p,p∈ps->sp p.block=ydh)->DataW.TrodAll enc P w' 0 sp held ts vs ds ps
 | [],[],[],ps,_,h,_=>by simpa only[DataW.TrodAll] using h
 | t::ts,v::vs,d::ds,ps,hf,h,hp=>by
  simp only[yal,ye] at hf;obtain⟨p,q,⟨bi,h1⟩,h2,rfl⟩:=h;exact⟨p,q,⟨bi,YP hs n bi t _ d p hf.1 h1 (fun x hx=>hp x (tN _ hx))⟩,XZ hs hf.2 h2 (fun x hx=>hp x (uj _ hx)),rfl⟩
 | [],_::_,_,_,_,h,_=>by simp[DataW.TrodAll] at h
 | [],[],_::_,_,_,h,_=>by simp[DataW.TrodAll] at h
 | _::_,[],_,_,_,h,_=>by simp[DataW.TrodAll] at h
 | _::_,_::_,[],_,_,h,_=>by simp[DataW.TrodAll] at h
end
end
section
open Go Go.ChangeShapes Go.WideShapes
section
variable {H:Type}{enc:yv×yg->H}{P:xm}{W W':yi}
def alk(hc:Calm W W')(may:wT->Prop):W.keptBut W' may:=by
 refine⟨hc.os,hc.output,fun i hi=>?_⟩;rw[hc.same i hi]
 cases hq:W.heap[i]? with
 | none=>rfl
 | some o=>cases o<;>simp
def ajH(hc:Calm W W'){b off:Nat}(hb:b<W.heap.size):W'.frozen? ⟨b,off,Fu⟩=W.frozen? ⟨b,off,Fu⟩:=by
 unfold World.frozen?;rw[hc.same b hb]
def ank{fn:Func}{s:ycC}{apart fresh handsOn again:Bool}{args:Array yg}{ds gs:List (xR H)}{before:List wT}{n:Nat}{tb:yv}(hW:DataW.Whole enc P fn.params.toList s.vars apart W args.toList ds gs before)(hv:s.vars=[])(Oo:fn.params.toList.all (flat P n)=ydh)(hc:Calm W W')(ma:s.fn H (ds++gs)={results:=[.lit (.bool ydh)],args:=ds})(so:fn.resultTypes=#[tb])(ll:P.underlying tb=Ft .bool):
  s.post enc P fn apart fresh handsOn again W args (.bool ydh) W':=by
 have aM:=hW.lt;have hW0:=hW;obtain⟨p,q,hA,hV,hpq,hz,hn⟩:=hW;rw[hv] at hV;have hq:gs=[]/\q=[]:=by
  cases gs with
  | nil=>exact⟨rfl,by simpa only[DataW.TrodVars] using hV⟩
  | cons g gs=>simp[DataW.TrodVars] at hV
 obtain⟨rfl,rfl⟩:=hq;have hbp:before=p:=by simp_all
 subst hbp;have eA:∀sp:Nat->Bool,(∀p∈before,sp p.block=ydh)->DataW.TrodAll enc P W' 0 sp ydh fn.params.toList args.toList ds before:=fun sp h=>XZ hc.same Oo hA h
 have adS:∀(b:Nat) (sp:Nat->Bool) (hd:Bool),DataW.TrodAll enc P W' b sp hd fn.resultTypes.toList ((Value.bool ydh).resultList fn.resultTypes.size) [.lit (.bool ydh)] []:=by
  intro b sp hd;rw[so];refine⟨[],[],⟨1,?_⟩,rfl,rfl⟩;simp[DataW.trod,ll,Value.cells]
 have hold:∀p∈before,(fun b=>decide (b<W.heap.size)) p.block=ydh:=fun p hp=>by simpa using aM p hp
 have adT:∀sp:Nat->Bool,DataW.TrodVars enc P W' sp s.vars ([]:List (xR H)) []:=fun sp=>by rw[hv];rfl
 refine⟨ds,[],before,[],before,[],hW0,by rw[ma];exact adS _ _ _,by rw[ma];exact eA _ hold,by rw[ma];exact adT _,alk hc _,fun _=>?_⟩
 refine⟨?_,[.lit (.bool ydh)]++ds,[],[]++before++[],⟨[]++before,[],trodAll_append (eA _ (fun _ _=>rfl)) (adS _ _ _),adT _,rfl,?_,?_⟩,?_⟩
 .intro j t r h1 h2;rw[so] at h1 h2
  cases j with
  | zero=>
   simp only[List.getElem?_toArray,ui,yb] at h1;simp only[Value.resultList,List.size_toArray,yy,yH,xQ,yd,ui,yb] at h2;subst h1;subst h2;simp[Value.okWide,ll,Cell.okWide,Cell.ok]
  | succ j=>simp at h1
 .intro b off hp;have hp:MemPlace.cell b off∈before:=by grind
  rw[ajH hc (b:=b) (aM _ hp)];exact hz b off hp
 .grind
 .grind
def alm{O:bl}{n k:Nat}{fn:Func}{s:ycC}{apart fresh handsOn again:Bool}{base:Nat}{args:Array yg}{ds gs:List (xR H)}{before:List wT}{tb:yv}(hp:dZ O n (AQ O.P k fn.params.toList ds) (.bool ydh))(Db:O.w0=W)(ma:O.P.funcs[O.ab n]? =Ft fn)(hb:fn.body.isSome=ydh)(rm:fn.name≠ "runtime.NumGoroutine")(aO:∀(j:Nat) t v,fn.params[j]? =Ft t->args[j]? =Ft v->Value.okWide O.P W .any base t v)(hW:DataW.Whole enc O.P fn.params.toList s.vars apart W args.toList ds gs before)(hv:s.vars=[])(Oo:fn.params.toList.all (flat O.P k)=ydh)(hfs:s.fn H (ds++gs)={results:=[.lit (.bool ydh)],args:=ds})(so:fn.resultTypes=#[tb])(ll:O.P.underlying tb=Ft .bool):
  Calls O.P (O.ab n) args W fun e W'=>∃v,e=.returned v/\s.post enc O.P fn apart fresh handsOn again W args v W':=by
 have hA:=hW;obtain⟨p,q,hA,_⟩:=hA;obtain⟨h1,h2⟩:=aat (ab:=O.ab) (m:=eR) (S:=fun b=>b<W.heap.size) (fun b hb=>hb) Oo hA (fun j t v a b=>aO j t v (by simpa using a) (by simpa using b));have hi:=hp W (fun b=>b<W.heap.size) args ⟨fun b _=>by rw[Db],by rw[Db];exact yu _⟩ (fun b hb=>hb) h1 h2
 have key:∀e W',aaa O W (fun b=>b<W.heap.size) (.bool ydh) e W'->∃v,e=.returned v/\s.post enc O.P fn apart fresh handsOn again W args v W':=by
  rintro e W' ⟨u,S',rfl,hc,_,_,_,hr⟩;obtain⟨_,_,hu,_⟩:=hr;subst hu;exact⟨_,rfl,ank hW hv Oo hc hfs so ll⟩
 rcases hi with ⟨_,hi⟩ | ⟨u,w',hi,_⟩
 .exact callsIn_wide.1 (hi.mono key)
 .rw [I1 ma hb rm] at hi;cases hi
end
end
namespace J1
open Go Go.Proofs
noncomputable def O(W:yi):bl:=⟨Tryz.prog,VE.aI,A6 nA.ab,VE.prog,Ok nA.bm nA.hd,W⟩
def ZE{w:yi}{k:Nat}{os:Array Go.Obj}:Calm w (Go.Sort.grow (w.drewN k) os):=IN (Lib.below_grow w.heap.size w (yu _) k os)
def aau{W w:yi}(h:Lib.TabIs Tryz.prog W "internal/strconv.uint64pow10" .u64 Lib.pow10Tab)(hg:Cn (O W) w):Lib.TabIs Tryz.prog w "internal/strconv.uint64pow10" .u64 Lib.pow10Tab:=by
 unfold Lib.TabIs World.var? at h ⊢
 cases hn:Tryz.prog.globalNamed "internal/strconv.uint64pow10" with
 | none=>rw[hn] at h;exact h
 | some g=>
  rw[hn] at h;simp only[wG] at h ⊢;have hb:g<W.heap.size:=by
   cases hq:W.heap[g]? with
   | none=>rw[hq] at h;cases h
   | some o=>exact (xt.1 hq).1
  rw[hg.1 g hb];exact h
def axH:∀args w,(callFunc 120 args).run Tryz.prog w=.ok (.enter 120 args) w:=enters_of Tryz.func120 (by kernel_rfl) rfl
def axI:∀args w,(callFunc 190 args).run Tryz.prog w=.ok (.enter 190 args) w:=enters_of Tryz.func190 (by kernel_rfl) rfl
def axJ:∀args w,(callFunc 239 args).run Tryz.prog w=.ok (.enter 239 args) w:=enters_of Tryz.func239 (by kernel_rfl) rfl
def axK:∀args w,(callFunc 241 args).run Tryz.prog w=.ok (.enter 241 args) w:=enters_of Tryz.func241 (by kernel_rfl) rfl
def axL:∀args w,(callFunc 242 args).run Tryz.prog w=.ok (.enter 242 args) w:=enters_of Tryz.func242 (by kernel_rfl) rfl
def axM:∀args w,(callFunc 230 args).run Tryz.prog w=.ok (.enter 230 args) w:=enters_of Tryz.func230 (by kernel_rfl) rfl
def axN:∀args w,(callFunc 196 args).run Tryz.prog w=.ok (.enter 196 args) w:=enters_of Tryz.func196 (by kernel_rfl) rfl
def axO:∀args w,(callFunc 197 args).run Tryz.prog w=.ok (.enter 197 args) w:=enters_of Tryz.func197 (by kernel_rfl) rfl
def axP:∀args w,(callFunc 198 args).run Tryz.prog w=.ok (.enter 198 args) w:=enters_of Tryz.func198 (by kernel_rfl) rfl
def axQ:∀args w,(callFunc 249 args).run Tryz.prog w=.ok (.enter 249 args) w:=enters_of Tryz.func249 (by kernel_rfl) rfl
def axR:∀args w,(callFunc 266 args).run Tryz.prog w=.ok (.enter 266 args) w:=enters_of Tryz.func266 (by kernel_rfl) rfl
def axS:∀args w,(callFunc 258 args).run Tryz.prog w=.ok (.enter 258 args) w:=enters_of Tryz.func258 (by kernel_rfl) rfl
def apm(b:Nat)(w:yi):(callFunc 265 #[.float .f64 b]).run Tryz.prog w=.ok (.value (.int .u64 b)) w:=by
 rw[run_callFunc_extern Tryz.func265 (by kernel_rfl) (by kernel_rfl) (by kernel_rfl) (e:=Extern.MathFloatBits.float64bits) (by kernel_rfl)];rfl
def ajI(b:Nat)(w:yi):(callFunc 264 #[.int .u64 b]).run Tryz.prog w=.ok (.value (.float .f64 b)) w:=by
 rw[run_callFunc_extern Tryz.func264 (by kernel_rfl) (by kernel_rfl) (by kernel_rfl) (e:=Extern.MathFloatBits.float64frombits) (by kernel_rfl)];rfl
def av5(W:yi)(n:Nat)(sp:List AV->Option AV):Prop:=∀aq r,sp aq=Ft r->dZ (O W) n aq r
section
variable {W:yi}{m:Int}(hm:W.cell? ⟨4,0,Fu⟩=Ft (.int .i64 m))(ht:Lib.TabIs Tryz.prog W "internal/strconv.uint64pow10" .u64 Lib.pow10Tab)
include hm ht
theorem asR:afb.lZ (av5 W):=
 (Tr.kw (ana (O:=O W) (f:=198) (by rfl) axP (fun s z w hl h=>(Tryz.strconv_Atoi s z hl h w).mono fun _ _ ⟨h1,t,h2⟩=>⟨h1,h2▸IN (Lib.bytesWorld_below _ _ _)⟩))
  (Tr.kw (aj9 (O:=O W) (f:=242) (by rfl) axL Tryz.strings_Repeat)
  (Tr.kw (am9 (O:=O W) (f:=239) (by rfl) axJ (fun z w h0 h1 hg=>(Tryz.strconv_Itoa z h0 h1 w (aau ht hg)).mono fun _ _ ⟨h1,k,os,h2⟩=>⟨h1,h2▸ZE⟩))
  (Tr.kw (ai4 (O:=O W) (f:=190) (by rfl) axI Tryz.strings_CutPrefix)
  (Tr.kw (ao3 (O:=O W) (f:=120) (by rfl) axH (a:=⟨4,0,Fu⟩) (m:=m) hm (fun s sep w hs hc=>Tryz.strings_Cut s sep m w hs hc))
  Tr.jJ Tr.jJ) Tr.jJ) (Tr.kw (ai2 (O:=O W) (f:=241) (by rfl) axK (fun z w hz hg=>(Tryz.aiT z hz w (aau ht hg)).mono fun _ _ ⟨h1,k,os,h2⟩=>⟨h1,h2▸ZE⟩))
  Tr.jJ Tr.jJ)) (Tr.kw (ai5 (O:=O W) (f:=196) (by rfl) axN Tryz.strings_HasPrefix)
  (Tr.kw (alc (O:=O W) (f:=230) (by rfl) axM (fun x y w hx hy=>Tryz.bits_Mul64 x y hx hy w))
  Tr.jJ Tr.jJ) (Tr.kw (ai1 (O:=O W) (f:=197) (by rfl) axO Tryz.strings_TrimPrefix)
  Tr.jJ Tr.jJ))) (Tr.kw (alf (O:=O W) (f:=263) (by rfl) (fun x y b w h=>Tryz.bits_Sub64 x y b h w))
  (Tr.kw (anb (O:=O W) (f:=266) (by rfl) axR (fun x w h0 h1=>Tryz.bits_LeadingZeros64 x w h0 h1))
  (Tr.kw (am8 (O:=O W) (f:=249) (by rfl) axQ (fun s cs w hs CV ha=>Tryz.ajk s cs w hs CV ha))
  Tr.jJ Tr.jJ) (Tr.kw (ale (O:=O W) (f:=261) (by rfl) (fun x y c w h=>Tryz.bits_Add64 x y c h w))
  Tr.jJ Tr.jJ)) (Tr.kw (ajv (O:=O W) (f:=265) (by rfl) apm)
  (Tr.kw (ald (O:=O W) (f:=258) (by rfl) axS (fun x w h0 h1=>Tryz.bits_Len64 x w h0 h1))
  Tr.jJ Tr.jJ) (Tr.kw (aiY (O:=O W) (f:=264) (by rfl) ajI)
  Tr.jJ Tr.jJ))))
theorem apo:iw (O W) where
 hint n f g h:=Tr.DI (p:=fun f g=>A6 nA.ab g=f) (Rr nA.arZ) h
 mixed:=by kernel_rfl
 prog n F h:=Tr.DI nA.api h
 aI n sp aq r h hs:=Tr.DI (asR hm ht) h aq r hs
 Gw n sp hp ct aq v an aH h:=by cases h
end
end J1
def cD:List Int->Int
 | []=>0
 | a::r=>if a=0 then cD r else a
def Yl{l:List Int}{i:Nat}(h:i<l.length):cD (l.drop i)=if l[i]=0 then cD (l.drop (i+1)) else l[i]:=by
 rw[yR h,cD]
def oe(lo hi:Int):List Int->Bool
 | []=>ydi
 | a::r=>if a<lo\/hi<a then ydh else oe lo hi r
def adU(n:Nat)(lo hi:Int):List (List Int)->Int
 | []=>0
 | r::s=>if r.length≠n then 2 else if oe lo hi r=ydh then 3 else adU n lo hi s
def aDA(s:List (List Int)):Int:=if s.length=0 then 12 else if 16<s.length then 5 else adU s.length (-1000) 1000 s
def aav{lo hi:Int}{l:List Int}(h:oe lo hi l=ydi):∀i (eD:i<l.length),lo<=l[i]/\l[i]<=hi:=by
 induction l with
 | nil=>intro i eD;exact absurd eD (Nat.not_lt_zero _)
 | cons a r ih=>
  simp only[oe] at h
  grind
def aln{lo hi:Int}{l:List Int}(h:oe lo hi l=ydi):∀i,oe lo hi (l.take i)=ydi:=by
 induction l with
 | nil=>intro i;simp[oe]
 | cons a r ih=>
  intro i;simp only[oe] at h
  split at h
  .grind
  .rename_i hc
   cases i with
   | zero=>simp[oe]
   | succ i=>simp only[List.take_succ_cons,oe,hc,xy,ih h i]
section
variable {x:Int}{a b l:List Int}
def dv:List Int->Nat
 | []=>0
 | a::r=>a.toNat+1000000000*dv r
def nO:∀(a b:List Int),dv (a++b)=dv a+1000000000^a.length*dv b
 | [],b=>by simp[dv]
 | x::a,b=>by
  simp only[yx,dv,nO a b,yy,xh,xC]
  grind
def qu(i:Nat):dv (l.take (i+1))=dv (l.take i)+1000000000^i*(l.getD i 0).toNat:=by
 by_cases h:i<l.length
 .rw [xa h,nO,yQ,xj (by lia)];simp[dv,yD,yN h]
 .rw [yG (by lia),yG (by lia)]
  grind
abbrev dg(l:List Int):Prop:=oe 0 999999999 l=ydi
def iS:dg (a++b)↔dg a/\dg b:=by
 induction a with
 | nil=>simp[dg,oe]
 | cons x a ih=>
  simp only[dg,yx,oe] at ih ⊢
  grind
def mr:dg [x]↔0<=x/\x<1000000000:=by
 simp only[dg,oe]
 grind
def iV(h:dg l)(i:Nat):0<=l.getD i 0/\l.getD i 0<1000000000:=by
 by_cases hi:i<l.length
 .have:=aav h i hi
  grind
 .grind
def DO(h:dg l)(i:Nat):dg (l.take i):=aln h i
def kA:∀{l:List Int},dg l->dv l<1000000000^l.length
 | [],_=>by simp[dv]
 | x::l,h=>by
  have h':dg ([x]++l):=h;have⟨h1,h2⟩:=iS.1 h';have h1:=mr.1 h1
  have:=kA h2
  simp only[dv,yy,xh]
  lia
def dS:List Int->List Int
 | []=>[]
 | a::r=>match dS r with | []=>if a=0 then [] else [a] | t::q=>a::t::q
def IQ:∀l:List Int,dS (l++[0])=dS l
 | []=>rfl
 | a::l=>by simp only[yx,dS,IQ l]
def MJ{a:Int}(h:a≠0):∀l:List Int,dS (l++[a])=l++[a]
 | []=>by simp[dS,h]
 | b::l=>by
  simp only[yx,dS,MJ h l]
  cases hq:l++[a] with
  | nil=>simp at hq
  | cons t q=>rfl
def AE:∀l:List Int,dv (dS l)=dv l
 | []=>rfl
 | a::l=>by
  have ih:=AE l;simp only[dS,dv]
  split
  .rename_i h;rw[h] at ih
   split
   .rename_i h0;subst h0;simp[dv,<-ih]
   .simp [dv,<-ih]
  .rename_i t q h;rw[h] at ih;simp only[dv] at ih ⊢
   lia
def BV:∀{l:List Int},dg l->dg (dS l)
 | [],_=>rfl
 | a::l,h=>by
  have h':dg ([a]++l):=h;have⟨h1,h2⟩:=iS.1 h';have ih:=BV h2;simp only[dS]
  split
  .grind
  .rename_i t q hq;rw[hq] at ih
   exact (iS (a:=[a]) (b:=t::q)).2 ⟨h1,ih⟩
def M1:∀l:List Int,(dS l).length<=l.length
 | []=>yu _
 | a::l=>by
  have ih:=M1 l;simp only[dS]
  grind
def snoc{α:Type}(l:List α):l=[]\/∃m a,l=m++[a]:=by
 rcases List.eq_nil_or_concat l with h | ⟨m,a,h⟩
 .grind
 .grind
def ajJ:∀(n:Nat) (l:List Int),l.length=n->dS (dS l)=dS l:=by
 intro n
 induction n with
 | zero=>intro l h;rw[yK h];rfl
 | succ n ih=>
  intro l h;rcases snoc l with rfl | ⟨m,a,rfl⟩
  .rfl
  .by_cases h0:a=0
   .subst h0;rw[IQ]
    grind
   .rw [MJ h0,MJ h0]
def akc(l:List Int):dS (dS l)=dS l:=ajJ _ l rfl
abbrev nz(l:List Int):Prop:=dS l=l
def FO(l:List Int):nz (dS l):=akc l
def Oq(h:nz l)(hd:dg l)(h0:l≠[]):1000000000^(l.length-1)<=dv l:=by
 rcases snoc l with rfl | ⟨m,a,rfl⟩
 .grind
 .by_cases ha:a=0
  .subst ha
   have:=M1 m
   have e:=congrArg wu h;rw[IQ] at e
   grind
  .rw [nO]
   have:=mr.1 (iS.1 hd).2
   simp only[dv,yJ,tC,vN,xB,yW];have h1:1<=a.toNat:=by lia
   have:=yY (1000000000^m.length) h1
   lia
def abI(h:nz l)(hd:dg l)(h0:dv l=0):l=[]:=by
 by_cases hl:l=[]
 .grind
 .have:=Oq h hd hl
  grind
def TD(ha:dg a)(hb:nz b)(bH:dg b)(h:a.length<b.length):dv a<dv b:=by
 have h1:=kA ha;have h2:=Oq hb bH (fun e=>by subst e;simp at h);have h3:1000000000^a.length<=1000000000^(b.length-1):=xc (by decide) (by lia)
 lia
def dN(m n:Nat):Int:=if m<n then -1 else if n<m then 1 else 0
def acu{i:Nat}(h:i<l.length):dv l=dv (l.take i)+1000000000^i*(l[i].toNat+1000000000*dv (l.drop (i+1))):=by
 have e:l=l.take i++l[i]::l.drop (i+1):=by simp_all
 have:dv l=dv (l.take i++l[i]::l.drop (i+1)):=congrArg dv e
 rw[this,nO,yQ,xj (by lia)];rfl
def abJ{i:Nat}(ha:dg a)(hb:dg b)(h1:i<a.length)(h2:i<b.length)(he:a.drop (i+1)=b.drop (i+1))(h:a[i]<b[i]):dv a<dv b:=by
 rw[acu h1,acu h2,he];have hl:=kA (DO ha i);have g1:=aav ha i h1;have h3:a[i].toNat+1000000000*dv (b.drop (i+1))+1<=b[i].toNat+1000000000*dv (b.drop (i+1)):=by lia
 have:=yY (1000000000^i) h3
 grind
def TE:∀{l:List Int} {j:Nat} {x:Int},j<l.length->dv (l.set j x)+1000000000^j*(l.getD j 0).toNat=dv l+1000000000^j*x.toNat
 | [],j,x,h=>by simp at h
 | a::l,0,x,_=>by simp[dv];lia
 | a::l,j+1,x,h=>by
  have ih:=TE (l:=l) (j:=j) (x:=x) (by simpa using h);simp only[ybl,dv,ybe,xh]
  grind
def NZ(h:dg l){j:Nat}(hx:0<=x/\x<1000000000):dg (l.set j x):=by
 by_cases hj:j<l.length
 .rw [vD,yP hj];have e:l=l.take (j+1)++l.drop (j+1):=(wi _ _).symm;have hd:dg (l.drop (j+1)):=by rw[e] at h;exact (iS.1 h).2
  exact iS.2 ⟨DO h j,(iS (a:=[x]) (b:=l.drop (j+1))).2 ⟨mr.2 hx,hd⟩⟩
 .rw [List.set_eq_of_length_le (by lia)];exact h
def aaw{j m:Nat}(h:m≠j):(l.set j x).getD m 0=l.getD m 0:=by grind
def anl{V0 V V' p q A X Y o c s:Nat}(hs:s=o+A*X+c)(aU:V'+p*q*o=V+p*q*(s%1000000000))(hv:V+p*q*c=V0+p*(A*Y)):
  V'+p*(q*1000000000)*(s/1000000000)=V0+p*(A*(Y+q*X)):=by
 have e:=tg s 1000000000;have e2:p*q*s=p*q*(s%1000000000)+p*(q*1000000000)*(s/1000000000):=by
  conv=>lhs;rw[<-e]
  rw[xC,<-xe (p*q),<-xe p q]
 have e3:p*q*s=p*q*o+p*q*(A*X)+p*q*c:=by rw[hs,xC,xC]
 have e4:p*(A*(Y+q*X))=p*(A*Y)+p*q*(A*X):=by
  rw[xC,xC,xe p q,<-xe A q X,xp A q,xe q A X]
 lia
def aax(n:Nat):dv (yp n 0)=0:=by
 induction n with
 | zero=>rfl
 | succ n ih=>simp[wO,dv,ih]
def aay(n:Nat):dg (yp n 0):=by
 induction n with
 | zero=>rfl
 | succ n ih=>exact (iS (a:=[0]) (b:=yp n 0)).2 ⟨by decide,ih⟩
end
section
variable {l m:List Nat}{U V i p u0 u1 u2 ur v1 v2 vr x:Nat}
def bv(b:Nat):List Nat->Nat
 | []=>0
 | a::r=>a+b*bv b r
def lo(b:Nat)(l:List Nat):Prop:=∀x,x∈l->x<b
section
variable {b:Nat}
def Cc(a:Nat):bv b [a]=a:=by simp[bv]
def zn:∀(l m:List Nat),bv b (l++m)=bv b l+b^l.length*bv b m
 | [],m=>by simp[bv]
 | x::l,m=>by
  simp only[yx,bv,zn l m,yy,xh,xC]
  grind
def gd(h:i<l.length):l[i]=l.getD i 0:=by simp_all
def TF(h:l.length<=i):l.getD i 0=0:=by simp_all
def jU(i:Nat):bv b (l.take (i+1))=bv b (l.take i)+b^i*l.getD i 0:=by
 by_cases h:i<l.length
 .rw [xa h,zn,yQ,xj (by lia),Cc,gd h]
 .rw [yG (by lia),yG (by lia),TF (by lia),xB,yW]
def N1:lo b []:=fun _ h=>by simp at h
def M2:lo b (l++m)↔lo b l/\lo b m:=by
 constructor
 .intro h;exact⟨fun x hx=>h x (by simp[hx]),fun x hx=>h x (by simp[hx])⟩
 .rintro ⟨h1,h2⟩ x hx;rcases xH.1 hx with h | h
  .exact h1 x h
  .exact h2 x h
def Ge:lo b [x]↔x<b:=by simp[lo]
def iy(hb:0<b)(h:lo b l)(i:Nat):l.getD i 0<b:=by
 by_cases hi:i<l.length
 .rw [<-gd hi];exact h _ (List.getElem_mem hi)
 .grind
def B2(h:lo b l)(i:Nat):lo b (l.take i):=fun x hx=>h x (List.mem_of_mem_take hx)
def abK(h:lo b l)(i:Nat):lo b (l.drop i):=fun x hx=>h x (List.mem_of_mem_drop hx)
def mT(h:lo b l)(hx:x<b):lo b (l.set i x):=fun y hy=>by
 rcases List.mem_or_eq_of_mem_set hy with h1 | h1
 .exact h y h1
 .lia
def Gf(hb:0<b)(n:Nat):lo b (yp n 0):=fun x hx=>by
 grind
def Gg(n:Nat):bv b (yp n 0)=0:=by
 induction n with
 | zero=>rfl
 | succ n ih=>simp[wO,bv,ih]
def DP(n m:Nat):(yp n (0:Nat)).getD m 0=0:=by grind
def mX:∀{l:List Nat},lo b l->bv b l<b^l.length
 | [],_=>by simp[bv]
 | x::l,h=>by
  have h1:=h x (by simp);have h2:=mX (l:=l) (fun y hy=>h y (by simp[hy]));simp only[bv,yy,xh,xp _ b]
  have:=yY b (show bv b l+1<=b^l.length from h2)
  grind
def oY:∀{l:List Nat} {i x:Nat},i<l.length->bv b (l.set i x)+b^i*l.getD i 0=bv b l+b^i*x
 | [],i,x,h=>by simp at h
 | a::l,0,x,_=>by simp[bv];lia
 | a::l,i+1,x,h=>by
  have ih:=oY (l:=l) (i:=i) (x:=x) (by simpa using h)
  have:=congrArg (fun t=>b*t) ih
  simp only[xC] at this;simp only[ybl,bv,ybe,xh,xp _ b,xe] at this ⊢
  lia
def qv{m:Nat}(h:i≠m):(l.set i x).getD m 0=l.getD m 0:=by simp_all
def akd(h:i<l.length):(l.set i x).getD i 0=x:=by simp_all
def I2(l:List Nat)(i:Nat)(h:i<=l.length):bv b l=bv b (l.take i)+b^i*bv b (l.drop i):=by
 have:=zn (b:=b) (l.take i) (l.drop i)
 simp_all
def dT:List Nat->List Nat
 | []=>[]
 | a::r=>match dT r with | []=>if a=0 then [] else [a] | t::q=>a::t::q
def MK:∀l:List Nat,dT (l++[0])=dT l
 | []=>rfl
 | a::l=>by simp only[yx,dT,MK l]
def FA{a:Nat}(h:a≠0):∀l:List Nat,dT (l++[a])=l++[a]
 | []=>by simp[dT,h]
 | b::l=>by
  simp only[yx,dT,FA h l]
  cases hq:l++[a] with
  | nil=>simp at hq
  | cons t q=>rfl
abbrev ie(l:List Nat):Prop:=dT l=l
def ake:∀(n:Nat) (l:List Nat),l.length=n->∃i,i<=n/\dT l=l.take i/\ie (l.take i)/\bv b (l.take i)=bv b l:=by
 intro n
 induction n with
 | zero=>intro l h;rw[yK h];exact⟨0,yu _,rfl,rfl,rfl⟩
 | succ n ih=>
  intro l h;rcases snoc l with rfl | ⟨m,a,rfl⟩
  .grind
  .have hm:m.length=n:=by simp_all
   by_cases h0:a=0
   .subst h0;have⟨i,h1,h2,h3,h4⟩:=ih m hm;have e:(m++[0]).take i=m.take i:=by grind
    refine⟨i,by lia,by rw[MK,h2,e],by rw[e];exact h3,?_⟩
    rw[e,h4,zn];simp[bv]
   .have e:(m++[a]).take (n+1)=m++[a]:=yG (by simp[hm]);exact⟨n+1,yu _,by rw[e,FA h0],by rw[e];exact FA h0 m,by rw[e]⟩
def M3(l:List Nat):∃i,i<=l.length/\dT l=l.take i/\ie (dT l)/\bv b (dT l)=bv b l:=by
 have⟨i,h1,h2,h3,h4⟩:=ake (b:=b) l.length l rfl
 grind
def BW(l:List Nat):bv b (dT l)=bv b l:=by
 have⟨_,_,_,_,h⟩:=M3 (b:=b) l;exact h
def BX(l:List Nat):ie (dT l):=by
 have⟨_,_,_,h,_⟩:=M3 (b:=2) l;exact h
def BY(h:lo b l):lo b (dT l):=by
 have⟨i,_,h2,_⟩:=M3 (b:=b) l;rw[h2];exact B2 h i
def alo(l:List Nat):(dT l).length<=l.length:=by
 have⟨i,_,h2,_⟩:=M3 (b:=2) l
 grind
def Ni(h:ie l)(h0:l≠[]):l.getD (l.length-1) 0≠0:=by
 rcases snoc l with rfl | ⟨m,a,rfl⟩
 .grind
 .intro ha
  have:a=0:=by
   grind
  subst this;have e:=congrArg wu h;rw[MK] at e
  have:=alo m
  grind
def TG(hb:0<b)(h:ie l)(h0:l≠[]):b^(l.length-1)<=bv b l:=by
 rcases snoc l with rfl | ⟨m,a,rfl⟩
 .grind
 .have ha:=Ni h h0;simp[yD] at ha;rw[zn,Cc];simp only[yJ,tC,vN]
  have:=yY (b^m.length) (show 1<=a by lia)
  lia
def ND(hb:1<b)(hl:lo b l)(hm:ie m)(h:l.length<m.length):bv b l<bv b m:=by
 have h1:=mX hl;have h2:=TG (b:=b) (by lia) hm (fun e=>by subst e;simp at h);have h3:b^l.length<=b^(m.length-1):=xc (by lia) (by lia)
 lia
def abL(hl:lo b l)(h1:i<l.length)(h2:i<m.length)(he:l.drop (i+1)=m.drop (i+1))(h:l.getD i 0<m.getD i 0):bv b l<bv b m:=by
 rw[I2 l (i+1) (by lia),I2 m (i+1) (by lia),he,jU,jU]
 have:=mX (B2 hl i)
 have:=yY (b^i) (show l.getD i 0+1<=m.getD i 0 from h)
 grind
def alp(hb:1<b){k:Nat}(h:ie l)(hk:bv b l<b^k):l.length<=k:=by
 by_cases h0:l=[]
 .grind
 .have h1:=TG (b:=b) (by lia) h h0;have h2:b^(l.length-1)<b^k:=wC h1 hk
  have:=(uh hb).1 h2
  lia
def YQ{t r:Nat}(hV:V=(v1*b+v2)*p+vr)(hU:U=((u0*b+u1)*b+u2)*p+ur)(hur:ur<p)(ht:t*v1+r=u0*b+u1)(h:r*b+u2<t*v2):U/V<=t-1:=by
 have h1:U<t*V:=by
  have e:t*((v1*b+v2)*p)=((t*v1)*b+t*v2)*p:=by
   grind
  have h2:((u0*b+u1)*b+u2)+1<=(t*v1)*b+t*v2:=by rw[<-ht,xP];lia
  have h3:=yU p h2;rw[hV,hU,xC,e]
  grind
 have zb:0<V:=by
  grind
 have:=(xK zb).2 h1
 lia
def ZF{t r:Nat}(hb:0<b)(hV:V=(v1*b+v2)*p+vr)(LL:vr<p)(hU:U=((u0*b+u1)*b+u2)*p+ur)(eS:0<v1)(dE:v2<b)(ll:t<b)(ht:t*v1+r=u0*b+u1)(h:b<=r\/t*v2<=r*b+u2):t<=U/V+1:=by
 have h2:t*v2<=r*b+u2:=by
  rcases h with h | h
  .have:=yS (uL ll) (uL dE)
   have:=yU b h
   lia
  .exact h
 have h3:t*(v1*b+v2)<=(u0*b+u1)*b+u2:=by
  rw[xC,<-xe,<-ht,xP];lia
 have hp:0<p:=by lia
 have aDO:b<=v1*b:=Nat.le_mul_of_pos_left b eS;have zb:0<V:=by
  have:=vv (show 0<v1*b+v2 by lia) hp
  lia
 rcases xq t with h0 | h0
 .grind
 .obtain ⟨s,rfl⟩:∃s,t=s+1:=⟨t-1,by lia⟩;have h4:s*V<=U:=by
   have h5:V<=(v1*b+v2+1)*p:=by grind
   have h6:=yY s h5;have h7:s*(v1*b+v2+1)<=(s+1)*(v1*b+v2):=by
    grind
   have h8:=yU p (xo h7 h3)
   grind
  exact Nat.succ_le_succ ((tK zb).2 h4)
def Q9(hV:V=(v1*b+v2)*p+vr)(hU:U=((u0*b+u1)*b+u2)*p+ur)(hur:ur<p)(BA:u2<b)(eS:0<v1):U/V<=(u0*b+u1)/v1:=by
 by_cases zb:V=0
 .grind
 .refine (tK eS).2 ?_;have h1:=Nat.div_mul_le_self U V;generalize U/V=q at h1 ⊢;have h2:q*v1*(b*p)<=q*V:=by
   rw[hV,xe]
   grind
  have h3:U<(u0*b+u1+1)*(b*p):=by
   have:(u0*b+u1)*b+u2+1<=(u0*b+u1+1)*b:=by grind
   have:=yU p this
   grind
  have h4:q*v1*(b*p)<(u0*b+u1+1)*(b*p):=by lia
  have:=uS h4
  lia
def ZG(hV:V=(v1*b+v2)*p+vr)(hU:U=((u0*b+u1)*b+u2)*p+ur)(LL:vr<p)(dE:v2<b)(h:U<b*V):u0<=v1:=by
 refine Nat.le_of_lt_succ ?_;have h1:V<(v1+1)*(b*p):=by
  have:v1*b+v2+1<=(v1+1)*b:=by grind
  have:=yU p this
  grind
 have h2:u0*(b*(b*p))<=U:=by
  grind
 have h3:=yY b (uL h1);have e:b*((v1+1)*(b*p))=(v1+1)*(b*(b*p)):=by grind
 rw[e] at h3;have h4:u0*(b*(b*p))<(v1+1)*(b*(b*p)):=wC h2 (yE h h3);exact uS h4
end
end
section
variable {P:aF}{L:Lib}{f:cd}{F:Nat->cd}
def Dc(f:cd)(F:Nat->cd):Prop:=∀c s r,f c s=Ft r->∃n,F n c s=Ft r
def Mon(F:Nat->cd):Prop:=∀n m,n<=m->Le (F n) (F m)
def Mq(h:Dc f F)(n:Nat)(aq:List AV)(r:AV)(hr:bT P L f n aq=Ft r):∃k,bT P L (F k) n aq=Ft r:=by
 unfold bT at hr ⊢
 cases hL:L.pure n with
 | some sp=>exact⟨0,by simpa only[hL] using hr⟩
 | none=>
  simp only[hL] at hr ⊢
  cases hP:P n with
  | none=>simp[hP] at hr
  | some G=>
   simp only[hP] at hr ⊢
   cases hf:f G.body ⟨fg 0 aq,[],0,0⟩ with
   | none=>simp[hf] at hr
   | some q=>
    have⟨k,hk⟩:=h _ _ _ hf
    grind
def Ru(h:Dc f F)(hp:Hp)(ct:Nat)(n:Nat)(aq:List AV)(r:AV×Hp×Nat)(hr:iv P L f hp ct n aq=Ft r):∃k,iv P L (F k) hp ct n aq=Ft r:=by
 unfold iv at hr ⊢
 cases hL:L.heap n with
 | some sp=>exact⟨0,by simpa only[hL] using hr⟩
 | none=>
  simp only[hL] at hr ⊢
  cases hP:P n with
  | none=>simp[hP] at hr
  | some G=>
   simp only[hP] at hr ⊢
   cases hf:f G.body ⟨fg 0 aq,hp,ct,ct⟩ with
   | none=>simp[hf] at hr
   | some q=>
    have⟨k,hk⟩:=h _ _ _ hf
    grind
def Ym(h:Dc f F)(hm:Mon F)(hp:Hp)(ct:Nat)(l:Nat)(xs:List AV)(r:AV×Hp×Nat)(hr:fV f hp ct l xs=Ft r):∃k,fV (F k) hp ct l xs=Ft r:=by
 have key:∃k,∀g,Le (F k) g->fV g hp ct l xs=Ft r:=by
  unfold fV at hr
  cases hl:ai hp l with
  | none=>simp[hl] at hr
  | some o=>
   split at hr
   .rename_i tm ps as_ body pe lh
    cases hb:qC tm ps xs with
    | none=>simp[hb] at hr
    | some tm'=>
     simp only[hb] at hr
     cases h1:f as_ ⟨tm',hp,ct,ct⟩ with
     | none=>simp[h1] at hr
     | some q=>
      have⟨k1,gL⟩:=h _ _ _ h1
      split at hr
      .rename_i s1 axF
       split at hr
       .rename_i gh pM CR Eg nm axG
        cases h2:f body ⟨s1.tm,aU s1.hp l (.lp gh pM CR Eg 1 nm),s1.ct,s1.ct⟩ with
        | none=>simp[h2] at hr
        | some q2=>
         have⟨k2,sN⟩:=h _ _ _ h2;refine⟨max k1 k2,fun g hg=>?_⟩;have e1:=hg _ _ _ (hm k1 _ (uH k1 k2) _ _ _ gL);have e2:=hg _ _ _ (hm k2 _ (ux k1 k2) _ _ _ sN);unfold fV
         grind
       .simp at hr
      .simp at hr
   .simp at hr
 have⟨k,hk⟩:=key;exact⟨k,hk _ (fun _ _ _ h=>h)⟩
def YR(h:Dc f F)(hm:Mon F)(hp:Hp)(ct:Nat)(m:Md)(fv:AV)(xs:List AV)(r:AV×Hp×Nat)(hr:er P L f hp ct m fv xs=Ft r):∃k,er P L (F k) hp ct m fv xs=Ft r:=by
 unfold er at hr ⊢
 split at hr
 .rename_i n first cap
  cases m with
  | pure=>
   cases hz:cu deep hp (first++(xs++cap)) with
   | none=>simp[hz] at hr
   | some q=>
    simp only[hz] at hr ⊢
    cases hc:bT P L f n q.1 with
    | none=>simp[hc] at hr
    | some u=>
     have⟨k,hk⟩:=Mq h n q.1 u hc
     grind
  | own=>
   cases hz:cu deep hp (first++(xs++cap)) with
   | none=>simp[hz] at hr
   | some q=>
    simp only[hz] at hr ⊢
    cases hc:bT P L f n q.1 with
    | none=>simp[hc] at hr
    | some u=>
     have⟨k,hk⟩:=Mq h n q.1 u hc
     grind
  | heap=>exact Ru h _ _ _ _ _ hr
  | dyn=>
   cases hz:aD (first++(xs++cap)) with
   | true=>
    simp only[hz,yq] at hr ⊢
    cases hc:bT P L f n (first++(xs++cap)) with
    | none=>simp[hc] at hr
    | some u=>
     have⟨k,hk⟩:=Mq h n _ u hc
     grind
   | false=>
    simp only[hz,yO] at hr ⊢;exact Ru h _ _ _ _ _ hr
 .split at hr
  .exact Ym h hm _ _ _ _ _ hr
  .exact Ym h hm _ _ _ _ _ hr
  .simp at hr
 .simp at hr
def anm(h:Dc f F)(hm:Mon F)(tm:Env)(hp:Hp)(ct:Nat)(o:Op)(r:AV×Hp×Nat)(hr:aX P L f tm hp ct o=Ft r):∃k,aX P L (F k) tm hp ct o=Ft r:=by
 unfold aX at hr ⊢
 split at hr
 .exact YR h hm _ _ _ _ _ _ hr
 .rename_i rs fv xs
  cases hc:er P L f hp ct .dyn (ay tm fv) (dA tm xs) with
  | none=>simp[hc] at hr
  | some q=>
   have⟨k,hk⟩:=YR h hm _ _ _ _ _ _ hc
   grind
 all_goals exact⟨0,by simpa only using hr⟩
def RY(h:Dc f F)(hm:Mon F):∀(ops:List aQ) (s s':St),cV P L f ops s=Ft s'->∃k,cV P L (F k) ops s=Ft s'
 | [],s,s',hr=>⟨0,by simpa only[cV] using hr⟩
 | ⟨d,gd,o⟩::r,s,s',hr=>by
  simp only[cV] at hr ⊢
  split at hr
  .rename_i hw
   cases ho:aX P L f s.tm s.hp s.ct o with
   | none=>simp[ho] at hr
   | some q=>
    have⟨k1,gL⟩:=anm h hm _ _ _ _ _ ho;simp only[ho] at hr;have⟨k2,sN⟩:=RY h hm r _ _ hr;refine⟨max k1 k2,?_⟩;rw[Zy (hm k1 _ (uH k1 k2)) _ _ _ _ _ gL];exact MF (hm k2 _ (ux k1 k2)) r _ _ sN
  .rename_i hw;exact RY h hm r _ _ hr
  .simp at hr
def DE(h:Dc f F)(hm:Mon F):∀(c:VC) (s:St) (r:Ex×St),bt P L f c s=Ft r->∃k,bt P L (F k) c s=Ft r
 | .skip,s,r,hr=>⟨0,by simpa only[bt] using hr⟩
 | .ju ops,s,r,hr=>by
  simp only[bt] at hr ⊢
  cases ho:cV P L f ops s with
  | none=>simp[ho] at hr
  | some s'=>
   have⟨k,hk⟩:=RY h hm _ _ _ ho
   grind
 | .seq a b,s,r,hr=>by
  simp only[bt] at hr ⊢
  cases ha:bt P L f a s with
  | none=>simp[ha] at hr
  | some q=>
   have⟨k1,gL⟩:=DE h hm a s q ha;have⟨ex,s1⟩:=q
   cases ex with
   | normal=>
    simp only[ha] at hr;have⟨k2,sN⟩:=DE h hm b s1 r hr;refine⟨max k1 k2,?_⟩;rw[rN (hm k1 _ (uH k1 k2)) a s _ gL];exact rN (hm k2 _ (ux k1 k2)) b s1 r sN
   | ret=>exact⟨k1,by rw[gL];simpa only[ha] using hr⟩
   | exit id=>exact⟨k1,by rw[gL];simpa only[ha] using hr⟩
 | .cond x a b,s,r,hr=>by
  simp only[bt] at hr ⊢
  split at hr
  .rename_i t ht
   cases t with
   | true=>simp only[yq] at hr ⊢;exact DE h hm a s r hr
   | false=>simp only[yO] at hr ⊢;exact DE h hm b s r hr
  .simp at hr
 | .cX id a,s,r,hr=>by
  simp only[bt] at hr ⊢
  cases ha:bt P L f a s with
  | none=>simp[ha] at hr
  | some q=>
   have⟨k,hk⟩:=DE h hm a s q ha
   grind
 | .kp live,s,r,hr=>⟨0,by simpa only[bt] using hr⟩
 | .fz ts,s,r,hr=>⟨0,by simpa only[bt] using hr⟩
 | .loop live a,s,r,hr=>by
  simp only[bt] at hr ⊢
  cases ha:bt P L f a (br live s) with
  | none=>simp[ha] at hr
  | some q=>
   have⟨k1,gL⟩:=DE h hm a _ q ha;have⟨ex,s1⟩:=q
   cases ex with
   | normal=>
    simp only[ha] at hr;have⟨k2,sN⟩:=h _ _ _ hr;refine⟨max k1 k2,?_⟩;rw[rN (hm k1 _ (uH k1 k2)) a _ _ gL];exact hm k2 _ (ux k1 k2) _ _ _ sN
   | ret=>exact⟨k1,by rw[gL];simpa only[ha] using hr⟩
   | exit id=>exact⟨k1,by rw[gL];simpa only[ha] using hr⟩
 | .rf fv ps as_ body,s,r,hr=>by
  simp only[bt] at hr ⊢
  split at hr
  .rename_i n first cap hx
   split at hr
   .grind
   .rename_i hL
    cases hc:iv P L f ((s.ct,.lp s.tm ps as_ body 0 .none)::s.hp) (s.ct+1) n (first++(.fn (.y s.ct) [] []::cap)) with
    | none=>simp[hc] at hr
    | some q=>
     have⟨k,hk⟩:=Ru h _ _ _ _ _ hc
     grind
  .simp at hr
 | .exit id,s,r,hr=>⟨0,by simpa only[bt] using hr⟩
 | .ret,s,r,hr=>⟨0,by simpa only[bt] using hr⟩
end
section
variable (P:aF)(L:Lib)
noncomputable def D:cd:=fun c s=>@dite _ (∃r n,ev P L n c s=Ft r) (Classical.propDecidable _) (fun h=>Ft h.choose) (fun _=>Fu)
variable {P L}
def afd{c:VC}{s:St}{r:Ex×St}{n:Nat}(h:ev P L n c s=Ft r):D P L c s=Ft r:=by
 have hx:∃r n,ev P L n c s=Ft r:=⟨r,n,h⟩;unfold D;have⟨m,hm⟩:=hx.choose_spec;have e1:=S5 P L (uH n m) _ _ _ h;have e2:=S5 P L (ux n m) _ _ _ hm
 grind
def Vd{c:VC}{s:St}{r:Ex×St}(h:D P L c s=Ft r):∃n,ev P L n c s=Ft r:=by
 unfold D at h;by_cases hx:∃r n,ev P L n c s=Ft r
 .grind
 .grind
def axT(n:Nat):Le (ev P L n) (D P L):=fun _ _ _ h=>afd h
def adV:Dc (D P L) (ev P L):=fun _ _ _ h=>Vd h
def asS:Mon (ev P L):=fun _ _ h=>S5 P L h
def kQ(c:VC)(s:St):D P L c s=bt P L (D P L) c s:=by
 cases h:D P L c s with
 | some r=>
  have⟨n,hn⟩:=Vd h
  cases n with
  | zero=>rw[Je] at hn;cases hn
  | succ n=>rw[NC] at hn;exact (rN (axT n) c s r hn).symm
 | none=>
  cases hs:bt P L (D P L) c s with
  | none=>rfl
  | some r=>
   have⟨n,hn⟩:=DE adV asS c s r hs;rw[<-NC] at hn;rw[afd hn] at h;cases h
def acv{f:Nat}{aq:List AV}{r:AV}(h:bT P L (D P L) f aq=Ft r):∃n,We P L n f aq=Ft r:=Mq adV f aq r h
end
section
open Go (IntKind BinOp UnOp)
structure Has(P:aF)(L:Lib)(n:Nat)(F:aC):Prop where
 pure:L.pure n=Fu
 heap:L.heap n=Fu
 code:P n=Ft F
noncomputable def zJ(P:aF)(L:Lib)(r:Option (Ex×St))(b:VC):Option (Ex×St):=match r with | some (.normal,s)=>D P L b s | r=>r
def AU(id:Nat)(r:Option (Ex×St)):Option (Ex×St):=match r with | some (.exit j,s)=>bif ym j id then Ft (.normal,s) else Ft (.exit j,s) | r=>r
noncomputable def Kg(P:aF)(L:Lib)(live:List Nat)(a:VC)(r:Option (Ex×St)):Option (Ex×St):=match r with | some (.normal,s)=>D P L (.loop live a) s | r=>r
def norm(r:Option St):Option (Ex×St):=match r with | some s=>Ft (.normal,s) | none=>Fu
noncomputable def Ot(P:aF)(L:Lib)(v:AV)(a b:VC)(s:St):Option (Ex×St):=match v with | .bool t=>bif t then D P L a s else D P L b s | _=>Fu
def asT(s:St):D P L .skip s=Ft (.normal,s):=by rw[kQ];rfl
def asU(id:Nat)(s:St):D P L (.exit id) s=Ft (.exit id,s):=by rw[kQ];rfl
def av6(s:St):D P L .ret s=Ft (.ret,s):=by rw[kQ];rfl
def afe(live:List Nat)(s:St):D P L (.kp live) s=Ft (.normal,br live s):=by rw[kQ];rfl
def axU(ts:List Nat)(s:St):D P L (.fz ts) s=norm (qH ts s):=by rw[kQ];rfl
def av7(ops:List aQ)(s:St):D P L (.ju ops) s=norm (cV P L (D P L) ops s):=by rw[kQ];rfl
def zK(a b:VC)(s:St):D P L (.seq a b) s=zJ P L (D P L a s) b:=by
 rw[kQ,kQ a];simp only[bt,zJ]
 cases bt P L (D P L) a s with
 | none=>rfl
 | some q=>
  have⟨e,s1⟩:=q
  cases e with
  | normal=>exact (kQ b s1).symm
  | ret=>rfl
  | exit id=>rfl
def asV(x:X)(a b:VC)(s:St):D P L (.cond x a b) s=Ot P L (ay s.tm x) a b s:=by
 rw[kQ];simp only[bt,Ot]
 cases ay s.tm x with
 | bool t=>
  cases t with
  | true=>exact (kQ a s).symm
  | false=>exact (kQ b s).symm
 | _=>rfl
def av8(id:Nat)(a:VC)(s:St):D P L (.cX id a) s=AU id (D P L a s):=by
 rw[kQ,kQ a];simp only[bt,AU]
 cases bt P L (D P L) a s with
 | none=>rfl
 | some q=>have⟨e,s1⟩:=q;cases e<;>rfl
def N3(live:List Nat)(a:VC)(s:St):D P L (.loop live a) s=Kg P L live a (D P L a (br live s)):=by
 rw[kQ,kQ a];simp only[bt,Kg]
 cases bt P L (D P L) a (br live s) with
 | none=>rfl
 | some q=>have⟨e,s1⟩:=q;cases e<;>rfl
def lJ(s:St)(b:VC):zJ P L (Ft (.normal,s)) b=D P L b s:=rfl
def apq(s:St)(b:VC):zJ P L (Ft (.ret,s)) b=Ft (.ret,s):=rfl
def apr(id:Nat)(s:St)(b:VC):zJ P L (Ft (.exit id,s)) b=Ft (.exit id,s):=rfl
def abM(live:List Nat)(a:VC)(s:St):Kg P L live a (Ft (.normal,s))=D P L (.loop live a) s:=rfl
def aps(live:List Nat)(a:VC)(s:St):Kg P L live a (Ft (.ret,s))=Ft (.ret,s):=rfl
def apt(live:List Nat)(a:VC)(id:Nat)(s:St):Kg P L live a (Ft (.exit id,s))=Ft (.exit id,s):=rfl
def apu(id:Nat)(s:St):AU id (Ft (.normal,s))=Ft (.normal,s):=rfl
def apv(id:Nat)(s:St):AU id (Ft (.ret,s))=Ft (.ret,s):=rfl
def abN(id:Nat)(s:St):AU id (Ft (.exit id,s))=Ft (.normal,s):=by simp only[AU,wV,yq]
def apw{id j:Nat}(s:St)(h:j≠id):AU id (Ft (.exit j,s))=Ft (.exit j,s):=by
 have:ym j id=ydi:=by
  cases hq:ym j id with
  | false=>rfl
  | true=>exact absurd (yf hq) h
 simp only[AU,this,yO]
def asW(s:St):norm (Ft s)=Ft (.normal,s):=rfl
def asX:norm Fu=Fu:=rfl
def apx(a b:VC)(s:St):Ot P L (.bool ydh) a b s=D P L a s:=rfl
def apy(a b:VC)(s:St):Ot P L (.bool ydi) a b s=D P L b s:=rfl
noncomputable def Up(P:aF)(L:Lib)(d:Option Nat)(r:List aQ)(tm:Env)(base:Nat)(q:gY):Option St:=
 match q with | some (v,hp,ct)=>cV P L (D P L) r ⟨put d v tm,hp,ct,base⟩ | none=>Fu
noncomputable def D4(P:aF)(L:Lib)(v:AV)(b:Bool)(d:Option Nat)(o:Op)(r:List aQ)(s:St):Option St:=
 match v with
 | .bool c=>bif c==b then cV P L (D P L) (⟨d,Fu,o⟩::r) s else cV P L (D P L) r ⟨put d (.ax []) s.tm,s.hp,s.ct,s.base⟩
 | .ax []=>cV P L (D P L) r ⟨put d (.ax []) s.tm,s.hp,s.ct,s.base⟩
 | _=>Fu
def apz(s:St):cV P L (D P L) [] s=Ft s:=rfl
def ann(d:Option Nat)(o:Op)(r:List aQ)(tm:Env)(hp:Hp)(ct base:Nat):
  cV P L (D P L) (⟨d,Fu,o⟩::r) ⟨tm,hp,ct,base⟩=Up P L d r tm base (aX P L (D P L) tm hp ct o):=by
 simp only[cV,Up]
 grind
def alq(d:Option Nat)(t:Nat)(b:Bool)(o:Op)(r:List aQ)(tm:Env)(hp:Hp)(ct base:Nat):
  cV P L (D P L) (⟨d,Ft (t,b),o⟩::r) ⟨tm,hp,ct,base⟩=D4 P L (ak tm t) b d o r ⟨tm,hp,ct,base⟩:=by
 simp only[cV,D4]
 cases ak tm t with
 | bool c=>
  simp only
  cases hc:(c==b) with
  | true=>simp only[yq]
  | false=>simp only[yO]
 | ax vs=>cases vs<;>rfl
 | _=>rfl
def apA(d:Option Nat)(r:List aQ)(tm:Env)(base:Nat)(v:AV)(hp:Hp)(ct:Nat):Up P L d r tm base (Ft (v,hp,ct))=cV P L (D P L) r ⟨put d v tm,hp,ct,base⟩:=rfl
def av9(i:Nat)(v:AV)(tm:Env):put (Ft i) v tm=(i,v)::tm:=rfl
def awa(v:AV)(tm:Env):put Fu v tm=tm:=rfl
def ano(d:Option Nat)(o:Op)(r:List aQ)(s:St):D4 P L (.bool ydh) ydh d o r s=cV P L (D P L) (⟨d,Fu,o⟩::r) s:=rfl
def anp(d:Option Nat)(o:Op)(r:List aQ)(s:St):D4 P L (.bool ydi) ydi d o r s=cV P L (D P L) (⟨d,Fu,o⟩::r) s:=rfl
def anq(d:Option Nat)(o:Op)(r:List aQ)(tm:Env)(hp:Hp)(ct base:Nat):D4 P L (.bool ydh) ydi d o r ⟨tm,hp,ct,base⟩=cV P L (D P L) r ⟨put d (.ax []) tm,hp,ct,base⟩:=rfl
def anr(d:Option Nat)(o:Op)(r:List aQ)(tm:Env)(hp:Hp)(ct base:Nat):D4 P L (.bool ydi) ydh d o r ⟨tm,hp,ct,base⟩=cV P L (D P L) r ⟨put d (.ax []) tm,hp,ct,base⟩:=rfl
def apB(b:Bool)(d:Option Nat)(o:Op)(r:List aQ)(tm:Env)(hp:Hp)(ct base:Nat):D4 P L (.ax []) b d o r ⟨tm,hp,ct,base⟩=cV P L (D P L) r ⟨put d (.ax []) tm,hp,ct,base⟩:=rfl
def jg{j i:Nat}(h:j≠i):ym j i=ydi:=by
 cases hq:ym j i with
 | false=>rfl
 | true=>exact absurd (yf hq) h
def asY(tm:Env)(i:Nat):ay tm (.t i)=ak tm i:=rfl
def asZ(tm:Env)(v:AV):ay tm (.c v)=v:=rfl
def alr(tm:Env):dA tm []=[]:=rfl
def akf(tm:Env)(x:X)(r:List X):dA tm (x::r)=ay tm x::dA tm r:=rfl
def ans(i:Nat)(v:AV)(r:Env):ak ((i,v)::r) i=v:=by simp only[ak,wV,yq]
def als{j i:Nat}(v:AV)(r:Env)(h:j≠i):ak ((j,v)::r) i=ak r i:=by simp only[ak,jg h,yO]
def jB(i:Nat)(o:Obj)(r:Hp):ai ((i,o)::r) i=Ft o:=by simp only[ai,wV,yq]
def eW{j i:Nat}(o:Obj)(r:Hp)(h:j≠i):ai ((j,o)::r) i=ai r i:=by simp only[ai,jg h,yO]
def aaz(i:Nat)(o u:Obj)(r:Hp):aU ((i,o)::r) i u=(i,u)::r:=by simp only[aU,wV,yq]
def ZH{j i:Nat}(o u:Obj)(r:Hp)(h:j≠i):aU ((j,o)::r) i u=(j,o)::aU r i u:=by simp only[aU,jg h,yO]
def ant(i:Nat):cC [] i=[]:=rfl
def I3(i:Nat)(o:Obj)(r:Hp):cC ((i,o)::r) i=cC r i:=by simp only[cC,wV,yq]
def BS{j i:Nat}(o:Obj)(r:Hp)(h:j≠i):cC ((j,o)::r) i=(j,o)::cC r i:=by simp only[cC,jg h,yO]
def rd(hp:Hp)(ct:Nat)(q:Option AV):gY:=match q with | some v=>Ft (v,hp,ct) | none=>Fu
def mk(hp:Hp)(ct:Nat)(q:Option (AV×Obj)):gY:=match q with | some (v,b)=>Ft (v,(ct,b)::hp,ct+1) | none=>Fu
def axV(hp:Hp)(ct:Nat)(v:AV):rd hp ct (Ft v)=Ft (v,hp,ct):=rfl
def axW(hp:Hp)(ct:Nat)(v:AV)(b:Obj):mk hp ct (Ft (v,b))=Ft (v,(ct,b)::hp,ct+1):=rfl
def Uq(c a b:AV):Option AV:=match c with | .bool t=>Ft (bif t then a else b) | _=>Fu
def LM(k:Nat->Option AV)(n:Option Nat):Option AV:=match n with | some i=>k i | none=>Fu
def adW(r:Option (List AV)):Option AV:=match r with | some cs=>Ft (.agg cs) | none=>Fu
def Ba(ne:Bool)(r:Option Bool):Option AV:=match r with | some b=>Ft (.bool (ne !=b)) | none=>Fu
def axX:AV->Option AV
 | .ptr id o=>Ft (.ptr id o)
 | .bq cs=>Ft (.bq cs)
 | .fn f a b=>Ft (.fn f a b)
 | _=>Fu
def KP(i:Nat):AV->Option AV | .ax vs=>vs[i]? | _=>Fu
section
variable {f:cd}{tm:Env}{hp:Hp}{ct:Nat}
def as0(x:X):aX P L f tm hp ct (.qX x)=Ft (ay tm x,hp,ct):=rfl
def apC(c a b:X):aX P L f tm hp ct (.pick c a b)=rd hp ct (Uq (ay tm c) (ay tm a) (ay tm b)):=by
 rfl
def anu(z:List AV)(ps:List (Nat×Nat×X)):aX P L f tm hp ct (.Cg z ps)=rd hp ct (adW (fill tm z ps)):=by
 rfl
def awb(sz:Nat)(ag:Bool)(x:X):aX P L f tm hp ct (.ld sz ag x)=rd hp ct (fL hp sz ag (ay tm x)):=rfl
def apD(x:X):aX P L f tm hp ct (.Kl x)=rd hp ct (axX (ay tm x)):=by
 rfl
def as3(op:BinOp)(x y:X):aX P L f tm hp ct (.bin op x y)=rd hp ct (binOp op (ay tm x) (ay tm y)):=rfl
def awc(ne:Bool)(k:PT)(x y:X):aX P L f tm hp ct (.eq ne k x y)=rd hp ct (Ba ne (jo k (ay tm x) (ay tm y))):=by
 rfl
def awd(op:UnOp)(x:X):aX P L f tm hp ct (.un op x)=rd hp ct (unOp op (ay tm x)):=rfl
def awe(k:Conv)(x:X):aX P L f tm hp ct (.cv k x)=rd hp ct (kC k (ay tm x)):=rfl
def as4(g:Fr)(a b:List X):aX P L f tm hp ct (.G4 g a b)=Ft (.fn g (dA tm a) (dA tm b),hp,ct):=rfl
def as5(k:Cut)(x:X)(lo hi:Option X):aX P L f tm hp ct (.oz k x lo hi)=rd hp ct (fj hp k (ay tm x) tm lo hi):=rfl
def as6(k:Nat)(x:X):aX P L f tm hp ct (.off k x)=rd hp ct (Ci k (ay tm x)):=rfl
def as7(o sz:Nat)(ag:Bool)(x:X):aX P L f tm hp ct (.Lg o sz ag x)=rd hp ct (Oe o sz ag (ay tm x)):=rfl
def as8(sz:Nat)(x i:X):aX P L f tm hp ct (.bh sz x i)=rd hp ct (LM (fun j=>gS sz j (ay tm x)) (cy (ay tm i))):=by
 rfl
def as9(n sz:Nat)(x i:X):aX P L f tm hp ct (.CO n sz x i)=rd hp ct (LM (fun j=>Cj n sz j (ay tm x)) (cy (ay tm i))):=by
 rfl
def ata(x i:X):aX P L f tm hp ct (.G5 x i)=rd hp ct (LM (fun j=>r7 j (ay tm x)) (cy (ay tm i))):=by
 rfl
def atb(n sz:Nat)(ag:Bool)(x i:X):aX P L f tm hp ct (.G6 n sz ag x i)=rd hp ct (LM (fun j=>Of n sz ag j (ay tm x)) (cy (ay tm i))):=by
 rfl
def atc(i:Nat)(x:X):aX P L f tm hp ct (.ext i x)=rd hp ct (KP i (ay tm x)):=by
 rfl
def atd(k:Nat)(x:X):aX P L f tm hp ct (.len k x)=rd hp ct (fX hp k (ay tm x)):=rfl
def ate(sz:Nat)(x:X):aX P L f tm hp ct (.box sz x)=mk hp ct (cB tm hp ct (.box sz x)):=rfl
def apE(n sz:Nat)(z:List AV)(ps:List (Nat×Nat×X)):aX P L f tm hp ct (.iB n sz z ps)=mk hp ct (cB tm hp ct (.iB n sz z ps)):=rfl
def atf(sz by':Nat)(z:List AV)(l c:X):aX P L f tm hp ct (.mH sz by' z l c)=mk hp ct (cB tm hp ct (.mH sz by' z l c)):=rfl
def atg:aX P L f tm hp ct .Bo=Ft (.map ct,(ct,.mp ydh [] [])::hp,ct+1):=rfl
def ath(x:X):aX P L f tm hp ct (.qZ x)=mk hp ct (cB tm hp ct (.qZ x)):=rfl
def awf(sz:Nat)(x v:X):aX P L f tm hp ct (.st sz x v)=b8 tm hp ct (.st sz x v):=rfl
def ati(sz by':Nat)(s x:X):aX P L f tm hp ct (.cQ sz by' s x)=b8 tm hp ct (.cQ sz by' s x):=rfl
def Ou(hp:Hp)(ct:Nat)(r:Option AV):gY:=match r with | some v=>Ft (shut v,hp,ct) | none=>Fu
def Pq(hp:Hp)(ct:Nat)(r:Option AV):gY:=match r with | some v=>Ft (own hp ct v) | none=>Fu
def Ur(P:aF)(L:Lib)(f:cd)(ct n:Nat)(q:Option (List AV×Hp)):gY:=match q with | some (aq,hp)=>Ou hp ct (bT P L f n aq) | none=>Fu
def Us(P:aF)(L:Lib)(f:cd)(ct n:Nat)(q:Option (List AV×Hp)):gY:=match q with | some (aq,hp)=>Pq hp ct (bT P L f n aq) | none=>Fu
def Ut(P:aF)(L:Lib)(f:cd)(hp:Hp)(ct:Nat)(fv:AV)(xs:List AV):gY:=er P L f hp ct .pure fv xs
def Uu(P:aF)(L:Lib)(f:cd)(hp:Hp)(ct:Nat)(fv:AV)(xs:List AV):gY:=er P L f hp ct .own fv xs
def anv(g:X)(xs:List X):aX P L f tm hp ct (.call .pure g xs)=Ut P L f hp ct (ay tm g) (dA tm xs):=rfl
def anw(g:X)(xs:List X):aX P L f tm hp ct (.call .own g xs)=Uu P L f hp ct (ay tm g) (dA tm xs):=rfl
def anx(g:X)(xs:List X):aX P L f tm hp ct (.call .heap g xs)=er P L f hp ct .heap (ay tm g) (dA tm xs):=rfl
def apF(n:Nat)(first cap xs:List AV):Ut P L f hp ct (.fn (.f n) first cap) xs=Ur P L f ct n (cu deep hp (first++(xs++cap))):=by
 simp only[Ut,er,Ur,Ou]
 cases cu deep hp (first++(xs++cap)) with
 | none=>rfl
 | some q=>cases bT P L f n q.1<;>rfl
def apG(n:Nat)(first cap xs:List AV):Uu P L f hp ct (.fn (.f n) first cap) xs=Us P L f ct n (cu deep hp (first++(xs++cap))):=by
 simp only[Uu,er,Us,Pq]
 cases cu deep hp (first++(xs++cap)) with
 | none=>rfl
 | some q=>cases bT P L f n q.1<;>rfl
def apH(n:Nat)(aq:List AV):Ur P L f ct n (Ft (aq,hp))=Ou hp ct (bT P L f n aq):=rfl
def apI(n:Nat)(aq:List AV):Us P L f ct n (Ft (aq,hp))=Pq hp ct (bT P L f n aq):=rfl
def apJ(v:AV):Ou hp ct (Ft v)=Ft (shut v,hp,ct):=rfl
def atj(v:AV):Pq hp ct (Ft v)=Ft (own hp ct v):=rfl
def Pr(hp:Hp)(r:Option AV):Option AV:=match r with | some v=>result hp v | none=>Fu
def iF(rs:List RV)(q:Option (Ex×St)):Option AV:=
 match q with
 | some (.normal,s) | some (.ret,s)=>Pr s.hp (jc s rs)
 | _=>Fu
def aJ{n:Nat}{F:aC}(h:Has P L n F)(aq:List AV):bT P L f n aq=iF F.eb (f F.body ⟨fg 0 aq,[],0,0⟩):=by
 simp only[bT,h.pure,h.code]
 cases hq:f F.body ⟨fg 0 aq,[],0,0⟩ with
 | none=>rfl
 | some q=>
  have⟨e,s⟩:=q
  cases e with
  | normal=>rfl
  | ret=>rfl
  | exit id=>rfl
def atk(rs:List RV)(s:St):iF rs (Ft (.normal,s))=Pr s.hp (jc s rs):=rfl
def atl(rs:List RV)(s:St):iF rs (Ft (.ret,s))=Pr s.hp (jc s rs):=rfl
def atm(v:AV):Pr hp (Ft v)=result hp v:=rfl
def Ve(r:RV)(s:St):jc s [r]=results1 s r:=by
 simp only[jc,ml];cases results1 s r<;>rfl
def aff(r:Option (List AV)):Option AV:=match r with | some vs=>Ft (.ax vs) | none=>Fu
def axY(r q:RV)(l:List RV)(s:St):jc s (r::q::l)=aff (ml s (r::q::l)):=by
 simp only[jc,ml];cases results1 s r<;>cases results1 s q<;>cases ml s l<;>rfl
def adX(r:Option AV)(l:Option (List AV)):Option (List AV):=match r,l with | some v,Ft vs=>Ft (v::vs) | _,_=>Fu
def anz(s:St):ml s []=Ft []:=rfl
def alt(r:RV)(l:List RV)(s:St):ml s (r::l)=adX (results1 s r) (ml s l):=rfl
def apK(v:AV)(vs:List AV):adX (Ft v) (Ft vs)=Ft (v::vs):=rfl
def atn(vs:List AV):aff (Ft vs)=Ft (.ax vs):=rfl
def Uv(i:Nat)(s:St):results1 s (.t i)=Ft (ak s.tm i):=rfl
def awg(a:AV):fg 0 [a]=[(0,a)]:=rfl
def awh(a b:AV):fg 0 [a,b]=[(0,a),(1,b)]:=rfl
def awi(a b c:AV):fg 0 [a,b,c]=[(0,a),(1,b),(2,c)]:=rfl
def awj(a b c d:AV):fg 0 [a,b,c,d]=[(0,a),(1,b),(2,c),(3,d)]:=rfl
def awk(a b c d e:AV):fg 0 [a,b,c,d,e]=[(0,a),(1,b),(2,c),(3,d),(4,e)]:=rfl
def akg(k:xd)(n:Int):result hp (.int k n)=Ft (.int k n):=rfl
def ajK(b:Bool):result hp (.bool b)=Ft (.bool b):=rfl
def akh(s:List Nat):result hp (.str s)=Ft (.str s):=rfl
def ajL:result hp .af=Ft .af:=rfl
def aki(e:Bool)(n:Nat)(cs:List AV):result hp (.au e n cs)=Ft (.au e n cs):=rfl
def shut_int(k:xd)(n:Int):shut (.int k n)=.int k n:=rfl
def shut_bool(b:Bool):shut (.bool b)=.bool b:=rfl
def anA(s:List Nat):shut (.str s)=.str s:=rfl
def alu:shut .af=.af:=rfl
def anB(e:Bool)(n:Nat)(cs:List AV):shut (.au e n cs)=.au e n cs:=rfl
def anC(e:Bool)(sz n:Nat)(cs:List AV):shut (.cF e sz n cs)=.au e n cs:=rfl
def bC(cs:List AV):shut (.agg cs)=.agg cs:=rfl
def apL(g:Fr)(a b:List AV):shut (.fn g a b)=.fn g a b:=rfl
def aaA(vs:List AV):shut (.ax vs)=.ax (Eb vs):=rfl
def ZI:Eb []=[]:=rfl
def YS(v:AV)(r:List AV):Eb (v::r)=bF v::Eb r:=rfl
def alv(k:xd)(n:Int):bF (.int k n)=.int k n:=rfl
def akj(b:Bool):bF (.bool b)=.bool b:=rfl
def alw(s:List Nat):bF (.str s)=.str s:=rfl
def akk:bF .af=.af:=rfl
def alx(e:Bool)(n:Nat)(cs:List AV):bF (.au e n cs)=.au e n cs:=rfl
def aly(e:Bool)(sz n:Nat)(cs:List AV):bF (.cF e sz n cs)=.au e n cs:=rfl
def DH(cs:List AV):bF (.agg cs)=.agg cs:=rfl
def Vf(n:Nat)(r:List AV)(q:Option (AV×Hp)):Option (List AV×Hp):=match q with | some (v,hp)=>(match cu n hp r with | some (vs,kD)=>Ft (v::vs,kD) | none=>Fu) | none=>Fu
def afg(v:AV)(q:Option (List AV×Hp)):Option (List AV×Hp):=match q with | some (vs,hp)=>Ft (v::vs,hp) | none=>Fu
def anD(n:Nat):cu (n+1) hp []=Ft ([],hp):=rfl
def ZJ(n:Nat)(v:AV)(r:List AV):cu (n+1) hp (v::r)=Vf n r (freeze n hp v):=by
 simp only[cu,Vf];cases freeze n hp v<;>rfl
def acw(n:Nat)(r:List AV)(v:AV):Vf n r (Ft (v,hp))=afg v (cu n hp r):=by
 rfl
def acx(v:AV)(vs:List AV):afg v (Ft (vs,hp))=Ft (v::vs,hp):=rfl
def apM(n:Nat)(k:xd)(a:Int):freeze (n+1) hp (.int k a)=Ft (.int k a,hp):=rfl
def anE(n:Nat)(b:Bool):freeze (n+1) hp (.bool b)=Ft (.bool b,hp):=rfl
def apN(n:Nat)(s:List Nat):freeze (n+1) hp (.str s)=Ft (.str s,hp):=rfl
def anF(n:Nat):freeze (n+1) hp .af=Ft (.af,hp):=rfl
def apO(n:Nat)(e:Bool)(k:Nat)(cs:List AV):freeze (n+1) hp (.au e k cs)=Ft (.au e k cs,hp):=rfl
def anG(n:Nat)(cs:List AV):freeze (n+1) hp (.bq cs)=Ft (.bq cs,hp):=rfl
end
section
variable {hp:Hp}
def ato(a b:AV):Uq (.bool ydh) a b=Ft a:=rfl
def atp(a b:AV):Uq (.bool ydi) a b=Ft b:=rfl
def awl(k:Nat->Option AV)(n:Nat):LM k (Ft n)=k n:=rfl
def akl(k:xd)(n:Nat):cy (.int k (n:Int))=Ft n:=rfl
def atq(k:xd):cy (.int k 0)=Ft 0:=rfl
def atr(k:xd):cy (.int k 1)=Ft 1:=rfl
def ats(k:xd):cy (.int k 2)=Ft 2:=rfl
def att(k:xd):cy (.int k 3)=Ft 3:=rfl
def atu(k:xd):cy (.int k 4)=Ft 4:=rfl
def atv(k:xd):cy (.int k 5)=Ft 5:=rfl
def atw(k:xd):cy (.int k 6)=Ft 6:=rfl
def atx(k:xd):cy (.int k 7)=Ft 7:=rfl
def aty(k:xd):cy (.int k 8)=Ft 8:=rfl
def atz(k:xd):cy (.int k 9)=Ft 9:=rfl
def apP(cs:List AV):adW (Ft cs)=Ft (.agg cs):=rfl
def abO(k:xd)(a b:Int):binOp .add (.int k a) (.int k b)=Ft (.int k (k.wrap (a+b))):=by simp[binOp,mw]
def NE(k:xd)(a b:Int):binOp .sub (.int k a) (.int k b)=Ft (.int k (k.wrap (a-b))):=by simp[binOp,mw]
def abP(k:xd)(a b:Int):binOp .mul (.int k a) (.int k b)=Ft (.int k (k.wrap (a*b))):=by simp[binOp,mw]
def fW(k:xd)(a b:Int)(h:b≠0):binOp .quo (.int k a) (.int k b)=Ft (.int k (k.wrap (a.tdiv b))):=by simp[binOp,mw,h]
def fE(k:xd)(a b:Int)(h:b≠0):binOp .rem (.int k a) (.int k b)=Ft (.int k (a.tmod b)):=by simp[binOp,mw,h]
def apQ(k:xd)(a b:Int):binOp .eql (.int k a) (.int k b)=Ft (.bool (decide (a=b))):=by
 simp[binOp,mw,intCmp,BEq.beq]
def apR(k:xd)(a b:Int):binOp .neq (.int k a) (.int k b)=Ft (.bool (!decide (a=b))):=by
 simp[binOp,mw,intCmp,bne,BEq.beq]
def apS(k:xd)(a b:Int):binOp .lss (.int k a) (.int k b)=Ft (.bool (decide (a<b))):=by simp[binOp,mw,intCmp]
def apT(k:xd)(a b:Int):binOp .leq (.int k a) (.int k b)=Ft (.bool (decide (a<=b))):=by simp[binOp,mw,intCmp]
def apU(k:xd)(a b:Int):binOp .gtr (.int k a) (.int k b)=Ft (.bool (decide (b<a))):=by simp[binOp,mw,intCmp]
def apV(k:xd)(a b:Int):binOp .geq (.int k a) (.int k b)=Ft (.bool (decide (b<=a))):=by simp[binOp,mw,intCmp]
def atA(k:xd)(a:Int):unOp .neg (.int k a)=Ft (.int k (k.wrap (0-a))):=rfl
def atB(b:Bool):unOp .not (.bool b)=Ft (.bool !b):=rfl
def anH:fX hp 1 .af=Ft (.int .i64 0):=rfl
def apW(e:Bool)(n:Nat)(cs:List AV):fX hp 1 (.au e n cs)=Ft (.int .i64 n):=rfl
def apX(id o n:Nat):fX hp 1 (.ap id o n)=Ft (.int .i64 n):=rfl
def apY(s:List Nat):fX hp 0 (.str s)=Ft (.int .i64 s.length):=rfl
def NF{sz i n:Nat}(e:Bool)(cs:List AV)(h:i<n):gS sz i (.au e n cs)=Ft (.bq (cs.drop (i*sz))):=by
 have hb:yI i n=ydh:=yt h;simp only[gS]
 grind
def cA{sz i n:Nat}(id o:Nat)(h:i<n):gS sz i (.ap id o n)=Ft (.ptr id (o+i*sz)):=by
 have hb:yI i n=ydh:=yt h;simp only[gS]
 grind
def anI(v:AV)(cs:List AV):fL hp 1 ydi (.bq (v::cs))=Ft v:=rfl
def Qo(sz:Nat)(ag:Bool)(o:Nat)(q:Option Obj):Option AV:=match q with | some (.cells _ _ _ _ cs)=>gI sz ag (cs.drop o) | _=>Fu
def D5(sz:Nat)(ag:Bool)(id o:Nat):fL hp sz ag (.ptr id o)=Qo sz ag o (ai hp id):=by
 rfl
def Eo(sz:Nat)(ag:Bool)(o:Nat)(rw pu ex:Bool)(z:Nat)(cs:List AV):Qo sz ag o (Ft (.cells rw pu ex z cs))=gI sz ag (cs.drop o):=rfl
def awm(sz:Nat)(v:AV)(cs:List AV):gI sz ydi (v::cs)=Ft v:=rfl
def axZ(a:AV)(l:List AV):KP 0 (.ax (a::l))=Ft a:=rfl
def ext1(a b:AV)(l:List AV):KP 1 (.ax (a::b::l))=Ft b:=rfl
def ax0(a b c:AV)(l:List AV):KP 2 (.ax (a::b::c::l))=Ft c:=rfl
def ax1(a b c d:AV)(l:List AV):KP 3 (.ax (a::b::c::d::l))=Ft d:=rfl
end
def ph:Env->Bool
 | []=>ydh
 | (_,v)::r=>aW v&&ph r
mutual
def ik:∀{v:AV},aW v=ydh->refs v=[]
 | .int _ _,_ | .bool _,_ | .ao _ _,_ | .cW _ _ _,_ | .str _,_ | .jY,_ | .bq _,_ | .af,_ | .au _ _ _,_ | .gU,_ | .jl,_ | .jm _ _,_ | .undef,_=>rfl
 | .ptr _ _,h | .ap _ _ _,h | .map _,h | .it _,h | .cF _ _ _ _,h=>by simp[aW] at h
 | .fn (.y _) _ _,h=>by simp[aW] at h
 | .fn (.f _) first cap,h=>by
  simp only[aW,ye] at h;simp only[refs,zj h.1,zj h.2,wq]
 | .agg cs,h=>by simp only[aW] at h;simp only[refs,zj h]
 | .ax cs,h=>by simp only[aW] at h;simp only[refs,zj h]
def zj:∀{vs:List AV},aD vs=ydh->fH vs=[]
 | [],_=>rfl
 | v::r,h=>by
  simp only[aD,ye] at h;simp only[fH,ik h.1,zj h.2,wq]
end
mutual
def DJ(f:Nat->Option Nat):∀{v:AV},aW v=ydh->bm f v=v
 | .int _ _,_ | .bool _,_ | .ao _ _,_ | .cW _ _ _,_ | .str _,_ | .jY,_ | .bq _,_ | .af,_ | .au _ _ _,_ | .gU,_ | .jl,_ | .jm _ _,_ | .undef,_=>rfl
 | .ptr _ _,h | .ap _ _ _,h | .map _,h | .it _,h | .cF _ _ _ _,h=>by simp[aW] at h
 | .fn (.y _) _ _,h=>by simp[aW] at h
 | .fn (.f _) first cap,h=>by
  simp only[aW,ye] at h;simp only[bm,Az f h.1,Az f h.2]
 | .agg cs,h=>by simp only[aW] at h;simp only[bm,Az f h]
 | .ax cs,h=>by simp only[aW] at h;simp only[bm,Az f h]
def Az(f:Nat->Option Nat):∀{vs:List AV},aD vs=ydh->dB f vs=vs
 | [],_=>rfl
 | v::r,h=>by
  simp only[aD,ye] at h;simp only[dB,DJ f h.1,Az f h.2]
end
def Rv:∀{tm:Env},ph tm=ydh->dL tm=[]
 | [],_=>rfl
 | (i,v)::r,h=>by
  simp only[ph,ye] at h;simp only[dL,ik h.1,Rv h.2,wq]
def ZK(f:Nat->Option Nat):∀{tm:Env},ph tm=ydh->eO f tm=tm
 | [],_=>rfl
 | (i,v)::r,h=>by
  simp only[ph,ye] at h;simp only[eO,DJ f h.1,ZK f h.2]
def X2{live:List Nat}{tm:Env}{ct:Nat}(h:ph (bE tm live)=ydh):br live ⟨tm,[],ct,0⟩=⟨bE tm live,[],0,0⟩:=by
 simp only[br,Rv h,cI,wq];simp only[reach,ew,fI,ZK _ h,yH,yW]
def ajM{tm:Env}{ct:Nat}:br [] ⟨tm,[],ct,0⟩=⟨[],[],0,0⟩:=rfl
def Sv{P:aF}{L:Lib}{live:List Nat}{a:VC}(I:Nat->St->Prop)(Q:Ex->St->Prop)(step:∀k s,I k s->(∃s' k',D P L a (br live s)=Ft (.normal,s')/\k'<k/\I k' s')\/(∃ex s',D P L a (br live s)=Ft (ex,s')/\ex≠.normal/\Q ex s')):
  ∀k s,I k s->∃ex s',D P L (.loop live a) s=Ft (ex,s')/\Q ex s':=by
 intro k
 induction k using vP with
 | _ k ih=>
  intro s hI;rw[N3];rcases step k s hI with ⟨s',k',h1,h2,h3⟩ | ⟨ex,s',h1,h2,h3⟩
  .rw [h1,abM];exact ih k' h2 s' h3
  .rw [h1]
   cases ex with
   | normal=>exact absurd rfl h2
   | ret=>exact⟨.ret,s',rfl,h3⟩
   | exit id=>exact⟨.exit id,s',rfl,h3⟩
def Sw{P:aF}{L:Lib}{live:List Nat}{a:VC}(I:Nat->St->Prop)(Q:Ex->St->Prop)(step:∀k s,I k s->(∃s' k',D P L a s=Ft (.normal,s')/\k'<k/\I k' (br live s'))\/(∃ex s',D P L a s=Ft (ex,s')/\ex≠.normal/\Q ex s')):
  ∀k s,I k (br live s)->∃ex s',D P L (.loop live a) s=Ft (ex,s')/\Q ex s':=
 Sv (fun k s=>I k (br live s)) Q (fun k s h=>step k _ h)
def en(P:aF)(L:Lib)(live:List Nat)(a:VC)(I:Nat->St->Prop)(Q:Ex->St->Prop):Prop:=∀k s,I k (br live s)->∃ex s',D P L (.loop live a) s=Ft (ex,s')/\Q ex s'
def eB{P:aF}{L:Lib}{live:List Nat}{a:VC}{I:Nat->St->Prop}{Q:Ex->St->Prop}(step:∀k s,I k s->(∃s' k',D P L a s=Ft (.normal,s')/\k'<k/\I k' (br live s'))\/(∃ex s',D P L a s=Ft (ex,s')/\ex≠.normal/\Q ex s')):en P L live a I Q:=Sw I Q step
def atD{P:aF}{L:Lib}{live:List Nat}{a:VC}{I:Nat->St->Prop}{Q:Ex->St->Prop}(step:∀k s,I k s->(∃s' k',D P L a s=Ft (.normal,s')/\k'<k/\I k' (br live s'))\/(∃ex s',D P L a s=Ft (ex,s')/\ex≠.normal/\Q ex s')):
  ∀k s s0,br live s=s0->I k s0->∃ex s',D P L (.loop live a) s=Ft (ex,s')/\Q ex s':=fun k s s0 h hi=>Sw I Q step k s (h▸hi)
def aE{v:AV}(h:aW v=ydh):refs v=[]/\∀f,bm f v=v:=⟨ik h,fun f=>DJ f h⟩
def ji(P:aF)(L:Lib)(live:List Nat)(a:VC)(I:Nat->St->Prop)(Q:Ex->St->Prop)(step:∀k s,I k s->(∃s' k',D P L a s=Ft (.normal,s')/\k'<k/\I k' (br live s'))\/(∃ex s',D P L a s=Ft (ex,s')/\ex≠.normal/\Q ex s')):
  ∀k s,I k (br live s)->∃ex s',D P L (.loop live a) s=Ft (ex,s')/\Q ex s':=Sw I Q step
def bN{P:aF}{L:Lib}{c:VC}{s:St}{q:Option (Ex×St)}{I:St->Prop}{Q:Ex->St->Prop}(hq:D P L c s=q)(key:∀s,I s->∃ex s',D P L c s=Ft (ex,s')/\Q ex s')(hI:I s):
  ∃ex s',q=Ft (ex,s')/\Q ex s':=by
 rw[<-hq];exact key s hI
def anJ(tm:Env):bE tm []=[]:=rfl
def alz(tm:Env)(i:Nat)(r:List Nat):bE tm (i::r)=(i,ak tm i)::bE tm r:=rfl
def alA:ph []=ydh:=rfl
def akm(i:Nat)(v:AV)(r:Env):ph ((i,v)::r)=(aW v&&ph r):=rfl
def acy(k:xd)(n:Int):aW (.int k n)=ydh:=(rfl)
def apZ(b:Bool):aW (.bool b)=ydh:=(rfl)
def atE(s:List Nat):aW (.str s)=ydh:=(rfl)
def ap0:aW .af=ydh:=(rfl)
def atF(e:Bool)(n:Nat)(cs:List AV):aW (.au e n cs)=ydh:=(rfl)
def ap1(cs:List AV):aW (.bq cs)=ydh:=(rfl)
def anK:aW .undef=ydh:=(rfl)
attribute [go_sem] deep ajM anJ alz alA akm acy apZ atE ap0 atF ap1 anK uz ud
attribute [go_sem] asT asU av6 afe axU av7 zK asV av8 lJ apq apr abM aps apt apu apv abN apw asW asX apx apy
 apz ann alq apA av9 awa ano anp anq anr apB asY asZ alr akf ans als jB eW aaz ZH ant I3 BS
 axV axW as0 apC anu awb apD as3 awc awd awe as4 as5 as6 as7 as8 as9 ata atb atc atd ate apE atf atg ath awf ati anv anw anx
 apF apG apH apI apJ atj atk atl atm Ve axY anz alt apK atn Uv awg awh awi awj awk
 akg ajK akh ajL aki shut_int shut_bool anA alu anB anC bC apL aaA ZI YS alv akj alw akk alx aly DH
 anD ZJ acw acx apM anE apN anF apO anG
 ato atp awl akl atq atr ats att atu atv atw atx aty atz apP abO NE abP apQ apR apS apT apU apV atA atB anH apW apX apY anI D5 Eo awm axZ ext1 ax0 ax1
 yM wq yx yX xb Bool.not_true Bool.not_false ne_eq ydb
end
abbrev aa(n:Int):AV:=.int .i64 n
def cp(v:AV)(cs:List AV):Prop:=(v=.af/\cs=[])\/∃e,v=.au e cs.length cs
section
variable {v:AV}{cs:List AV}{hp:Hp}
def cp.len(h:cp v cs){hp:Hp}:fX hp 1 v=Ft (.int .i64 (cs.length:Nat)):=by
 rcases h with ⟨rfl,rfl⟩ | ⟨e,rfl⟩<;>rfl
def cp.pu(h:cp v cs):aW v=ydh:=by
 rcases h with ⟨rfl,rfl⟩ | ⟨e,rfl⟩<;>rfl
def cp.aj(h:cp v cs)(n:Nat){hp:Hp}:freeze (n+1) hp v=Ft (v,hp):=by
 rcases h with ⟨rfl,rfl⟩ | ⟨e,rfl⟩<;>rfl
def cp.shut(h:cp v cs):shut v=v:=by
 rcases h with ⟨rfl,rfl⟩ | ⟨e,rfl⟩<;>rfl
def cp.bF(h:cp v cs):bF v=v:=by
 rcases h with ⟨rfl,rfl⟩ | ⟨e,rfl⟩<;>rfl
def cp.eb(h:cp v cs){hp:Hp}:result hp v=Ft v:=by
 rcases h with ⟨rfl,rfl⟩ | ⟨e,rfl⟩<;>rfl
def cp.bh(h:cp v cs){i:Nat}(hi:i<cs.length):gS 1 i v=Ft (.bq (cs[i]::cs.drop (i+1))):=by
 rcases h with ⟨rfl,rfl⟩ | ⟨e,rfl⟩
 .grind
 .rw [NF e _ hi,yk,yR hi]
def cp.one(h:cp v cs):cL v=ydh:=by
 rcases h with ⟨rfl,rfl⟩ | ⟨e,rfl⟩<;>rfl
def cp.cells(h:cp v cs):cellsOf v=[v]:=by
 rcases h with ⟨rfl,rfl⟩ | ⟨e,rfl⟩<;>rfl
def Jg(e:Bool)(cs:List AV):cp (.au e cs.length cs) cs:=.inr ⟨e,rfl⟩
def rT:cp .af []:=.inl ⟨rfl,rfl⟩
end
def bn(v:AV)(l:List Int):Prop:=cp v (l.map aa)
section
variable {v:AV}{l:List Int}
def bn.len(h:bn v l){hp:Hp}:fX hp 1 v=Ft (.int .i64 (l.length:Nat)):=by
 have:=cp.len (hp:=hp) h
 grind
def bn.pu(h:bn v l):aW v=ydh:=cp.pu h
def bn.aj(h:bn v l)(n:Nat){hp:Hp}:freeze (n+1) hp v=Ft (v,hp):=cp.aj h n
def bn.shut(h:bn v l):VE.shut v=v:=cp.shut h
def bn.bF(h:bn v l):VE.bF v=v:=cp.bF h
def bn.eb(h:bn v l){hp:Hp}:result hp v=Ft v:=cp.eb h
def bn.one(h:bn v l):cL v=ydh:=cp.one h
def bn.cells(h:bn v l):cellsOf v=[v]:=cp.cells h
def bn.bh(h:bn v l){i:Nat}(hi:i<l.length):gS 1 i v=Ft (.bq (.int .i64 l[i]::(l.map aa).drop (i+1))):=by
 have:=cp.bh h (i:=i) (by simpa using hi)
 grind
def mN(e:Bool)(l:List Int):bn (.au e l.length (l.map aa)) l:=by
 have:=Jg e (l.map aa)
 rwa[yL] at this
end
def jL{α β:Type}(p:α->β->Prop):List α->List β->Prop
 | [],[]=>True
 | a::r,b::s=>p a b/\jL p r s
 | _,_=>False
section
variable {α β:Type}{p:α->β->Prop}
def jL.len:∀{l:List α} {m:List β},jL p l m->l.length=m.length
 | [],[],_=>rfl
 | _::_,_::_,h=>by rw[yy,yy,h.2.len]
def jL.get:∀{l:List α} {m:List β} (_:jL p l m) {i:Nat} (h1:i<l.length) (h2:i<m.length),p l[i] m[i]
 | a::r,b::s,h,0,_,_=>h.1
 | a::r,b::s,h,i+1,h1,h2=>by
  exact h.2.get (by simpa using h1) (by simpa using h2)
end
def IsS(v:AV)(s:List (List Int)):Prop:=∃rows,cp v rows/\jL bn rows s
def wrap64{n:Int}(h1: -9223372036854775808<=n)(h2:n<9223372036854775808):IntKind.wrap .i64 n=n:=by
 simp only[IntKind.wrap,IntKind.bits,IntKind.signed,ud]
 grind
def wrapN{n:Nat}(h:n<9223372036854775808):IntKind.wrap .i64 (n:Int)=n:=wrap64 (by lia) (by lia)
abbrev ah(P:aF)(L:Lib)(f:Nat)(aq:List AV)(r:AV):Prop:=bT P L (D P L) f aq=Ft r
section
variable {v:AV}{ex pu:Bool}{cs new:List AV}{by' n o sz:Nat}
section
variable {P:aF}{L:Lib}{f:cd}{tm:Env}{hp:Hp}{ct:Nat}
def alB(k:xd)(n:Int):cellsOf (.int k n)=[.int k n]:=(rfl)
def akn(b:Bool):cellsOf (.bool b)=[.bool b]:=(rfl)
def alC(s:List Nat):cellsOf (.str s)=[.str s]:=(rfl)
def ako:cellsOf .af=[.af]:=(rfl)
def alD(e:Bool)(n:Nat)(cs:List AV):cellsOf (.au e n cs)=[.au e n cs]:=(rfl)
def alE(id o n:Nat):cellsOf (.ap id o n)=[.ap id o n]:=(rfl)
def alF(id o:Nat):cellsOf (.ptr id o)=[.ptr id o]:=(rfl)
def anL(g:Fr)(a b:List AV):cellsOf (.fn g a b)=[.fn g a b]:=(rfl)
def alG(cs:List AV):cellsOf (.agg cs)=cs:=(rfl)
def abQ(k:xd)(n:Int):cL (.int k n)=ydh:=(rfl)
def anM(b:Bool):cL (.bool b)=ydh:=(rfl)
def ap2(s:List Nat):cL (.str s)=ydh:=(rfl)
def anN:cL .af=ydh:=(rfl)
def ap3(e:Bool)(n:Nat)(cs:List AV):cL (.au e n cs)=ydh:=(rfl)
def ap4(id o n:Nat):cL (.ap id o n)=ydh:=(rfl)
def ap5(id o:Nat):cL (.ptr id o)=ydh:=(rfl)
def atG(g:Fr)(a b:List AV):cL (.fn g a b)=ydh:=(rfl)
def anO:bS []=ydh:=(rfl)
def ZL(v:AV)(r:List AV):bS (v::r)=(cL v&&bS r):=(rfl)
def alH:aD []=ydh:=(rfl)
def akp(v:AV)(r:List AV):aD (v::r)=(aW v&&aD r):=(rfl)
def atH(id o:Nat):aW (.ptr id o)=ydi:=(rfl)
def atI(id o n:Nat):aW (.ap id o n)=ydi:=(rfl)
def awn(g:Nat)(a b:List AV):aW (.fn (.f g) a b)=(aD a&&aD b):=(rfl)
def ax2(l:Nat)(a b:List AV):aW (.fn (.y l) a b)=ydi:=(rfl)
def atJ(cs:List AV):aW (.agg cs)=aD cs:=(rfl)
def atK(cs:List AV):aW (.ax cs)=aD cs:=(rfl)
def Bb(ct sz:Nat)(cs:List AV):Option (AV×Obj):=bif ym cs.length sz&&bS cs then Ft (.ptr ct 0,.cells ydh (aD cs) ydh sz cs) else Fu
def atL(sz:Nat)(x:X):cB tm hp ct (.box sz x)=Bb ct sz (cellsOf (ay tm x)):=rfl
def awo(h:cL v=ydh):Bb ct 1 [v]=Ft (.ptr ct 0,.cells ydh (aW v&&ydh) ydh 1 [v]):=by
 simp[Bb,bS,aD,h]
def aV(hn:cs.length=n)(h:bS cs=ydh):Bb ct n cs=Ft (.ptr ct 0,.cells ydh (aD cs) ydh n cs):=by
 subst hn;simp[Bb,h]
def gm(hp:Hp)(ct id o sz:Nat)(new:List AV)(q:Option Obj):gY:=
 match q with
 | some (.cells ydh pu ex z cs)=>bif ym new.length sz&&yA (o+sz) cs.length&&bS new then Ft (.ax [],aU hp id (.cells ydh (pu&&aD new) ex z (over o new cs)),ct) else Fu
 | _=>Fu
def stV(hp:Hp)(ct sz:Nat)(p:AV)(new:List AV):gY:=match p with | .ptr id o=>gm hp ct id o sz new (ai hp id) | _=>Fu
def aaB(sz:Nat)(x v:X):b8 tm hp ct (.st sz x v)=stV hp ct sz (ay tm x) (cellsOf (ay tm v)):=rfl
def adY(sz id o:Nat)(new:List AV):stV hp ct sz (.ptr id o) new=gm hp ct id o sz new (ai hp id):=rfl
def og{u:AV}{id z:Nat}(h:cL v=ydh):gm hp ct id 0 1 [v] (Ft (.cells ydh pu ex z [u]))=Ft (.ax [],aU hp id (.cells ydh (pu&&(aW v&&ydh)) ex z [v]),ct):=by
 simp[gm,bS,aD,h,over];rfl
def qM{id z:Nat}(h1:new.length=sz)(h2:o+sz<=cs.length)(h:bS new=ydh):
  gm hp ct id o sz new (Ft (.cells ydh pu ex z cs))=Ft (.ax [],aU hp id (.cells ydh (pu&&aD new) ex z (over o new cs)),ct):=by
 subst h1;simp[gm,h,yt h2]
def Ov(ct n sz:Nat)(q:Option (List AV)):Option (AV×Obj):=match q with | some cs=>bif ym cs.length (n*sz) then Ft (.ap ct 0 n,.cells ydh (aD cs) ydh sz cs) else Fu | none=>Fu
def ap6(n sz:Nat)(z:List AV)(ps:List (Nat×Nat×X)):cB tm hp ct (.iB n sz z ps)=Ov ct n sz (fill tm z ps):=by
 simp only[cB,Ov];cases fill tm z ps<;>rfl
def ko(h:cs.length=n*sz):Ov ct n sz (Ft cs)=Ft (.ap ct 0 n,.cells ydh (aD cs) ydh sz cs):=by
 simp[Ov,h]
def kP(tm:Env)(cs:List AV)(o sz:Nat)(new:List AV)(r:List (Nat×Nat×X)):Option (List AV):=
 bif ym new.length sz&&yA (o+sz) cs.length&&bS new then fill tm (over o new cs) r else Fu
def anP(cs:List AV):fill tm cs []=Ft cs:=rfl
def alI(cs:List AV)(o sz:Nat)(x:X)(r:List (Nat×Nat×X)):fill tm cs ((o,sz,x)::r)=kP tm cs o sz (cellsOf (ay tm x)) r:=rfl
def FP{r:List (Nat×Nat×X)}(h1:o+1<=cs.length)(h2:cL v=ydh):kP tm cs o 1 [v] r=fill tm (over o [v] cs) r:=by
 simp[kP,bS,h2,yt h1]
def B3{r:List (Nat×Nat×X)}(h0:new.length=sz)(h1:o+sz<=cs.length)(h2:bS new=ydh):kP tm cs o sz new r=fill tm (over o new cs) r:=by
 subst h0;simp[kP,h2,yt h1]
def awp(v u:AV)(r:List AV):over 0 [v] (u::r)=v::r:=rfl
def awq(v a u:AV)(r:List AV):over 1 [v] (a::u::r)=a::v::r:=rfl
def awr(v a b u:AV)(r:List AV):over 2 [v] (a::b::u::r)=a::b::v::r:=rfl
def aws(v a b c u:AV)(r:List AV):over 3 [v] (a::b::c::u::r)=a::b::c::v::r:=rfl
def awt(v a b c d u:AV)(r:List AV):over 4 [v] (a::b::c::d::u::r)=a::b::c::d::v::r:=rfl
def awu(v a b c d e u:AV)(r:List AV):over 5 [v] (a::b::c::d::e::u::r)=a::b::c::d::e::v::r:=rfl
def zU(ct sz by':Nat)(zero:List AV)(l c:Option Nat):Option (AV×Obj):=
 match l,c with
 | some l,Ft c=>bif yA l c&&(yA c room&&(yA (c*by') room&&(ym zero.length sz&&bS zero))) then Ft (.ap ct 0 l,.cells ydh (aD zero) (ym l c) sz (yp l zero).flatten) else Fu
 | _,_=>Fu
def atM(sz by':Nat)(z:List AV)(l c:X):cB tm hp ct (.mH sz by' z l c)=zU ct sz by' z (cy (ay tm l)) (cy (ay tm c)):=by
 simp only[cB,zU]
 grind
def Gh{l:Nat}{z:List AV}(h1:l<=1099511627776)(h2:l*by'<=1099511627776)(h3:z.length=sz)(h4:bS z=ydh):
  zU ct sz by' z (Ft l) (Ft l)=Ft (.ap ct 0 l,.cells ydh (aD z) ydh sz (yp l z).flatten):=by
 subst h3;simp[zU,h4,yt (show l<=room from h1),yt (show l*by'<=room from h2),yt (yu l)]
def EE(hp:Hp)(ct sz by':Nat)(s:AV)(src:Option (Nat×List AV)):gY:=
 match src with
 | none=>Fu
 | some (m,new)=>
  match s with
  | .af=>
   bif ym m 0 then Ft (.af,hp,ct)
   else bif yA m room&&(yA (m*by') room&&yI 0 sz) then Ft (.ap ct 0 m,(ct,.cells ydh (aD new) ydi sz new)::hp,ct+1) else Fu
  | .au ydh n cs=>
   bif ym m 0 then Ft (.au ydh n cs,hp,ct)
   else bif yA (n+m) room&&(yA ((n+m)*by') room&&(ym cs.length (n*sz)&&yI 0 sz)) then Ft (.ap ct 0 (n+m),(ct,.cells ydh (aD cs&&aD new) ydi sz (cs++new))::hp,ct+1) else Fu
  | .ap id o n=>
   match ai hp id with
   | some (.cells ydh pu _ z cs)=>
    bif ym z sz&&(yA (n+m) room&&(yA ((n+m)*by') room&&(yA (o+n*sz) cs.length&&(yI 0 sz&&bS new)))) then
     Ft (.ap ct 0 (n+m),(ct,.cells ydh (pu&&aD new) ydi sz (slice o (n*sz) cs++new))::cC hp id,ct+1)
    else Fu
   | _=>Fu
  | _=>Fu
def alJ(sz by':Nat)(s x:X):b8 tm hp ct (.cQ sz by' s x)=EE hp ct sz by' (ay tm s) (jh hp sz (ay tm x)):=by
 simp only[b8,EE]
 cases jh hp sz (ay tm x) with
 | none=>rfl
 | some q=>have⟨m,new⟩:=q;cases ay tm s<;>rfl
def Ax(sz id o n:Nat):jh hp sz (.ap id o n)=mM hp sz (.ap id o n):=rfl
def akq(sz:Nat)(e:Bool)(n:Nat)(cs:List AV):jh hp sz (.au e n cs)=mM hp sz (.au e n cs):=rfl
def ajN(sz:Nat):jh hp sz .af=Ft (0,[]):=rfl
def E8(o n sz:Nat)(q:Option Obj):Option (Nat×List AV):=match q with | some (.cells _ _ _ _ cs)=>bif yA (o+n*sz) cs.length then Ft (n,slice o (n*sz) cs) else Fu | _=>Fu
def Au(sz id o n:Nat):mM hp sz (.ap id o n)=E8 o n sz (ai hp id):=rfl
def awv(rw pu ex:Bool)(z:Nat)(v:AV):E8 0 1 1 (Ft (.cells rw pu ex z [v]))=Ft (1,[v]):=rfl
def jC{m:Nat}(hm:0<m)(h1:m<=1099511627776)(h2:m*by'<=1099511627776)(hs:0<sz):
  EE hp ct sz by' .af (Ft (m,new))=Ft (.ap ct 0 m,(ct,.cells ydh (aD new) ydi sz new)::hp,ct+1):=by
 have e1:ym m 0=ydi:=jg (by lia);have e2:yI 0 sz=ydh:=yt hs;simp[EE,e1,e2,yt (show m<=room from h1),yt (show m*by'<=room from h2)]
def gA{id m:Nat}(hg:ai hp id=Ft (.cells ydh pu ex sz cs))(hl:cs.length=n*sz)(h1:n+m<=1099511627776)(h2:(n+m)*by'<=1099511627776)(hs:0<sz)(ho:bS new=ydh):
  EE hp ct sz by' (.ap id 0 n) (Ft (m,new))=Ft (.ap ct 0 (n+m),(ct,.cells ydh (pu&&aD new) ydi sz (cs++new))::cC hp id,ct+1):=by
 have e2:yI 0 sz=ydh:=yt hs;simp only[EE,hg];simp[e2,ho,yt (show n+m<=room from h1),yt (show (n+m)*by'<=room from h2),<-hl,slice,yt (yu cs.length)]
def afh(n:Nat)(g:Nat)(cap:List AV)(q:Option (List AV×Hp)):Option (AV×Hp):=match q with | some (first,hp)=>(match cu n hp cap with | some (OI,kD)=>Ft (.fn (.f g) first OI,kD) | none=>Fu) | none=>Fu
def afi(g:Nat)(first:List AV)(q:Option (List AV×Hp)):Option (AV×Hp):=match q with | some (cap,hp)=>Ft (.fn (.f g) first cap,hp) | none=>Fu
def JR(n g:Nat)(first cap:List AV):freeze (n+1) hp (.fn (.f g) first cap)=afh n g cap (cu n hp first):=rfl
def JS(n g:Nat)(first cap:List AV):afh n g cap (Ft (first,hp))=afi g first (cu n hp cap):=rfl
def JT(g:Nat)(first cap:List AV):afi g first (Ft (cap,hp))=Ft (.fn (.f g) first cap,hp):=rfl
def afj(o:Nat)(q:Option (Bool×Nat×List AV×Hp)):Option (AV×Hp):=match q with | some (_,_,cs,hp)=>Ft (.bq (cs.drop o),hp) | none=>Fu
def ap7(n id o:Nat):freeze (n+1) hp (.ptr id o)=afj o (rP n hp id):=rfl
def atN(o:Nat)(ex:Bool)(sz:Nat)(cs:List AV):afj o (Ft (ex,sz,cs,hp))=Ft (.bq (cs.drop o),hp):=rfl
def mF(o k:Nat)(q:Option (Bool×Nat×List AV×Hp)):Option (AV×Hp):=
 match q with
 | some (ex,sz,cs,hp)=>bif yA (o+k*sz) cs.length then Ft (.au (ex&&yI 0 sz&&ym (o+k*sz) cs.length) k (slice o (k*sz) cs),hp) else Fu
 | none=>Fu
def NG(n id o k:Nat):freeze (n+1) hp (.ap id o k)=mF o k (rP n hp id):=rfl
def il{k:Nat}(ex:Bool)(hl:cs.length=k*sz)(hs:0<sz):mF 0 k (Ft (ex,sz,cs,hp))=Ft (.au ex k cs,hp):=by
 have e2:yI 0 sz=ydh:=yt hs;simp[mF,<-hl,e2,slice,yt (yu cs.length)]
def CC(n id:Nat)(hp:Hp)(q:Option Obj):Option (Bool×Nat×List AV×Hp):=
 match q with
 | some (.cells rw pu ex sz cs)=>
  bif pu then Ft (ex,sz,cs,bif rw then aU hp id (.cells ydi ydh ex sz cs) else hp)
  else match cu n hp cs with
   | some (df,an)=>Ft (ex,sz,df,aU an id (.cells ydi ydi ex sz cs))
   | none=>Fu
 | _=>Fu
def NH(n id:Nat):rP (n+1) hp id=CC n id hp (ai hp id):=rfl
def atO(n id:Nat)(ex:Bool)(sz:Nat)(cs:List AV):CC n id hp (Ft (.cells ydh ydh ex sz cs))=Ft (ex,sz,cs,aU hp id (.cells ydi ydh ex sz cs)):=rfl
def atP(n id:Nat)(ex:Bool)(sz:Nat)(cs:List AV):CC n id hp (Ft (.cells ydi ydh ex sz cs))=Ft (ex,sz,cs,hp):=rfl
def cr(n:Nat)(cs:List AV)(h:cu n hp cs=Ft (cs,hp)):freeze (n+1) hp (.agg cs)=Ft (.agg cs,hp):=by
 simp only[freeze,h]
def Rw{id:Nat}(hg:ai hp id=Ft (.cells ydh ydh ex sz cs))(hl:cs.length=n*sz)(hs:0<sz):result hp (.ap id 0 n)=Ft (.cF ex sz n cs):=by
 have e2:yI 0 sz=ydh:=yt hs;simp only[result,qB,hg,yd,<-hl,yt (yu cs.length),yq,e2,uz,slice,yh,xN]
 simp
def ai6(b:Bool):result hp (.ax [.af,.bool b])=Ft (.ax [.af,.bool b]):=rfl
def ai7(k:xd)(b:Int):result hp (.ax [.af,.int k b])=Ft (.ax [.af,.int k b]):=rfl
def ai8(e:Bool)(n:Nat)(cs:List AV)(k:xd)(b:Int):result hp (.ax [.au e n cs,.int k b])=Ft (.ax [.au e n cs,.int k b]):=rfl
def alK(s:St):qH [] s=Ft s:=rfl
def WZ(t:Nat)(r:List Nat)(tm:Env)(ct base:Nat)(q:Option (AV×Hp)):Option St:=match q with | some (v,hp)=>qH r ⟨(t,v)::tm,hp,ct,base⟩ | none=>Fu
def akr(t:Nat)(r:List Nat)(tm:Env)(hp:Hp)(ct base:Nat):qH (t::r) ⟨tm,hp,ct,base⟩=WZ t r tm ct base (freeze deep hp (ak tm t)):=by
 simp only[qH,WZ];cases freeze deep hp (ak tm t)<;>rfl
def aww(t:Nat)(r:List Nat)(tm:Env)(ct base:Nat)(v:AV)(hp:Hp):WZ t r tm ct base (Ft (v,hp))=qH r ⟨(t,v)::tm,hp,ct,base⟩:=rfl
end
attribute [go_sem] ai6 ai7 ai8 alB akn alC ako alD alE alF anL alG abQ anM ap2 anN ap3 ap4 ap5 atG anO ZL
 alH akp atH atI awn ax2 atJ atK atL awo aaB adY og ap6 anP alI awp awq awr aws awt awu atM
 alJ Ax akq ajN Au awv JR JS JT ap7 atN NG il ko FP NH atO atP alK akr aww
 Bool.and_false uP yh eq_self
end
def aaC:∀hp:Hp,cI 0 hp=[]
 | []=>rfl
 | (id,o)::r=>by
  have:yI id 0=ydi:=rfl
  simp only[cI,this,yO,aaC r]
def acz(f:Nat->Option Nat):∀hp:Hp,fI 0 f hp=[]
 | []=>rfl
 | (id,o)::r=>by
  have:yI id 0=ydi:=rfl
  simp only[fI,this,yO,acz f r]
def pos(seen:List Nat):Nat->Option Nat:=fun id=>gV id seen 0
def Vg(tm:Env)(hp:Hp)(seen:List Nat):St:=⟨eO (pos seen) tm,ew hp (pos seen) seen 0 [],seen.length,0⟩
def nC(hp:Hp):Nat->List Nat->List Nat->List Nat:=reach hp 0
def aA(live:List Nat)(tm:Env)(hp:Hp)(ct:Nat):br live ⟨tm,hp,ct,0⟩=Vg (bE tm live) hp (nC hp 100000 (dL (bE tm live)) []):=by
 have e:∀seen,gB 0 seen=pos seen:=fun seen=>by
  funext id
  have:yI id 0=ydi:=rfl
  simp only[gB,this,yO,pos]
 simp only[br,aaC,wq,e,acz,Vg,nC,yd]
def alL:dL []=[]:=rfl
def YT(i:Nat)(v:AV)(r:Env):dL ((i,v)::r)=refs v++dL r:=rfl
def anQ(k:xd)(n:Int):refs (.int k n)=[]:=rfl
def alM(b:Bool):refs (.bool b)=[]:=rfl
def anR(s:List Nat):refs (.str s)=[]:=rfl
def alN:refs .af=[]:=rfl
def anS(e:Bool)(n:Nat)(cs:List AV):refs (.au e n cs)=[]:=rfl
def alO(cs:List AV):refs (.bq cs)=[]:=rfl
def aks:refs .undef=[]:=rfl
def anT(id o:Nat):refs (.ptr id o)=[id]:=rfl
def anU(id o n:Nat):refs (.ap id o n)=[id]:=rfl
def ap8(g:Nat)(a b:List AV):refs (.fn (.f g) a b)=fH a++fH b:=rfl
def atQ(l:Nat)(a b:List AV):refs (.fn (.y l) a b)=[l]:=rfl
def anV(cs:List AV):refs (.agg cs)=fH cs:=rfl
def alP:fH []=[]:=rfl
def akt(v:AV)(r:List AV):fH (v::r)=refs v++fH r:=rfl
def Ps(hp:Hp)(n id:Nat)(cm seen:List Nat)(q:Option Obj):List Nat:=match q with | some o=>nC hp n (iW o++cm) (seen++[id]) | none=>nC hp n cm seen
def Pt(hp:Hp)(n id:Nat)(cm seen:List Nat)(b:Bool):List Nat:=bif b then nC hp n cm seen else Ps hp n id cm seen (ai hp id)
def abR(hp:Hp)(n:Nat)(seen:List Nat):nC hp (n+1) [] seen=seen:=rfl
def Sx(hp:Hp)(n id:Nat)(cm seen:List Nat):nC hp (n+1) (id::cm) seen=Pt hp n id cm seen (jn id seen):=by
 have:yI id 0=ydi:=rfl
 simp only[nC,reach,this,ybn,Pt,Ps]
 cases jn id seen with
 | true=>rfl
 | false=>simp only[yO];cases ai hp id<;>rfl
def atS(hp:Hp)(n id:Nat)(cm seen:List Nat):Pt hp n id cm seen ydh=nC hp n cm seen:=rfl
def TH(hp:Hp)(n id:Nat)(cm seen:List Nat):Pt hp n id cm seen ydi=Ps hp n id cm seen (ai hp id):=rfl
def TI(hp:Hp)(n id:Nat)(cm seen:List Nat)(o:Obj):Ps hp n id cm seen (Ft o)=nC hp n (iW o++cm) (seen++[id]):=rfl
def aaD(i:Nat):jn i []=ydi:=rfl
def aaE(i:Nat)(r:List Nat):jn i (i::r)=ydh:=by simp only[jn,wV,yq]
def ZM{i j:Nat}(r:List Nat)(h:j≠i):jn i (j::r)=jn i r:=by simp only[jn,jg h,yO]
def ap9(rw ex:Bool)(sz:Nat)(cs:List AV):iW (.cells rw ydh ex sz cs)=[]:=rfl
def S8(rw ex:Bool)(sz:Nat)(cs:List AV):iW (.cells rw ydi ex sz cs)=fH cs:=rfl
def anW(tm:Env)(ps:List Nat)(a b:VC)(st:Nat)(pe:sf):iW (.lp tm ps a b st pe)=dL tm:=rfl
def abS(i:Nat)(r:List Nat)(k:Nat):gV i (i::r) k=Ft k:=by simp only[gV,wV,yq]
def aaF{i j:Nat}(r:List Nat)(k:Nat)(h:j≠i):gV i (j::r) k=gV i r (k+1):=by simp only[gV,jg h,yO]
def pos_eq(seen:List Nat)(i:Nat):pos seen i=gV i seen 0:=rfl
def Ow(o:Nat)(q:Option Nat):AV:=match q with | some j=>.ptr j o | none=>.undef
def Ox(o n:Nat)(q:Option Nat):AV:=match q with | some j=>.ap j o n | none=>.undef
def anX(s:List Nat):eO (pos s) []=[]:=rfl
def alQ(s:List Nat)(i:Nat)(v:AV)(r:Env):eO (pos s) ((i,v)::r)=(i,bm (pos s) v)::eO (pos s) r:=rfl
def aqa(s:List Nat)(k:xd)(n:Int):bm (pos s) (.int k n)=.int k n:=rfl
def anY(s:List Nat)(b:Bool):bm (pos s) (.bool b)=.bool b:=rfl
def aqb(s:List Nat)(t:List Nat):bm (pos s) (.str t)=.str t:=rfl
def anZ(s:List Nat):bm (pos s) .af=.af:=rfl
def aqc(s:List Nat)(e:Bool)(n:Nat)(cs:List AV):bm (pos s) (.au e n cs)=.au e n cs:=rfl
def an0(s:List Nat)(cs:List AV):bm (pos s) (.bq cs)=.bq cs:=rfl
def alR(s:List Nat):bm (pos s) .undef=.undef:=rfl
def aqd(s:List Nat)(id o:Nat):bm (pos s) (.ptr id o)=Ow o (gV id s 0):=rfl
def aqe(s:List Nat)(id o n:Nat):bm (pos s) (.ap id o n)=Ox o n (gV id s 0):=rfl
def atT(s:List Nat)(g:Nat)(a b:List AV):bm (pos s) (.fn (.f g) a b)=.fn (.f g) (dB (pos s) a) (dB (pos s) b):=rfl
def aqf(s:List Nat)(cs:List AV):bm (pos s) (.agg cs)=.agg (dB (pos s) cs):=rfl
def an1(s:List Nat):dB (pos s) []=[]:=rfl
def alS(s:List Nat)(v:AV)(r:List AV):dB (pos s) (v::r)=bm (pos s) v::dB (pos s) r:=rfl
def aqg(o j:Nat):Ow o (Ft j)=.ptr j o:=rfl
def aqh(o n j:Nat):Ox o n (Ft j)=.ap j o n:=rfl
def Vh(hp:Hp)(f:Nat->Option Nat)(r:List Nat)(k:Nat)(acc:Hp)(q:Option Obj):Hp:=match q with | some o=>ew hp f r (k+1) ((k,gE f o)::acc) | none=>ew hp f r (k+1) acc
def alT(hp:Hp)(s:List Nat)(k:Nat)(acc:Hp):ew hp (pos s) [] k acc=acc:=rfl
def aku(hp:Hp)(s:List Nat)(id:Nat)(r:List Nat)(k:Nat)(acc:Hp):ew hp (pos s) (id::r) k acc=Vh hp (pos s) r k acc (ai hp id):=by
 simp only[ew,Vh];cases ai hp id<;>rfl
def atU(hp:Hp)(s r:List Nat)(k:Nat)(acc:Hp)(o:Obj):Vh hp (pos s) r k acc (Ft o)=ew hp (pos s) r (k+1) ((k,gE (pos s) o)::acc):=rfl
def N4(f:Nat->Option Nat)(rw ex:Bool)(sz:Nat)(cs:List AV):gE f (.cells rw ydh ex sz cs)=.cells rw ydh ex sz cs:=rfl
def acA(f:Nat->Option Nat)(rw ex:Bool)(sz:Nat)(cs:List AV):gE f (.cells rw ydi ex sz cs)=.cells rw ydi ex sz (dB f cs):=rfl
def aqi(f:Nat->Option Nat)(tm:Env)(ps:List Nat)(a b:VC)(st:Nat)(pe:sf):gE f (.lp tm ps a b st pe)=.lp (eO f tm) ps a b st pe:=rfl
def abT(tm:Env)(hp:Hp)(seen:List Nat):Vg tm hp seen=⟨eO (pos seen) tm,ew hp (pos seen) seen 0 [],seen.length,0⟩:=rfl
attribute [go_sem] alL YT anQ alM anR alN anS alO aks anT anU ap8 atQ anV alP akt abR Sx atS TH TI
 aaD aaE ZM ap9 S8 anW abS aaF anX alQ aqa anY aqb anZ aqc an0 alR aqd aqe atT aqf an1 alS aqg aqh
 alT aku atU N4 acA aqi abT yy yH
def aaG{α:Type}{p:α->Bool}{l:List α}{i:Nat}(h:i<l.length):(l.drop i).any p=(p l[i]||(l.drop (i+1)).any p):=by
 rw[yR h,List.any_cons]
def dC(f:Nat->Int):Nat->Int
 | 0=>0
 | n+1=>dC f n+f n
def ZN{k:xd}{n:Int}(h:0<=n):cy (.int k n)=Ft n.toNat:=by
 cases n with
 | ofNat n=>rfl
 | negSucc n=>exact absurd h (by simp)
def bj(k id o:Nat):Ci k (.ptr id o)=Ft (.ptr id (o+k)):=rfl
def dI{α:Type}(a:α)(l:List α):uk 1 (a::l)=l:=rfl
def awx{α:Type}(a b:α)(l:List α):uk 2 (a::b::l)=l:=rfl
def adZ{α:Type}(a b c:α)(l:List α):uk 3 (a::b::c::l)=l:=rfl
abbrev Nm(n:Int):AV:=.agg [aa n,.af]
def zD(hp:Hp)(ct id:Nat)(a:Int)(x y:AV):gm hp ct id 0 2 [.int .i64 a,.af] (Ft (.cells ydh ydh ydh 2 [x,y]))=Ft (.ax [],aU hp id (.cells ydh ydh ydh 2 [.int .i64 a,.af]),ct):=rfl
def fh(b:Bool):Ba ydi (Ft b)=Ft (.bool b):=by cases b<;>rfl
def acB(f:cd)(tm:Env)(hp:Hp)(ct:Nat)(x y:X):aX P L f tm hp ct (.mn [x,y])=rd hp ct (min2 (ay tm x) (ay tm y)):=by
 simp only[aX,rd,bf,dA,Ch]
 grind
def D6(f:cd)(tm:Env)(hp:Hp)(ct:Nat)(x y:X):aX P L f tm hp ct (.mx [x,y])=rd hp ct (max2 (ay tm x) (ay tm y)):=by
 simp only[aX,rd,bf,dA,Ch]
 grind
def aaH(k k':xd)(x y:Int):min2 (.int k x) (.int k' y)=Ft (.int k (if y<x then y else x)):=rfl
def I4(k k':xd)(x y:Int):max2 (.int k x) (.int k' y)=Ft (.int k (if y>x then y else x)):=rfl
def eF(n:Int):Int:=if n<0 then -1 else if n=0 then 0 else 1
def atV(n:Int):(if (if n<1 then n else 1)> -1 then (if n<1 then n else 1) else -1)=eF n:=by
 unfold eF
 grind
def n117(h:Has P L 117 OU)(n:Int):ah P L 117 [aa n] (Nm n):=by
 unfold ah;rw[aJ h];simp only[go_sem,ya,yc,yo,OU,aV,yd,zD];rfl
def qO(hp:Hp)(p q:Bool):jo .b (.bool p) (.bool q)=Ft (p==q):=rfl
def lI{n:Nat}{sp:List AV->Option AV}(h:L.pure n=Ft sp){f:cd}(aq:List AV):bT P L f n aq=sp aq:=by simp only[bT,h]
abbrev U64(n:Int):AV:=.int .u64 n
def awy{n:Int}(h1:0<=n)(h2:n<18446744073709551616):IntKind.wrap .u64 n=n:=by
 simp only[IntKind.wrap,IntKind.signed,IntKind.bits]
 grind
def acC(n:Int):kC (.toInt .u64) (aa n)=Ft (U64 (IntKind.wrap .u64 n)):=rfl
def N5(n:Int):kC (.toInt .i64) (U64 n)=Ft (aa (IntKind.wrap .i64 n)):=rfl
def JU(b:Bool):Ba ydh (Ft b)=Ft (.bool (!b)):=by cases b<;>rfl
def bR(a b:AV)(r:List AV):gI 2 ydh (a::b::r)=Ft (.agg [a,b]):=rfl
def iX(a b c d:AV)(r:List AV):gI 4 ydh (a::b::c::d::r)=Ft (.agg [a,b,c,d]):=rfl
def alU{a b:Int}(hb:0<b):(a.tmod b<0->a/b=a.tdiv b-1/\a%b=a.tmod b+b)/\(¬a.tmod b<0->a/b=a.tdiv b/\a%b=a.tmod b):=by
 have h1:=Int.mul_tdiv_add_tmod a b;have h2:a.tmod b<b:=Int.tmod_lt_of_pos a hb;have h3: -b<a.tmod b:=Int.lt_tmod_of_pos a hb;refine⟨fun h=>(yag hb).2 ⟨?_,?_,?_⟩,fun h=>(yag hb).2 ⟨?_,?_,?_⟩⟩
 .grind
 .lia
 .lia
 .lia
 .lia
 .lia
def an2(a b:Nat)(hb:b≠0):vE b (a%b)=vE a b:=by
 rw[tY b,<-ycQ,tY]
def de(a b:Int):Int:=a/(vJ a b:Nat)
def dD(a b:Int):Int:=b/(vJ a b:Nat)
def NI{a b:Int}(hb:0<b):(0:Int)<(vJ a b:Nat):=by
 have:=Int.gcd_pos_of_ne_zero_right a (show b≠0 by lia)
 lia
def atW(a b:Int):a=(vJ a b:Nat)*de a b:=(ybf (yan a b)).symm
def atX(a b:Int):b=(vJ a b:Nat)*dD a b:=(ybf (yab a b)).symm
def I5{a b:Int}(hb:0<b):0<dD a b:=by
 have h1:=NI (a:=a) hb;have h2:=atX a b;rcases Int.lt_trichotomy (dD a b) 0 with h | h | h
 .have:=Int.mul_neg_of_pos_of_neg h1 h;lia
 .grind
 .exact h
def aaI(a b:Int):(de a b).natAbs<=a.natAbs:=by
 unfold de;rw[uZ (yan a b)];exact vB _ _
def aaJ(a b:Int):(dD a b).natAbs<=b.natAbs:=by
 unfold dD;rw[uZ (yab a b)];exact vB _ _
def qR(a b:Int):List Nat:=if dD a b=1 then aZ (de a b) else aZ (de a b)++[47]++aZ (dD a b)
section
variable {s:List Nat}{n:Nat}
def ad0{a b:Nat}(h:¬a<b):yI a b=ydi:=by
 cases hb:yI a b with
 | false=>rfl
 | true=>exact absurd (yr hb) (by lia)
def S9:∀(f n:Nat) (acc:List Nat),n<f->nP f n acc=nP f n []++acc
 | 0,_,_,h=>by lia
 | f+1,n,acc,h=>by
  simp only[nP];by_cases h1:n<10
  .rw [show yI n 10=ydh from yt h1];rfl
  .rw [show yI n 10=ydi from ad0 (by lia)];rw[S9 f (n/10) _ (by lia),S9 f (n/10) [48+n%10] (by lia)]
   simp
def RZ{f:Nat}(h:n<10):nP (f+1) n []=[48+n]:=by
 simp only[nP];rw[show yI n 10=ydh from yt h];rfl
def Ta{f:Nat}(h:¬n<10)(hf:n<=f):nP (f+1) n []=nP f (n/10) []++[48+n%10]:=by
 rw[<-S9 f (n/10) _ (by lia)];simp only[nP];rw[show yI n 10=ydi from ad0 (by lia)];rfl
def an3:∀(n f:Nat),n<f->nP f n []=aB n:=by
 intro n
 induction n using vP with
 | _ n ih=>
  intro f hf;obtain⟨g,rfl⟩:∃g,f=g+1:=⟨f-1,by lia⟩;by_cases h:n<10
  .rw [RZ h];unfold aB;rw[RZ h]
  .rw [Ta h (by lia),ih (n/10) (by lia) g (by lia)];unfold aB;rw[Ta h (yu n),ih (n/10) (by lia) n (by lia)];rfl
def oQ(h:n<10):aB n=[48+n]:=RZ h
def p9(h:¬n<10):aB n=aB (n/10)++[48+n%10]:=by
 rw[show aB n=nP (n+1) n [] from rfl,Ta h (yu n),an3 (n/10) n (by lia)]
def zo:∀{k n:Nat},n<10^(k+1)->(aB n).length<=k+1
 | 0,n,h=>by rw[oQ (by simpa using h)];simp
 | k+1,n,h=>by
  by_cases h1:n<10
  .rw [oQ h1];simp
  .rw [p9 h1,yJ]
   have:n/10<10^(k+1):=by
    grind
   have:=zo this
   grind
def ML(h:n<18446744073709551616):(aB n).length<=20:=zo (k:=19) (by lia)
def zp(n:Nat):aZ (n:Int)=aB n:=rfl
def oS{n:Int}(h:n<0):aZ n=45::aB n.natAbs:=by
 cases n with
 | ofNat n=>exact absurd h (by simp)
 | negSucc n=>rfl
def dG:List Nat->Nat
 | []=>0
 | b::r=>if b=47 then 0 else dG r+1
def ajO{i:Nat}(h:i<s.length):dG (s.drop i)=if s[i]=47 then 0 else dG (s.drop (i+1))+1:=by
 rw[yR h];rfl
def R0:∀s:List Nat,dG s<=s.length
 | []=>yu _
 | b::r=>by
  unfold dG
  have:=R0 r
  grind
def fN:List Nat->Bool
 | []=>ydh
 | b::r=>yA 48 b&&yA b 57&&fN r
def Rc:∀(a b:List Nat),fN (a++b)=(fN a&&fN b)
 | [],b=>by simp[fN]
 | x::a,b=>by simp[fN,Rc a b,Bool.and_assoc]
def AA(n:Nat):fN (aB n)=ydh:=by
 induction n using vP with
 | _ n ih=>
  by_cases h:n<10
  .rw [oQ h];simp[fN];lia
  .rw [p9 h,Rc,ih (n/10) (by lia)];simp[fN];lia
def IK:∀{s:List Nat} (r:List Nat),fN s=ydh->dG (s++r)=s.length+dG r
 | [],r,_=>by simp
 | b::s,r,h=>by
  simp only[fN,ye] at h;have h1:=yr h.1.1;simp only[yx,dG,yy];rw[yz (by lia),IK r h.2]
  lia
def Mt:∀(l:List Nat) (a d:Nat),d<10->cE (l++[48+d]) a=(cE l a).map (fun v=>10*v+d)
 | [],a,d,h=>by
  simp only[yM,cE];rw[show yA 48 (48+d)=ydh from yt (by lia),show yA (48+d) 57=ydh from yt (by lia)]
  simp
 | b::l,a,d,h=>by
  simp only[yx,cE]
  cases (yA 48 b&&yA b 57) with
  | true=>exact Mt l _ d h
  | false=>rfl
def BT(n:Nat):cE (aB n) 0=Ft n:=by
 induction n using vP with
 | _ n ih=>
  by_cases h:n<10
  .rw [oQ h]
   have:=Mt [] 0 n h
   simpa[cE] using this
  .rw [p9 h,Mt _ _ _ (by lia),ih (n/10) (by lia)]
   simp;lia
def alV{i a v:Nat}(h:i<s.length)(hv:cE (s.drop i) a=Ft v):48<=s[i]/\s[i]<=57/\cE (s.drop (i+1)) (10*a+(s[i]-48))=Ft v:=by
 rw[yR h] at hv;simp only[cE] at hv
 cases hb:(yA 48 s[i]&&yA s[i] 57) with
 | false=>rw[hb] at hv;cases hv
 | true=>
  simp_all
def js:Nat->Nat->List Nat
 | 0,_=>[]
 | k+1,n=>js k (n/10)++[48+n%10]
def Sy:∀k n,(js k n).length=k
 | 0,_=>rfl
 | k+1,n=>by simp[js,Sy k]
def Nj:∀(k m r:Nat),0<m->r<10^k->aB (m*10^k+r)=aB m++js k r
 | 0,m,r,_,h=>by simp at h;subst h;simp[js]
 | k+1,m,r,hm,h=>by
  have h1:m*10^(k+1)+r=(m*10^k)*10+r:=by grind
  have hp:0<m*10^k:=vv hm (ycw (by decide));have e1:(m*10^(k+1)+r)/10=m*10^k+r/10:=by lia
  have e2:(m*10^(k+1)+r)%10=r%10:=by lia
  rw[p9 (by lia),e1,e2,Nj k m (r/10) hm (by rw[xh] at h;lia)]
  simp[js]
def aaK:∀(k r a:Nat),r<10^k->cE (js k r) a=Ft (a*10^k+r)
 | 0,r,a,h=>by simp at h;subst h;simp[js,cE]
 | k+1,r,a,h=>by
  rw[js,Mt _ _ _ (xu _ (by decide)),aaK k (r/10) a (by lia)];simp only[wU,yb,xh]
  grind
def an4{m:Nat}(h:1000000000<=m):aB m=aB (m/1000000000)++js 9 (m%1000000000):=by
 have:=Nj 9 (m/1000000000) (m%1000000000) (by lia) (by lia)
 grind
end
def jt(s:List Nat)(l h:Option Nat):Option AV:=
 match l,h with
 | some l,Ft h=>bif yA l h&&yA h s.length then Ft (.str ((s.take h).drop l)) else Fu
 | _,_=>Fu
def fp(hp:Hp)(s:List Nat)(tm:Env)(lo hi:Option X):fj hp .str (.str s) tm lo hi=jt s (cP tm 0 lo) (cP tm s.length hi):=by
 unfold jt;simp only[fj]
 grind
def fQ(tm:Env)(d:Nat):cP tm d Fu=Ft d:=rfl
def ep(tm:Env)(d:Nat)(x:X):cP tm d (Ft x)=cy (ay tm x):=rfl
def mO{s:List Nat}{l h:Nat}(h1:l<=h)(h2:h<=s.length):jt s (Ft l) (Ft h)=Ft (.str ((s.take h).drop l)):=by
 simp[jt,yt h1,yt h2]
def ir{a b:List Nat}(h:a.length+b.length<=9223372036854775807):binOp .add (.str a) (.str b)=Ft (.str (a++b)):=by
 show J0 .add a b=_
 simp only[J0,yt h,yq]
def aqj(k:xd)(n:Int):kC (.toInt .i64) (.int k n)=Ft (aa (IntKind.wrap .i64 n)):=rfl
def AJ(a b:List Nat):binOp .eql (.str a) (.str b)=Ft (.bool (dh a b)):=rfl
def rV{s:List Nat}{i:Nat}(h:i<s.length):r7 i (.str s)=Ft (.int .u8 (s[i]:Nat)):=by
 simp only[r7,yN h]
def YU{r:Nat}(h:r<10):jt [48,49,50,51,52,53,54,55,56,57] (Ft r) (Ft (r+1))=Ft (.str [48+r]):=by
 have:r=0\/r=1\/r=2\/r=3\/r=4\/r=5\/r=6\/r=7\/r=8\/r=9:=by lia
 rcases this with rfl | rfl | rfl | rfl | rfl | rfl | rfl | rfl | rfl | rfl<;>rfl
def Vi(h:Has P L 292 A8){n:Nat}(hn:n<9223372036854775808):ah P L 292 [aa n,aa 1] (.str (aB n)):=by
 have key:=ji P L [0,1,5] oX
  (fun k st=>∃(m:Nat) (s:List Nat),st=⟨[(0,aa m),(1,aa 1),(5,.str s)],[],0,0⟩/\m<=n/\m+(1-s.length)=k/\s.length<=20/\((s=[]/\m=n)\/(0<s.length/\(m=0->s=aB n)/\(0<m->aB n=aB m++s))))
  (fun ex st=>∃tm ct,st=⟨tm,[],ct,0⟩/\ex=.exit 0/\ak tm 5=.str (aB n)) ?_
 .unfold ah;rw[aJ h];simp only[go_sem,A8];generalize hq:D P L (.loop _ oX) _=q;obtain⟨ex,st,rfl,tm,ct,rfl,rfl,h2⟩:=bN hq (key (n+1)) ⟨n,[],by simp only[go_sem,ya,aA]<;>rfl,by lia,rfl,by simp,.inl ⟨rfl,rfl⟩⟩
  simp only[go_sem,aA,h2]
 .rintro k st ⟨m,s,rfl,hm,hk,hl,hs⟩;by_cases Ag:0<m\/s.length<1
  .left
   have hc:((decide ((0:Int)<m))=ydh)\/((decide ((0:Int)<m))=ydi/\((s.length:Nat):Int)<1):=by
    by_cases h0:0<m
    .exact .inl (xT (by lia))
    .exact .inr ⟨xv (by lia),by lia⟩
   have hr:((m:Int)).tmod 10=((m%10:Nat):Int):=by rw[wj (by lia)];rfl
   have hq:((m:Int)).tdiv 10=((m/10:Nat):Int):=by rw[wm (by lia)];rfl
   have hd:=YU (r:=m%10) (by lia);have fin:∃s' k',D P L oX ⟨[(0,aa m),(1,aa 1),(5,.str s)],[],0,0⟩=Ft (.normal,s')/\k'<k/\br [0,1,5] s'=⟨[(0,aa (m/10:Nat)),(1,aa 1),(5,.str ([48+m%10]++s))],[],0,0⟩/\m/10+(1-([48+m%10]++s).length)=k':=by
    rcases hc with hc | ⟨hc,CY⟩
    .have hc:(0:Int)<m:=of_decide_eq_true hc
     simp only[go_sem,ya,yc,oX,hc,fE _ _ _ (show (10:Int)≠0 by decide),fW _ _ _ (show (10:Int)≠0 by decide),hr,hq,wrapN (n:=m%10+1) (by lia),wrap64 (n:=((m/10:Nat):Int)) (by lia) (by lia),fp,ep,show ((m%10:Nat):Int)+1=((m%10+1:Nat):Int) from rfl,hd,ir (a:=[48+m%10]) (b:=s) (by simp;lia)]
     refine⟨_,_,rfl,?_,by simp only[go_sem,ya,aA],rfl⟩
     simp;lia
    .have hc:¬(0:Int)<m:=of_decide_eq_false hc
     simp only[go_sem,ya,yc,oX,hc,CY,fE _ _ _ (show (10:Int)≠0 by decide),fW _ _ _ (show (10:Int)≠0 by decide),hr,hq,wrapN (n:=m%10+1) (by lia),wrap64 (n:=((m/10:Nat):Int)) (by lia) (by lia),fp,ep,show ((m%10:Nat):Int)+1=((m%10+1:Nat):Int) from rfl,hd,ir (a:=[48+m%10]) (b:=s) (by simp;lia)]
     refine⟨_,_,rfl,?_,by simp only[go_sem,ya,aA],rfl⟩
     simp;lia
   have⟨s',k',f1,f2,f3,f4⟩:=fin;refine⟨s',k',f1,f2,m/10,[48+m%10]++s,f3,by lia,f4,?_,.inr ⟨by simp,fun h0=>?_,fun h0=>?_⟩⟩
   .have aDP:=ML (n:=n) (by lia);rcases hs with ⟨rfl,rfl⟩ | ⟨h1,h2,h3⟩
    .simp
    .by_cases h0:0<m
     .have e:=congrArg wu (h3 h0);have e2:0<(aB m).length:=by
       by_cases h9:m<10
       .rw [oQ h9];simp
       .rw [p9 h9];simp
      simp only[yJ] at e
      simp;lia
     .lia
   .have h9:m<10:=by lia
    rcases hs with ⟨rfl,rfl⟩ | ⟨h1,h2,h3⟩
    .rw [oQ h9,yF h9];rfl
    .have:0<m:=by lia
     rw[h3 this,oQ h9,yF h9]
   .have h9:¬m<10:=by lia
    rcases hs with ⟨rfl,rfl⟩ | ⟨h1,h2,h3⟩
    .rw [p9 h9];simp
    .rw [h3 (by lia),p9 h9];simp
  .right
   simp only[go_sem,ya,oX,show ¬(0:Int)<m by lia,show ¬((s.length:Nat):Int)<1 by lia];refine⟨_,_,rfl,by simp,_,_,rfl,rfl,?_⟩;simp only[go_sem,ya];rcases hs with ⟨rfl,rfl⟩ | ⟨h1,h2,h3⟩
   .simp at Ag
   .rw [h2 (by lia)]
def ax3(h:Has P L 291 KE){a b:Nat}(ha:a<9223372036854775808)(hb:b<9223372036854775808):ah P L 291 [aa a,aa b] (aa (vE a b)):=by
 have key:=ji P L [0,1] JI
  (fun k st=>∃x y:Nat,st=⟨[(0,aa x),(1,aa y)],[],0,0⟩/\y=k/\vE x y=vE a b)
  (fun ex st=>∃tm ct,st=⟨tm,[],ct,0⟩/\ex=.exit 0/\ak tm 0=aa (vE a b)) ?_
 .unfold ah;rw[aJ h];simp only[go_sem,KE];generalize hq:D P L (.loop _ JI) _=q;obtain⟨ex,st,rfl,tm,ct,rfl,rfl,h2⟩:=bN hq (key b) ⟨a,b,by simp only[go_sem,ya,aA]<;>rfl,rfl,rfl⟩
  simp only[go_sem,aA,h2]
 .rintro k st ⟨x,y,rfl,rfl,hg⟩;by_cases hy:y=0
  .right
   subst hy;simp only[go_sem,ya,JI,show ¬(0:Int)<((0:Nat):Int) by lia];refine⟨_,_,rfl,by simp,_,_,rfl,rfl,?_⟩;simp only[go_sem,ya];rw[<-hg,Nat.gcd_zero_right]
  .left
   have hr:((x:Int)).tmod y=((x%y:Nat):Int):=by rw[wj (by lia)];rfl
   simp only[go_sem,ya,JI,show (0:Int)<y by lia,fE _ _ _ (show (y:Int)≠0 by lia),hr];refine⟨_,x%y,rfl,xu _ (by lia),y,x%y,by simp only[go_sem,ya,aA],rfl,?_⟩;rw[<-hg,tY y,<-ycQ,tY]
def KQ(h:Has P L 272 KB){s:List Nat}(hl:s.length<9223372036854775808):ah P L 272 [.str s] (aa (dG s)):=by
 have key:=ji P L [0,3] F9
  (fun k st=>∃i:Nat,st=⟨[(0,.str s),(3,aa i)],[],0,0⟩/\i+k=s.length/\i+dG (s.drop i)=dG s)
  (fun ex st=>∃tm ct,st=⟨tm,[],ct,0⟩/\((ex=.ret/\ak tm 2=aa (dG s))\/(ex=.exit 0/\ak tm 0=.str s/\dG s=s.length))) ?_
 .unfold ah;rw[aJ h];simp only[go_sem,KB];generalize hq:D P L (.loop _ F9) _=q;obtain⟨ex,st,rfl,tm,ct,rfl,h2⟩:=bN hq (key s.length) ⟨0,by simp only[go_sem,ya,aA]<;>rfl,by lia,by simp⟩
  rcases h2 with ⟨rfl,h2⟩ | ⟨rfl,h2,h3⟩
  .simp only [go_sem,h2]
  .simp only [go_sem,aA,h2,h3]
 .rintro k st ⟨i,rfl,hk,hs⟩;by_cases hi:i<s.length
  .rw [ajO hi] at hs;by_cases h7:s[i]=47
   .right
    rw[yP h7] at hs;simp only[go_sem,ya,F9,show (i:Int)<s.length by lia,rV hi,show ((s[i]:Nat):Int)=47 by lia];refine⟨_,_,rfl,by simp,_,_,rfl,.inl ⟨rfl,?_⟩⟩;simp only[go_sem];rw[<-hs];rfl
   .left
    rw[yz h7] at hs;simp only[go_sem,ya,F9,show (i:Int)<s.length by lia,rV hi,show ¬((s[i]:Nat):Int)=47 by lia];refine⟨_,k-1,rfl,by lia,i+1,?_,by lia,by lia⟩;rw[wrap64 (by lia) (by lia)];simp only[go_sem,ya,aA]<;>rfl
  .right
   simp only[go_sem,ya,F9,show ¬(i:Int)<s.length by lia];refine⟨_,_,rfl,by simp,_,_,rfl,.inr ⟨rfl,rfl,?_⟩⟩;rw[xf (by lia)] at hs;simp only[dG] at hs
   lia
def KR(h:Has P L 290 GD){s:List Nat}{v:Nat}(hl:s.length<=18)(hv:cE s 0=Ft v):ah P L 290 [.str s] (aa v):=by
 have key:=ji P L [0,3,4] JH
  (fun k st=>∃i a:Nat,st=⟨[(0,.str s),(3,aa a),(4,aa i)],[],0,0⟩/\i+k=s.length/\a<10^i/\cE (s.drop i) a=Ft v)
  (fun ex st=>∃tm ct,st=⟨tm,[],ct,0⟩/\ex=.exit 0/\ak tm 3=aa v) ?_
 .unfold ah;rw[aJ h];simp only[go_sem,GD];generalize hq:D P L (.loop _ JH) _=q;obtain⟨ex,st,rfl,tm,ct,rfl,rfl,h2⟩:=bN hq (key s.length) ⟨0,0,by simp only[go_sem,ya,aA]<;>rfl,by lia,by simp,hv⟩
  simp only[go_sem,aA,h2]
 .rintro k st ⟨i,a,rfl,hk,ha,hs⟩;by_cases hi:i<s.length
  .left
   have⟨h1,h2,h3⟩:=alV hi hs;have hp:10^i<=10^17:=xc (by decide) (by lia);have hb:IntKind.wrap .i64 ((s[i]:Nat):Int)=((s[i]:Nat):Int):=wrap64 (by lia) (by lia)
   simp only[go_sem,ya,JH,show (i:Int)<s.length by lia,rV hi,aqj,hb,wrap64 (n:=10*(a:Int)) (by lia) (by lia),wrap64 (n:=10*(a:Int)+(s[i]:Nat)) (by lia) (by lia),wrap64 (n:=10*(a:Int)+(s[i]:Nat)-48) (by lia) (by lia)];refine⟨_,k-1,rfl,by lia,i+1,10*a+(s[i]-48),?_,by lia,?_,h3⟩
   .rw [wrap64 (by lia) (by lia),show 10*(a:Int)+(s[i]:Nat)-48=((10*a+(s[i]-48):Nat):Int) by lia];simp only[go_sem,ya,aA]<;>rfl
   .rw [xh];lia
  .right
   simp only[go_sem,ya,JH,show ¬(i:Int)<s.length by lia];refine⟨_,_,rfl,by simp,_,_,rfl,rfl,?_⟩;rw[xf (by lia)] at hs;simp only[cE,yb] at hs;subst hs;simp only[go_sem,ya]
def NJ(a:Int):(if 0-a>a then 0-a else a)=(a.natAbs:Int):=by lia
def Nk(a b:Int):a.tdiv (vJ a b:Nat)=de a b:=yaR (yan a b)
def Nl(a b:Int):b.tdiv (vJ a b:Nat)=dD a b:=yaR (yab a b)
def rR(n:Int):(if n<0 then [45] else [])++aB n.natAbs=aZ n:=by
 split
 .rename_i h;rw[oS h];rfl
 .rename_i h;obtain⟨m,rfl⟩:∃m:Nat,n=m:=⟨n.toNat,by lia⟩;rfl
def an5{n:Int}(h:n.natAbs<18446744073709551616):(aZ n).length<=21:=by
 rw[<-rR]
 have:=ML h
 grind
def aqk{a b:Int}(hb:0<b):qR a b=(if 1<dD a b then (aZ (de a b)++[47])++aB (dD a b).natAbs else aZ (de a b)):=by
 have h:=I5 (a:=a) hb;unfold qR;by_cases h1:dD a b=1
 .grind
 .rw [yz h1,yP (by lia)];obtain⟨m,hm⟩:∃m:Nat,dD a b=m:=⟨(dD a b).toNat,by lia⟩;rw[hm];rfl
def ax4(h:Has P L 277 EC)(Vj:Has P L 291 KE)(sr:Has P L 292 A8){a b:Int}(ha: -4000000000000000000<=a/\a<=4000000000000000000)(hb:0<b/\b<=4000000000000000000):
  ah P L 277 [aa a,aa b] (.str (qR a b)):=by
 have hn:=aaI a b;have hd:=aaJ a b;have hp:=I5 (a:=a) hb.1;have e1:=ax3 Vj (a:=a.natAbs) (b:=b.natAbs) (by lia) (by lia);have e2:=Vi sr (n:=(de a b).natAbs) (by lia);have e3:=Vi sr (n:=(dD a b).natAbs) (by lia);have hg:=NI (a:=a) hb.1;rw[show ((b.natAbs:Nat):Int)=b by lia,show vE a.natAbs b.natAbs=vJ a b from rfl] at e1;rw[show (((dD a b).natAbs:Nat):Int)=dD a b by lia] at e3;have pO:=an5 (n:=de a b) (by lia);have Br:=ML (n:=(de a b).natAbs) (by lia);have hl3:=ML (n:=(dD a b).natAbs) (by lia);have hT:=aqk (a:=a) hb.1;have hS:=rR (de a b);unfold ah at e1 e2 e3 ⊢;rw[aJ h];by_cases h0:de a b<0
 .rw [yP h0] at hS;by_cases h1:1<dD a b
  .rw [yP h1] at hT
   simp only[go_sem,ya,EC,show ¬a< -4000000000000000000 by lia,show ¬4000000000000000000<a by lia,show ¬b< -4000000000000000000 by lia,show ¬4000000000000000000<b by lia,show ¬b<0 by lia,wrap64 (n:=0-a) (by lia) (by lia),D6,I4,NJ,e1,fW _ _ _ (show ((vJ a b:Nat):Int)≠0 by lia),Nk,Nl,wrap64 (n:=de a b) (by lia) (by lia),wrap64 (n:=dD a b) (by lia) (by lia),h0,wrap64 (n:=0-de a b) (by lia) (by lia),e2,ir (a:=[45]) (b:=aB (de a b).natAbs) (by simp;lia),hS,h1,ir (a:=aZ (de a b)) (b:=[47]) (by simp;lia),e3,ir (a:=aZ (de a b)++[47]) (b:=aB (dD a b).natAbs) (by simp;lia),hT]
  .rw [yz h1] at hT
   simp only[go_sem,ya,EC,show ¬a< -4000000000000000000 by lia,show ¬4000000000000000000<a by lia,show ¬b< -4000000000000000000 by lia,show ¬4000000000000000000<b by lia,show ¬b<0 by lia,wrap64 (n:=0-a) (by lia) (by lia),D6,I4,NJ,e1,fW _ _ _ (show ((vJ a b:Nat):Int)≠0 by lia),Nk,Nl,wrap64 (n:=de a b) (by lia) (by lia),wrap64 (n:=dD a b) (by lia) (by lia),h0,wrap64 (n:=0-de a b) (by lia) (by lia),e2,ir (a:=[45]) (b:=aB (de a b).natAbs) (by simp;lia),hS,h1,hT]
 .rw [yz h0] at hS;by_cases h1:1<dD a b
  .rw [yP h1] at hT
   simp only[go_sem,ya,EC,show ¬a< -4000000000000000000 by lia,show ¬4000000000000000000<a by lia,show ¬b< -4000000000000000000 by lia,show ¬4000000000000000000<b by lia,show ¬b<0 by lia,wrap64 (n:=0-a) (by lia) (by lia),D6,I4,NJ,e1,fW _ _ _ (show ((vJ a b:Nat):Int)≠0 by lia),Nk,Nl,wrap64 (n:=de a b) (by lia) (by lia),wrap64 (n:=dD a b) (by lia) (by lia),h0,wrap64 (n:=0-de a b) (by lia) (by lia),e2,ir (a:=[]) (b:=aB (de a b).natAbs) (by simp;lia),hS,h1,ir (a:=aZ (de a b)) (b:=[47]) (by simp;lia),e3,ir (a:=aZ (de a b)++[47]) (b:=aB (dD a b).natAbs) (by simp;lia),hT]
  .rw [yz h1] at hT
   simp only[go_sem,ya,EC,show ¬a< -4000000000000000000 by lia,show ¬4000000000000000000<a by lia,show ¬b< -4000000000000000000 by lia,show ¬4000000000000000000<b by lia,show ¬b<0 by lia,wrap64 (n:=0-a) (by lia) (by lia),D6,I4,NJ,e1,fW _ _ _ (show ((vJ a b:Nat):Int)≠0 by lia),Nk,Nl,wrap64 (n:=de a b) (by lia) (by lia),wrap64 (n:=dD a b) (by lia) (by lia),h0,wrap64 (n:=0-de a b) (by lia) (by lia),e2,ir (a:=[]) (b:=aB (de a b).natAbs) (by simp;lia),hS,h1,hT]
def TT(n:Int)(d:Nat):List Nat:=aZ n++(if d=1 then [] else 47::aB d)
def aql{a b:Int}(hb:0<b):qR a b=TT (de a b) (dD a b).toNat:=by
 have h:=I5 (a:=a) hb;unfold qR TT;by_cases h1:dD a b=1
 .grind
 .rw [yz h1,yz (by lia)];obtain⟨m,hm⟩:∃m:Nat,dD a b=m:=⟨(dD a b).toNat,by lia⟩;rw[hm,xx];rfl
def AF(n:Nat):0<(aB n).length:=by
 by_cases h:n<10
 .rw [oQ h];simp
 .rw [p9 h];simp
def Tb:∀(n:Nat),n<10^(aB n).length:=by
 intro n
 induction n using vP with
 | _ n ih=>
  by_cases h:n<10
  .rw [oQ h];simpa using h
  .have:=ih (n/10) (by lia)
   rw[p9 h,yJ,tC,xh]
   lia
def aaL{n:Nat}(h:(aB n).length<=9):n<1000000000:=
 yE (Tb n) (by simpa using xc (show 0<10 by decide) h)
def M4(n:Nat):∃b r,aB n=b::r/\48<=b/\b<=57:=by
 cases hq:aB n with
 | nil=>have:=AF n;rw[hq] at this;simp at this
 | cons b r=>
  have:=AA n
  rw[hq] at this;simp only[fN,ye] at this
  simp_all
def GK(s:List Nat):r7 0 (.str (45::s))=Ft (.int .u8 45):=rfl
def TJ(q:Bool)(n:Int)(d:Nat):AV:=if q=ydh then .ax [aa n,aa d,.bool ydh] else .ax [aa 0,aa 0,.bool ydi]
def jK(d:Nat):List Nat:=if d=1 then [] else 47::aB d
def Rx(d:Nat):dG (jK d)=0:=by unfold jK;split<;>rfl
def ax5(h:Has P L 276 qQ)(EF:Has P L 272 KB)(Be:Has P L 290 GD){n:Int}{d:Nat}(hl:(TT n d).length<=20000000000):
  ∃q:Bool,ah P L 276 [.str (TT n d)] (TJ q n d)/\(q=ydh->n.natAbs<1000000000/\d<1000000000):=by
 generalize hs:TT n d=s at hl;by_cases oF:20<s.length
 .refine ⟨ydi,?_,fun h=>by cases h⟩;unfold ah;rw[aJ h];simp only[go_sem,ya,qQ,show (20:Int)<s.length by lia];rfl
 .have hu:∃u,u=aB n.natAbs++jK d:=⟨_,rfl⟩;have⟨u,hu⟩:=hu;have hK:∃K,K=(aB n.natAbs).length:=⟨_,rfl⟩;have⟨K,hK⟩:=hK;have CX:dG u=K:=by rw[hu,IK _ (AA _),Rx,hK];rfl
  have hlen:u.length=K+(jK d).length:=by rw[hu,hK,yJ]
  have hp:=AF n.natAbs;have⟨b,r,hb,eE,cT⟩:=M4 n.natAbs;have E9:(n<0/\s=45::u)\/(¬n<0/\s=u):=by
   by_cases h0:n<0
   .left;refine⟨h0,?_⟩;rw[<-hs,hu,TT,oS h0];rfl
   .right;refine⟨h0,?_⟩;rw[<-hs,hu,TT,<-rR,yz h0];rfl
  have hul:u.length<=s.length:=by rcases E9 with ⟨_,e⟩ | ⟨_,e⟩<;>rw[e]<;>simp
  have Dd:0<u.length:=by lia
  have sW:u[0]=b:=by
   have:u=b::(r++jK d):=by rw[hu,hb];rfl
   simp[this]
  have e1:=KQ EF (s:=u) (by lia);rw[CX] at e1;have eL:jt u (Ft 0) (Ft K)=Ft (.str (aB n.natAbs)):=by
   rw[mO (by lia) (by lia),yh,hu,hK,List.take_left]
  unfold ah at e1;by_cases h9:9<K
  .refine ⟨ydi,?_,fun h=>by cases h⟩;unfold ah;rw[aJ h];rcases E9 with ⟨h0,e⟩ | ⟨h0,e⟩
   .have oF:¬20<u.length+1:=by rw[e] at oF;exact oF
    have jO:jt (45::u) (Ft 1) (Ft (u.length+1))=Ft (.str u):=by rw[mO (s:=45::u) (l:=1) (h:=u.length+1) (by lia) (by simp)];simp
    rw[e];simp only[go_sem,ya,qQ,show ¬(20:Int)<((u.length+1:Nat):Int) by lia,show (0:Int)<((u.length+1:Nat):Int) by lia,GK,fp,fQ,ep,jO,e1,show (9:Int)<(K:Int) by lia];rfl
   .rw [e];simp only[go_sem,ya,qQ,show ¬(20:Int)<(u.length:Nat) by lia,show (0:Int)<(u.length:Nat) by lia,rV Dd,sW,show ¬((b:Nat):Int)=45 by lia,e1,show (9:Int)<(K:Int) by lia];rfl
  .by_cases iK:10<(jK d).length
   .refine ⟨ydi,?_,fun h=>by cases h⟩;unfold ah;rw[aJ h];rcases E9 with ⟨h0,e⟩ | ⟨h0,e⟩
    .have oF:¬20<u.length+1:=by rw[e] at oF;exact oF
     have jO:jt (45::u) (Ft 1) (Ft (u.length+1))=Ft (.str u):=by rw[mO (s:=45::u) (l:=1) (h:=u.length+1) (by lia) (by simp)];simp
     rw[e]
     simp only[go_sem,ya,qQ,show ¬(20:Int)<((u.length+1:Nat):Int) by lia,show (0:Int)<((u.length+1:Nat):Int) by lia,GK,fp,fQ,ep,jO,e1,show ¬(9:Int)<(K:Int) by lia,wrap64 (n:=(u.length:Int)-(K:Int)) (by lia) (by lia),show (10:Int)<(u.length:Int)-(K:Int) by lia];rfl
    .rw [e]
     simp only[go_sem,ya,qQ,show ¬(20:Int)<(u.length:Nat) by lia,show (0:Int)<(u.length:Nat) by lia,rV Dd,sW,show ¬((b:Nat):Int)=45 by lia,e1,show ¬(9:Int)<(K:Int) by lia,wrap64 (n:=(u.length:Int)-(K:Int)) (by lia) (by lia),show (10:Int)<(u.length:Int)-(K:Int) by lia];rfl
   .have e2:=KR Be (s:=aB n.natAbs) (by lia) (BT n.natAbs);unfold ah at e2;have hm:=aaL (n:=n.natAbs) (by lia);by_cases hd:d=1
    .subst hd;have lY:jK 1=[]:=rfl;refine⟨ydh,?_,fun _=>⟨hm,by decide⟩⟩;rw[lY] at hlen;simp only[yH,yW] at hlen;unfold ah;rw[aJ h];rcases E9 with ⟨h0,e⟩ | ⟨h0,e⟩
     .have oF:¬20<u.length+1:=by rw[e] at oF;exact oF
      have jO:jt (45::u) (Ft 1) (Ft (u.length+1))=Ft (.str u):=by rw[mO (s:=45::u) (l:=1) (h:=u.length+1) (by lia) (by simp)];simp
      rw[e]
      simp only[go_sem,ya,qQ,show ¬(20:Int)<((u.length+1:Nat):Int) by lia,show (0:Int)<((u.length+1:Nat):Int) by lia,GK,fp,fQ,ep,jO,e1,show ¬(9:Int)<(K:Int) by lia,wrap64 (n:=(u.length:Int)-(K:Int)) (by lia) (by lia),show ¬(10:Int)<(u.length:Int)-(K:Int) by lia,eL,e2,show ¬(K:Int)<(u.length:Int) by lia,wrap64 (n:=0-(n.natAbs:Int)) (by lia) (by lia)];rw[show 0-(n.natAbs:Int)=n by lia];rfl
     .rw [e]
      simp only[go_sem,ya,qQ,show ¬(20:Int)<(u.length:Nat) by lia,show (0:Int)<(u.length:Nat) by lia,rV Dd,sW,show ¬((b:Nat):Int)=45 by lia,fp,fQ,ep,e1,show ¬(9:Int)<(K:Int) by lia,wrap64 (n:=(u.length:Int)-(K:Int)) (by lia) (by lia),show ¬(10:Int)<(u.length:Int)-(K:Int) by lia,eL,e2,show ¬(K:Int)<(u.length:Int) by lia];rw[show (n.natAbs:Int)=n by lia];rfl
    .have lY:jK d=47::aB d:=yz hd;have LO:(jK d).length=(aB d).length+1:=by rw[lY];rfl
     have hpd:=AF d;have hd9:=aaL (n:=d) (by lia);have e3:=KR Be (s:=aB d) (by lia) (BT d);unfold ah at e3;have CY:jt u (Ft (K+1)) (Ft u.length)=Ft (.str (aB d)):=by
      rw[mO (by lia) (yu _),xN,hu,lY,hK,show (aB n.natAbs).length+1=(aB n.natAbs++[47]).length by simp,show aB n.natAbs++47::aB d=(aB n.natAbs++[47])++aB d by simp,List.drop_left]
     refine⟨ydh,?_,fun _=>⟨hm,hd9⟩⟩;unfold ah;rw[aJ h];rcases E9 with ⟨h0,e⟩ | ⟨h0,e⟩
     .have oF:¬20<u.length+1:=by rw[e] at oF;exact oF
      have jO:jt (45::u) (Ft 1) (Ft (u.length+1))=Ft (.str u):=by rw[mO (s:=45::u) (l:=1) (h:=u.length+1) (by lia) (by simp)];simp
      rw[e]
      simp only[go_sem,ya,qQ,show ¬(20:Int)<((u.length+1:Nat):Int) by lia,show (0:Int)<((u.length+1:Nat):Int) by lia,GK,fp,fQ,ep,jO,e1,show ¬(9:Int)<(K:Int) by lia,wrap64 (n:=(u.length:Int)-(K:Int)) (by lia) (by lia),show ¬(10:Int)<(u.length:Int)-(K:Int) by lia,eL,e2,show (K:Int)<(u.length:Int) by lia,wrapN (n:=K+1) (by lia),show (K:Int)+1=((K+1:Nat):Int) from rfl,CY,e3,wrap64 (n:=0-(n.natAbs:Int)) (by lia) (by lia)];rw[show 0-(n.natAbs:Int)=n by lia];rfl
     .rw [e]
      simp only[go_sem,ya,qQ,show ¬(20:Int)<(u.length:Nat) by lia,show (0:Int)<(u.length:Nat) by lia,rV Dd,sW,show ¬((b:Nat):Int)=45 by lia,fp,fQ,ep,e1,show ¬(9:Int)<(K:Int) by lia,wrap64 (n:=(u.length:Int)-(K:Int)) (by lia) (by lia),show ¬(10:Int)<(u.length:Int)-(K:Int) by lia,eL,e2,show (K:Int)<(u.length:Int) by lia,wrapN (n:=K+1) (by lia),show (K:Int)+1=((K+1:Nat):Int) from rfl,CY,e3];rw[show (n.natAbs:Int)=n by lia];rfl
def Vk(h:Has P L 302 zT){v:AV}{l:List Int}(hv:bn v l)(i:Nat):ah P L 302 [v,aa i] (aa (l.getD i 0)):=by
 unfold ah;rw[aJ h];by_cases hi:i<l.length
 .simp only [go_sem,ya,zT,hv.len,show (i:Int)<l.length by lia,hv.bh hi];simp[yD,yN hi]
 .simp only [go_sem,ya,zT,hv.len,show ¬(i:Int)<l.length by lia];simp[yD,List.getElem?_eq_none (Nat.le_of_not_lt hi)]
def abU{hp:Hp}{e:Bool}{n:Nat}{cs:List AV}{tm:Env}{h:Nat}{x:X}(hx:cP tm n (Ft x)=Ft h)(hh:h<=n):
  fj hp (.sl 1) (.au e n cs) tm Fu (Ft x)=Ft (.au (e&&ym h n) h (cs.take h)):=by
 simp only[fj,hx,fQ];simp[yt hh,slice];rw[show yA 0 h=ydh from yt (uN _)];rfl
def CD(h:Has P L 300 mE){v:AV}{l:List Int}(hv:bn v l)(hl:l.length<=20000000000):∃r,ah P L 300 [v] r/\bn r (dS l)/\shut r=r:=by
 rcases hv with ⟨rfl,h0⟩ | ⟨e,rfl⟩
 .have:l=[]:=by simpa using h0
  subst this;refine⟨.af,?_,rT,rfl⟩;unfold ah;rw[aJ h];simp only[go_sem,ya,mE,N3,D2,aA,show ¬(0:Int)<0 by decide]
 .have key:=ji P L [0] D2
   (fun k st=>∃(i:Nat) (e:Bool),st=⟨[(0,.au e i ((l.take i).map aa))],[],0,0⟩/\i<=l.length/\i=k/\dS (l.take i)=dS l)
   (fun ex st=>∃tm ct,st=⟨tm,[],ct,0⟩/\ex=.exit 0/\∃i e,ak tm 0=.au e i ((l.take i).map aa)/\i<=l.length/\l.take i=dS l) ?_
  .have hlen:(l.map aa).length=l.length:=by simp
   rw[hlen];have jM:∃i e',ah P L 300 [.au e l.length (l.map aa)] (.au e' i ((l.take i).map aa))/\i<=l.length/\l.take i=dS l:=by
    unfold ah;rw[aJ h];simp only[go_sem,mE];generalize hq:D P L (.loop _ D2) _=q;obtain⟨ex,st,rfl,tm,ct,rfl,rfl,i,e',h2,h3,h4⟩:=bN hq (key l.length) ⟨l.length,e,by simp only[go_sem,ya,aA,xN],yu _,rfl,by rw[xN]⟩;simp only[go_sem,aA,h2];exact⟨i,e',rfl,h3,h4⟩
   have⟨i,e',g1,g2,g3⟩:=jM;refine⟨_,g1,?_,rfl⟩;rw[<-g3]
   have:=mN e' (l.take i)
   rwa[yQ,xj g2] at this
  .rintro k st ⟨i,e,rfl,hi,rfl,ht⟩
   cases i with
   | zero=>
    right
    simp only[go_sem,ya,D2,show ¬(0:Int)<((0:Nat):Int) by lia];exact⟨_,_,rfl,by simp,_,_,rfl,rfl,0,e,rfl,uN _,by simpa[dS] using ht⟩
   | succ i=>
    have Ah:i<l.length:=by lia
    have eQ:l.take (i+1)=l.take i++[l[i]]:=xa Ah;have jQ:uk i ((l.take (i+1)).map aa)=[AV.int .i64 l[i]]:=by
     rw[eQ,xA,tu (by simp;lia)];rfl
    have lm:gS 1 i (.au e (i+1) ((l.take (i+1)).map aa))=Ft (.bq [AV.int .i64 l[i]]):=by
     rw[NF e _ (by lia),yk,jQ]
    by_cases h0:l[i]=0
    .left
     have oh:∀tm x,cP tm (i+1) (Ft x)=Ft i->fj [] (.sl 1) (.au e (i+1) ((l.take (i+1)).map aa)) tm Fu (Ft x)=Ft (.au (e&&ym i (i+1)) i ((l.take i).map aa)):=fun tm x hx=>by
      rw[abU hx (by lia),<-yaE,List.take_take,xj (by lia)]
     simp only[go_sem,ya,D2,show (0:Int)<((i+1:Nat):Int) by lia,show ((i+1:Nat):Int)-1=(i:Int) by lia,wrapN (n:=i) (by lia),lm,h0,oh,ep];refine⟨_,i,rfl,by lia,i,_,by simp only[go_sem,aA]<;>rfl,by lia,rfl,?_⟩
     rw[<-ht,eQ,h0,IQ]
    .right
     simp only[go_sem,ya,D2,show (0:Int)<((i+1:Nat):Int) by lia,show ((i+1:Nat):Int)-1=(i:Int) by lia,wrapN (n:=i) (by lia),lm,h0];refine⟨_,_,rfl,by simp,_,_,rfl,rfl,i+1,e,rfl,by lia,?_⟩;rw[<-ht,eQ,MJ h0]
section
variable {hp:Hp}{l:List Nat}{n x y:Nat}
def zV:(2^64)^(n+1)=(2^64)^n*2^64:=xh ..
open Go (IntKind)
abbrev uc(n:Nat):AV:=.int .u64 (n:Int)
def bI(v:AV)(l:List Nat):Prop:=cp v (l.map uc)
section
variable {v:AV}{l:List Nat}
def bI.len(h:bI v l):fX hp 1 v=Ft (.int .i64 (l.length:Nat)):=by
 have:=cp.len (hp:=hp) h
 grind
def bI.pu(h:bI v l):aW v=ydh:=cp.pu h
def bI.aj(h:bI v l)(n:Nat):freeze (n+1) hp v=Ft (v,hp):=cp.aj h n
def bI.shut(h:bI v l):VE.shut v=v:=cp.shut h
def bI.bF(h:bI v l):VE.bF v=v:=cp.bF h
def bI.eb(h:bI v l):result hp v=Ft v:=cp.eb h
def bI.one(h:bI v l):cL v=ydh:=cp.one h
def bI.bh(h:bI v l){i:Nat}(hi:i<l.length):gS 1 i v=Ft (.bq (uc (l.getD i 0)::(l.map uc).drop (i+1))):=by
 have:=cp.bh h (i:=i) (by simpa using hi)
 grind
def nQ(e:Bool)(l:List Nat):bI (.au e l.length (l.map uc)) l:=by
 have:=Jg e (l.map uc)
 rwa[yL] at this
def zq:bI .af []:=rT
end
def lz{ct id o:Nat}{v:Nat}{ex:Bool}(h:o<l.length):gm hp ct id o 1 [.int .u64 (v:Int)] (Ft (.cells ydh ydh ex 1 (l.map uc)))=Ft (.ax [],aU hp id (.cells ydh ydh ex 1 ((l.set o v).map uc)),ct):=by
 rw[qM (by rfl) (by simp;lia) (by rfl)]
 have:over o [uc v] (l.map uc)=(l.set o v).map uc:=by
  simp only[over,yy,yH,yd];rw[List.map_set,vD,yP (by simpa using h)]
  simp
 rw[this];rfl
def AW{o:Nat}(h:o<l.length):uk o (l.map uc)=uc (l.getD o 0)::uk (o+1) (l.map uc):=by
 rw[yR (by simpa using h)]
 grind
def aqm(n:Nat):(yp n [AV.int .u64 0]).flatten=(yp n 0).map uc:=by simp_all
def EG(ct:Nat)(h:n<=100000000000):zU ct 1 8 [.int .u64 0] (Ft n) (Ft n)=Ft (.ap ct 0 n,.cells ydh ydh ydh 1 ((yp n 0).map uc)):=by
 rw[Gh (sz:=1) (by lia) (by lia) (by rfl) (by rfl),aqm];rfl
def CE(hp:Hp)(h:l.length=n)(ex:Bool):mF 0 n (Ft (ex,1,l.map uc,hp))=Ft (.au ex n (l.map uc),hp):=il ex (by simp[h]) (by decide)
def ad1(h:n<2^64):IntKind.wrap .u64 (n:Int)=n:=awy (by lia) (by lia)
section
variable {P:aF}{L:Lib}{f:cd}
def mY{a b:Nat}(h:a<b):yI a b=ydh:=by simp_all
def D7(h:L.pure 171=Ft oW){c:Nat}(hx:x<2^64)(hy:y<2^64)(hc:c<=1):
  bT P L f 171 [uc x,uc y,uc c]=Ft (.ax [uc ((x+y+c)%2^64),uc ((x+y+c)/2^64)]):=by
 rw[lI h];show (bif yA c 1&&(yI x (2^64)&&yI y (2^64)) then _ else Fu)=_
 rw[yt hc,mY hx,mY hy];rfl
def TK(h:L.pure 173=Ft B8){c:Nat}(hx:x<2^64)(hy:y<2^64)(hc:c<=1):
  bT P L f 173 [uc x,uc y,uc c]=Ft (.ax [uc ((x+2^64*2-y-c)%2^64),uc (if y+c<=x then 0 else 1)]):=by
 rw[lI h];show (bif yA c 1&&(yI x (2^64)&&yI y (2^64)) then _ else Fu)=_
 rw[yt hc,mY hx,mY hy];by_cases hh:y+c<=x
 .rw [yt hh,yP hh];rfl
 .have:yA (y+c) x=ydi:=by
   cases hq:yA (y+c) x with
   | false=>rfl
   | true=>exact absurd (yr hq) hh
  grind
def N6(h:L.pure 143=Ft zA)(hx:x<2^64)(hy:y<2^64):
  bT P L f 143 [uc x,uc y]=Ft (.ax [uc (x*y/2^64),uc (x*y%2^64)]):=by
 rw[lI h];show (bif yI x (2^64)&&yI y (2^64) then _ else Fu)=_
 rw[mY hx,mY hy];rfl
def an6{tm:Env}{x:X}(hx:cP tm 0 (Ft x)=Ft 0):fj hp (.sl 1) .af tm Fu (Ft x)=Ft .af:=by
 simp only[fj,hx,fQ]
def CF(h:Has P L 166 Cy){v:AV}(hv:bI v l)(hl:l.length<=100000000000):∃r,ah P L 166 [v] r/\bI r (dT l):=by
 rcases hv with ⟨rfl,h0⟩ | ⟨e,rfl⟩
 .have:l=[]:=by simpa using h0
  subst this;refine⟨.af,?_,rT⟩;unfold ah;rw[aJ h];simp only[go_sem,ya,Cy,N3,DZ,aA,show ¬(0:Int)<0 by decide,an6,ep]
 .have key:=ji P L [0,3] DZ
   (fun k st=>∃(i:Nat),st=⟨[(0,.au e l.length (l.map uc)),(3,aa i)],[],0,0⟩/\i<=l.length/\i=k/\dT (l.take i)=dT l)
   (fun ex st=>∃tm ct,st=⟨tm,[],ct,0⟩/\ex=.exit 0/\∃i:Nat,ak tm 0=.au e l.length (l.map uc)/\ak tm 3=aa i/\i<=l.length/\l.take i=dT l) ?_
  .have hlen:(l.map uc).length=l.length:=by simp
   rw[hlen];have jM:∃i e',ah P L 166 [.au e l.length (l.map uc)] (.au e' i ((l.take i).map uc))/\i<=l.length/\l.take i=dT l:=by
    unfold ah;rw[aJ h];simp only[go_sem,ya,Cy];generalize hq:D P L (.loop _ DZ) _=q;obtain⟨ex,st,rfl,tm,ct,rfl,rfl,i,h2,h3,h4,h5⟩:=bN hq (key l.length) ⟨l.length,by simp only[go_sem,ya,aA],yu _,rfl,by rw[xN]⟩;have oh:∀tm x,cP tm l.length (Ft x)=Ft i->fj [] (.sl 1) (.au e l.length (l.map uc)) tm Fu (Ft x)=Ft (.au (e&&ym i l.length) i ((l.map uc).take i)):=fun tm x hx=>abU hx h4
    simp only[go_sem,ya,aA,h2,h3,oh,ep];exact⟨i,_,by rw[yaE],h4,h5⟩
   have⟨i,e',g1,g2,g3⟩:=jM;refine⟨_,g1,?_⟩;rw[<-g3]
   have:=nQ e' (l.take i)
   rwa[yQ,xj g2] at this
  .rintro k st ⟨i,rfl,hi,rfl,ht⟩
   cases i with
   | zero=>
    right
    simp only[go_sem,ya,DZ,show ¬(0:Int)<((0:Nat):Int) by lia];exact⟨_,_,rfl,by simp,_,_,rfl,rfl,0,rfl,rfl,uN _,by simpa[dT] using ht⟩
   | succ i=>
    have Ah:i<l.length:=by lia
    have eQ:l.take (i+1)=l.take i++[l[i]]:=xa Ah;have lm:=(nQ e l).bh Ah;rw[<-gd Ah] at lm;by_cases h0:l[i]=0
    .left
     simp only[go_sem,ya,DZ,show (0:Int)<((i+1:Nat):Int) by lia,show ((i+1:Nat):Int)-1=(i:Int) by lia,wrapN (n:=i) (by lia),lm,show ((l[i]:Nat):Int)=0 by lia];refine⟨_,i,rfl,by lia,i,by simp only[go_sem,ya,aA],by lia,rfl,?_⟩;rw[<-ht,eQ,h0,MK]
    .right
     simp only[go_sem,ya,DZ,show (0:Int)<((i+1:Nat):Int) by lia,show ((i+1:Nat):Int)-1=(i:Int) by lia,wrapN (n:=i) (by lia),lm,show ¬((l[i]:Nat):Int)=0 by lia];refine⟨_,_,rfl,by simp,_,_,rfl,rfl,i+1,rfl,rfl,by lia,?_⟩;rw[<-ht,eQ,FA h0]
end
end
section
variable {v w:AV}{out x y:List Nat}
def MM(p b s:Nat):p*(s%b)+p*b*(s/b)=p*s:=by
 rw[xe,<-xC,tg]
def alW{b:Nat}{i c:Nat}(hi:i<out.length)(hz:out.getD i 0=0)(hv:bv b out+b^i*c=bv b (x.take i)+bv b (y.take i)):
  bv b (out.set i ((x.getD i 0+y.getD i 0+c)%b))+b^(i+1)*((x.getD i 0+y.getD i 0+c)/b)=bv b (x.take (i+1))+bv b (y.take (i+1)):=by
 have h1:=oY (b:=b) (x:=(x.getD i 0+y.getD i 0+c)%b) hi;have h2:=MM (b^i) b (x.getD i 0+y.getD i 0+c);rw[hz,xB,yW] at h1;rw[jU,jU,xh,h1]
 grind
def alX{b:Nat}{i c z c':Nat}(hi:i<out.length)(hz:out.getD i 0=0)(hs:z+y.getD i 0+c=x.getD i 0+b*c')(hv:bv b out+bv b (y.take i)=bv b (x.take i)+b^i*c):
  bv b (out.set i z)+bv b (y.take (i+1))=bv b (x.take (i+1))+b^(i+1)*c':=by
 have h1:=oY (b:=b) (x:=z) hi;rw[hz,xB,yW] at h1;rw[jU,jU,xh,h1]
 grind
def afk(h:Has P L 158 GA)(hv:bI v x)(hw:bI w y)(hx:lo (2^64) x)(hy:lo (2^64) y)(nx:ie x)(ny:ie y)(lx:x.length<=100000000000)(ly:y.length<=100000000000):
  ah P L 158 [v,w] (aa (dN (bv (2^64) x) (bv (2^64) y))):=by
 unfold ah;rw[aJ h];by_cases hlen:x.length=y.length
 .have key:=ji P L [0,1,5] DY
   (fun k st=>∃j:Nat,st=⟨[(0,v),(1,w),(5,aa ((j:Int)-1))],[],0,0⟩/\j<=x.length/\j=k/\x.drop j=y.drop j)
   (fun ex st=>∃tm ct,st=⟨tm,[],ct,0⟩/\((ex=.ret/\ak tm 4=aa (dN (bv (2^64) x) (bv (2^64) y)))\/(ex=.exit 0/\x=y))) ?_
  .simp only [go_sem,ya,GA,hv.len,hw.len,show (x.length:Int)=y.length by lia];generalize hq:D P L (.loop _ DY) _=q;obtain⟨ex,st,rfl,tm,ct,rfl,h2⟩:=bN hq (key x.length) ⟨x.length,by
    rw[wrap64 (by lia) (by lia),hlen]
    simp only[go_sem,ya,aA,aE hv.pu,aE hw.pu]<;>rfl,yu _,rfl,by rw[xf (yu _),xf (by lia)]⟩
   rcases h2 with ⟨rfl,h2⟩ | ⟨rfl,h2⟩
   .simp only [go_sem,h2]
   .simp only [go_sem,aA];subst h2;simp[dN]
  .rintro k st ⟨j,rfl,hj,rfl,he⟩
   cases j with
   | zero=>
    right
    simp only[go_sem,ya,DY,show ¬(0:Int)<=((0:Nat):Int)-1 by lia];exact⟨_,_,rfl,by simp,_,_,rfl,.inr ⟨rfl,by simpa using he⟩⟩
   | succ i=>
    have h1:i<x.length:=by lia
    have h2:i<y.length:=by lia
    have C3:=abL hx h1 h2 he;have aM:=abL hy h2 h1 he.symm;by_cases c0:x.getD i 0=y.getD i 0
    .left
     simp only[go_sem,ya,DY,show ((i+1:Nat):Int)-1=(i:Int) by lia,show (0:Int)<=(i:Int) by lia,hv.bh h1,hw.bh h2,c0];refine⟨_,i,rfl,by lia,i,?_,by lia,rfl,?_⟩
     .rw [wrap64 (by lia) (by lia)];simp only[go_sem,ya,aA,aE hv.pu,aE hw.pu]<;>rfl
     .rw [yR h1,yR h2,he,gd h1,gd h2,c0]
    .by_cases c1:x.getD i 0<y.getD i 0
     .right
      simp only[go_sem,ya,DY,show ((i+1:Nat):Int)-1=(i:Int) by lia,show (0:Int)<=(i:Int) by lia,hv.bh h1,hw.bh h2,show ¬((x.getD i 0:Nat):Int)=(y.getD i 0:Nat) by lia,show ((x.getD i 0:Nat):Int)<(y.getD i 0:Nat) by lia];refine⟨_,_,rfl,by simp,_,_,rfl,.inl ⟨rfl,?_⟩⟩;simp only[go_sem];unfold dN;rw[yP (C3 c1)]
     .right
      simp only[go_sem,ya,DY,show ((i+1:Nat):Int)-1=(i:Int) by lia,show (0:Int)<=(i:Int) by lia,hv.bh h1,hw.bh h2,show ¬((x.getD i 0:Nat):Int)=(y.getD i 0:Nat) by lia,show ¬((x.getD i 0:Nat):Int)<(y.getD i 0:Nat) by lia];refine⟨_,_,rfl,by simp,_,_,rfl,.inl ⟨rfl,?_⟩⟩;simp only[go_sem];unfold dN;rw[yz (by lia),yP (by lia)]
 .by_cases c1:x.length<y.length
  .have:=ND (b:=2^64) (by decide) hx ny c1
   simp only[go_sem,ya,GA,hv.len,hw.len,show ¬(x.length:Int)=y.length by lia,show (x.length:Int)<y.length by lia];unfold dN;rw[yP this]
  .have:=ND (b:=2^64) (by decide) hy nx (show y.length<x.length by lia)
   simp only[go_sem,ya,GA,hv.len,hw.len,show ¬(x.length:Int)=y.length by lia,show ¬(x.length:Int)<y.length by lia];unfold dN;rw[yz (by lia),yP this]
def acD(gX:L.pure 171=Ft oW)(hv:bI v x)(hw:bI w y)(hx:lo (2^64) x)(hy:lo (2^64) y)(lx:x.length<=99999999999)(ly:y.length<=x.length){n:Nat}(hn:n=x.length+1):
  en P L [0,1,5,6,21,22] DX (fun k s=>∃(i c:Nat) (out:List Nat),s=⟨[(0,v),(1,w),(5,.ap 0 0 n),(6,uc c),(21,aa x.length),(22,aa i)],[(0,.cells ydh ydh ydh 1 (out.map uc))],1,0⟩/\i+k=x.length/\out.length=n/\c<=1/\lo (2^64) out/\
    bv (2^64) out+(2^64)^i*c=bv (2^64) (x.take i)+bv (2^64) (y.take i)/\(∀m,i<=m->out.getD m 0=0)) (fun ex s'=>∃tm c out,s'=⟨tm,[(0,.cells ydh ydh ydh 1 (out.map uc))],1,0⟩/\ex=.exit 0/\ak tm 0=v/\ak tm 5=.ap 0 0 n/\ak tm 6=uc c/\out.length=n/\c<=1/\lo (2^64) out/\
    bv (2^64) out+(2^64)^x.length*c=bv (2^64) x+bv (2^64) y/\out.getD x.length 0=0):=by
 apply eB;rintro k s ⟨i,c,out,rfl,hk,hlen,hc,bc,aO,gP⟩;by_cases hi:i<x.length
 .left
  have hz:=gP i (yu _);have lL:=alW (x:=x) (y:=y) (show i<out.length by lia) hz aO;have gx:=iy (show 0<2^64 by decide) hx i;have gy:=iy (show 0<2^64 by decide) hy i;have e1:=D7 (P:=P) (f:=D P L) gX gx gy hc;have ex:=hv.bh hi;generalize x.getD i 0=p at*
  by_cases hj:i<y.length
  .have ey:=hw.bh hj;generalize y.getD i 0=q at*
   simp only[go_sem,ya,yk,DX,hw.len,show (i:Int)<x.length by lia,show (i:Int)<y.length by lia,ex,ey,e1,cA 0 0 (show i<n by lia),yd,lz (l:=out) (o:=i) (by lia)]
   refine⟨_,k-1,rfl,by lia,i+1,(p+q+c)/2^64,_,?_,by lia,by simp[hlen],by lia,mT bc (x:=(p+q+c)%2^64) (i:=i) (by lia),lL,fun m hm=>?_⟩
   .rw [wrap64 (by lia) (by lia)];simp only[go_sem,ya,yc,aA,aE hv.pu,aE hw.pu]<;>rfl
   .rw [qv (by lia)];exact gP m (by lia)
  .have kI:y.getD i 0=0:=TF (by lia);rw[kI] at lL e1;rw[show (uc 0)=AV.int .u64 0 from rfl] at e1
   simp only[go_sem,ya,yk,DX,hw.len,show (i:Int)<x.length by lia,show ¬(i:Int)<y.length by lia,ex,e1,cA 0 0 (show i<n by lia),yd,lz (l:=out) (o:=i) (by lia)]
   refine⟨_,k-1,rfl,by lia,i+1,(p+0+c)/2^64,_,?_,by lia,by simp[hlen],by lia,mT bc (x:=(p+0+c)%2^64) (i:=i) (by lia),lL,fun m hm=>?_⟩
   .rw [wrap64 (by lia) (by lia)];simp only[go_sem,ya,yc,aA,aE hv.pu,aE hw.pu]<;>rfl
   .rw [qv (by lia)];exact gP m (by lia)
 .right
  have:i=x.length:=by lia
  subst this;rw[xN,yG ly] at aO;simp only[go_sem,ya,DX,show ¬(x.length:Int)<x.length by lia];exact⟨_,_,rfl,by simp,_,c,out,rfl,rfl,rfl,rfl,rfl,hlen,hc,bc,aO,gP _ (yu _)⟩
def ax6(h:Has P L 157 Ku)(ni:Has P L 166 Cy)(gX:L.pure 171=Ft oW)(hv:bI v x)(hw:bI w y)(hx:lo (2^64) x)(hy:lo (2^64) y)(lx:x.length<=99999999999)(ly:y.length<=99999999999):
  ∃r out,ah P L 157 [v,w] r/\bI r out/\lo (2^64) out/\ie out/\bv (2^64) out=bv (2^64) x+bv (2^64) y:=by
 have fin:∀{x y o:List Nat} {n c:Nat},n=x.length+1->x.length<=99999999999->o.length=n->c<=1->lo (2^64) o->bv (2^64) o+(2^64)^x.length*c=bv (2^64) x+bv (2^64) y->o.getD x.length 0=0->
   ∃r,bT P L (D P L) 166 [.au ydh n ((o.set x.length c).map uc)]=Ft r/\bI r (dT (o.set x.length c))/\lo (2^64) (dT (o.set x.length c))/\ie (dT (o.set x.length c))/\bv (2^64) (dT (o.set x.length c))=bv (2^64) x+bv (2^64) y:=by
  intro x y o n c hn lx hlen hc bc aO hz;have aU:=oY (b:=2^64) (l:=o) (i:=x.length) (x:=c) (by lia);rw[hz,xB,yW,aO] at aU;have ax7:lo (2^64) (o.set x.length c):=mT bc (by lia);have hf:=nQ ydh (o.set x.length c);rw[List.length_set,hlen] at hf;have⟨r,e1,hr⟩:=CF ni hf (by simp;lia)
  exact⟨r,e1,hr,BY ax7,BX _,by rw[BW];exact aU⟩
 by_cases hl:x.length<y.length
 .obtain ⟨n,hn⟩:∃n,n=y.length+1:=⟨_,rfl⟩;unfold ah;rw[aJ h]
  simp only[go_sem,ya,yc,Ku,hv.len,hw.len,show (x.length:Int)<y.length by lia,wrapN (n:=n) (by lia),show (y.length:Int)+1=((y.length+1:Nat):Int) from rfl,<-hn,EG (n:=n) _ (by lia)];generalize hq:D P L (.loop _ DX) _=q;obtain⟨ex,s,rfl,tm,c,o,rfl,rfl,t0,t5,t6,hlen,hc,bc,aO,hz⟩:=bN hq (acD (P:=P) (L:=L) gX hw hv hy hx ly (by lia) hn y.length)
   ⟨0,0,yp n 0,by simp only[go_sem,ya,yc,aA,aE hv.pu,aE hw.pu]<;>rfl,by lia,by simp,by lia,Gf (by decide) n,by rw[Gg];simp[bv],fun m _=>DP n m⟩
  have⟨r,e1,hr,f1,f2,f3⟩:=fin hn ly hlen hc bc aO hz;refine⟨r,_,?_,hr,f1,f2,by rw[f3];lia⟩
  simp only[go_sem,ya,yk,aA,aE hw.pu,hw.len,t0,t5,t6,cA 0 0 (show y.length<n by lia),yd,lz (l:=o) (o:=y.length) (by lia)]
  simp only[go_sem,CE _ (n:=n) (l:=o.set y.length c) (by simp[hlen]) ydh,e1,hr.shut,hr.eb]
 .obtain ⟨n,hn⟩:∃n,n=x.length+1:=⟨_,rfl⟩;unfold ah;rw[aJ h]
  simp only[go_sem,ya,yc,Ku,hv.len,hw.len,show ¬(x.length:Int)<y.length by lia,wrapN (n:=n) (by lia),show (x.length:Int)+1=((x.length+1:Nat):Int) from rfl,<-hn,EG (n:=n) _ (by lia)];generalize hq:D P L (.loop _ DX) _=q;obtain⟨ex,s,rfl,tm,c,o,rfl,rfl,t0,t5,t6,hlen,hc,bc,aO,hz⟩:=bN hq (acD (P:=P) (L:=L) gX hv hw hx hy lx (by lia) hn x.length)
   ⟨0,0,yp n 0,by simp only[go_sem,ya,yc,aA,aE hv.pu,aE hw.pu]<;>rfl,by lia,by simp,by lia,Gf (by decide) n,by rw[Gg];simp[bv],fun m _=>DP n m⟩
  have⟨r,e1,hr,f1,f2,f3⟩:=fin hn lx hlen hc bc aO hz;refine⟨r,_,?_,hr,f1,f2,f3⟩
  simp only[go_sem,ya,yk,aA,aE hv.pu,hv.len,t0,t5,t6,cA 0 0 (show x.length<n by lia),yd,lz (l:=o) (o:=x.length) (by lia)]
  simp only[go_sem,CE _ (n:=n) (l:=o.set x.length c) (by simp[hlen]) ydh,e1,hr.shut,hr.eb]
end
section
variable {v w:AV}{x y:List Nat}{c n:Nat}
def alY{b:Nat}{out:List Nat}{p j t o x y Y bo ba:Nat}(ho:o=out.getD j 0)(hj:j<out.length)(ht:t=o+x*y+c)(hv:bo+p*c=ba+p*(x*Y))(hb:bo=bv b out)(hp:p=b^j):
  bv b (out.set j (t%b))+p*b*(t/b)=ba+p*(x*(Y+0))+p*(x*y):=by
 have h1:=oY (b:=b) (x:=t%b) hj;have h2:=MM p b t
 grind
def Sz{x y:Nat}(hx:x<2^64)(hy:y<2^64)(hc:c<=1):
  (x+2^64*2-y-c)%2^64+y+c=x+2^64*(if y+c<=x then 0 else 1):=by grind
def atY(zW:L.pure 173=Ft B8)(hv:bI v x)(hw:bI w y)(hx:lo (2^64) x)(hy:lo (2^64) y)(lx:x.length<=99999999999)(ly:y.length<=x.length)(hle:bv (2^64) y<=bv (2^64) x)(hn:n=x.length):
  en P L [0,1,5,6,13,14] F5 (fun k s=>∃(i c:Nat) (out:List Nat),s=⟨[(0,v),(1,w),(5,.ap 0 0 n),(6,uc c),(13,aa x.length),(14,aa i)],[(0,.cells ydh ydh ydh 1 (out.map uc))],1,0⟩/\i+k=x.length/\out.length=n/\c<=1/\lo (2^64) out/\
    bv (2^64) out+bv (2^64) (y.take i)=bv (2^64) (x.take i)+(2^64)^i*c/\(∀m,i<=m->out.getD m 0=0)) (fun ex s'=>∃tm out,s'=⟨tm,[(0,.cells ydh ydh ydh 1 (out.map uc))],1,0⟩/\ex=.exit 0/\ak tm 5=.ap 0 0 n/\out.length=n/\lo (2^64) out/\
    bv (2^64) out+bv (2^64) y=bv (2^64) x):=by
 apply eB;rintro k s ⟨i,c,out,rfl,hk,hlen,hc,bc,aO,gP⟩;by_cases hi:i<x.length
 .left
  have hz:=gP i (yu _);have gx:=iy (show 0<2^64 by decide) hx i;have gy:=iy (show 0<2^64 by decide) hy i;have Qp:=Sz gx gy hc;have lL:=alX (x:=x) (y:=y) (show i<out.length by lia) hz Qp aO;have e1:=TK (P:=P) (f:=D P L) zW gx gy hc;have ex:=hv.bh hi;generalize x.getD i 0=p at*
  have ki:(if y.getD i 0+c<=p then 0 else 1)<=1:=by split<;>lia
  by_cases hj:i<y.length
  .have ey:=hw.bh hj;generalize y.getD i 0=q at*
   generalize (if q+c<=p then 0 else 1)=c1 at*
   simp only[go_sem,ya,xn,yk,F5,hw.len,show (i:Int)<x.length by lia,show (i:Int)<y.length by lia,ex,ey,e1,cA 0 0 (show i<n by lia),yd,lz (l:=out) (o:=i) (by lia)]
   refine⟨_,k-1,rfl,by lia,i+1,c1,_,?_,by lia,by simp[hlen],ki,mT bc (x:=(p+2^64*2-q-c)%2^64) (i:=i) (by lia),lL,fun m hm=>?_⟩
   .rw [wrap64 (by lia) (by lia)];simp only[go_sem,ya,yc,xn,aA,aE hv.pu,aE hw.pu]<;>rfl
   .rw [qv (by lia)];exact gP m (by lia)
  .have kI:y.getD i 0=0:=TF (by lia);rw[kI] at lL e1 ki;rw[show (uc 0)=AV.int .u64 0 from rfl] at e1;generalize (if 0+c<=p then 0 else 1)=c1 at*
   simp only[go_sem,ya,xn,yk,F5,hw.len,show (i:Int)<x.length by lia,show ¬(i:Int)<y.length by lia,ex,e1,cA 0 0 (show i<n by lia),yd,lz (l:=out) (o:=i) (by lia)]
   refine⟨_,k-1,rfl,by lia,i+1,c1,_,?_,by lia,by simp[hlen],ki,mT bc (x:=(p+2^64*2-0-c)%2^64) (i:=i) (by lia),lL,fun m hm=>?_⟩
   .rw [wrap64 (by lia) (by lia)];simp only[go_sem,ya,yc,xn,aA,aE hv.pu,aE hw.pu]<;>rfl
   .rw [qv (by lia)];exact gP m (by lia)
 .right
  have:i=x.length:=by lia
  subst this;rw[xN,yG ly] at aO;have aM:=mX bc;rw[hlen,hn] at aM;simp only[go_sem,ya,F5,show ¬(x.length:Int)<x.length by lia];refine⟨_,_,rfl,by simp,_,out,rfl,rfl,rfl,hlen,bc,?_⟩;rcases (show c=0\/c=1 by lia) with rfl | rfl
  .lia
  .lia
def afl(h:Has P L 159 OY)(ni:Has P L 166 Cy)(zW:L.pure 173=Ft B8)(hv:bI v x)(hw:bI w y)(hx:lo (2^64) x)(hy:lo (2^64) y)(ny:ie y)(lx:x.length<=99999999999)(hle:bv (2^64) y<=bv (2^64) x):
  ∃r out,ah P L 159 [v,w] r/\bI r out/\lo (2^64) out/\ie out/\bv (2^64) out+bv (2^64) y=bv (2^64) x:=by
 have ly:y.length<=x.length:=by
  by_cases hh:x.length<y.length
  .have:=ND (b:=2^64) (by decide) hx ny hh
   lia
  .lia
 obtain⟨n,hn⟩:∃n,n=x.length:=⟨_,rfl⟩;unfold ah;rw[aJ h]
 simp only[go_sem,ya,yc,OY,hv.len,<-hn,EG (n:=n) _ (by lia)];generalize hq:D P L (.loop _ F5) _=q;obtain⟨ex,s,rfl,tm,o,rfl,rfl,t5,hlen,bc,aO⟩:=bN hq (atY (P:=P) (L:=L) zW hv hw hx hy lx ly hle hn x.length)
  ⟨0,0,yp n 0,by rw[hn];simp only[go_sem,ya,yc,aA,aE hv.pu,aE hw.pu]<;>rfl,by lia,by simp,by lia,Gf (by decide) n,by rw[Gg];simp[bv],fun m _=>DP n m⟩
 have hf:=nQ ydh o;rw[hlen] at hf;have⟨r,e1,hr⟩:=CF ni hf (by lia);refine⟨r,_,?_,hr,BY bc,BX _,by rw[BW];exact aO⟩
 simp only[go_sem,yc,aA,t5,CE _ (n:=n) (l:=o) hlen ydh,e1,hr.shut,hr.eb]
def an7{x y o:Nat}(hx:x<2^64)(hy:y<2^64)(ho:o<2^64)(hc:c<2^64):
  o+x*y+c<2^64*2^64/\
  ((x*y%2^64+o+0)%2^64+c+0)%2^64=(o+x*y+c)%2^64/\
  x*y/2^64+(x*y%2^64+o+0)/2^64+((x*y%2^64+o+0)%2^64+c+0)/2^64=(o+x*y+c)/2^64:=by
 have h1:=yS (show x<=18446744073709551615 by lia) (show y<=18446744073709551615 by lia)
 grind
def atZ(nj:L.pure 143=Ft zA)(gX:L.pure 171=Ft oW)(hv:bI v x)(hw:bI w y)(hx:lo (2^64) x)(hy:lo (2^64) y)(lx:x.length<=49999999999)(ly:y.length<=49999999999){i:Nat}(hn:n=x.length+y.length)(hi:i<x.length){a:Nat}(ha:a<2^64){bo:Nat}:
  en P L [1,5,6,7,8,20,21,22,27,28,29] Jw (fun k s=>∃(j c:Nat) (out:List Nat),s=⟨[(1,w),(5,.ap 0 0 n),(6,aa i),(7,uc a),(8,uc c),(20,v),(21,aa x.length),(22,aa i),(27,w),(28,aa y.length),(29,aa j)],[(0,.cells ydh ydh ydh 1 (out.map uc))],1,0⟩/\j+k=y.length/\out.length=n/\c<2^64/\lo (2^64) out/\
    bv (2^64) out+(2^64)^(i+j)*c=bo+(2^64)^i*(a*bv (2^64) (y.take j))/\(∀m,i+y.length<=m->out.getD m 0=0)) (fun ex s'=>∃tm c out,s'=⟨tm,[(0,.cells ydh ydh ydh 1 (out.map uc))],1,0⟩/\ex=.exit 2/\ak tm 1=w/\ak tm 5=.ap 0 0 n/\ak tm 6=aa i/\ak tm 8=uc c/\ak tm 20=v/\ak tm 21=aa x.length/\ak tm 22=aa i/\out.length=n/\c<2^64/\lo (2^64) out/\
    bv (2^64) out+(2^64)^(i+y.length)*c=bo+(2^64)^i*(a*bv (2^64) y)/\(∀m,i+y.length<=m->out.getD m 0=0)):=by
 apply eB;rintro k s ⟨j,c,out,rfl,hk,hlen,hc,bc,aO,gP⟩;by_cases hj:j<y.length
 .left
  have Db:(0:Nat)<2^64:=by decide
  have gy:=iy Db hy j;have oG:=iy Db bc (i+j);have ey:=hw.bh hj;have e3:=AW (l:=out) (o:=i+j) (by lia);obtain⟨q,hq⟩:∃q,q=y.getD j 0:=⟨_,rfl⟩;obtain⟨o,ho⟩:∃o,o=out.getD (i+j) 0:=⟨_,rfl⟩;rw[<-hq] at gy ey;rw[<-ho] at oG e3;have⟨m1,m2,m3⟩:=an7 ha gy oG hc;have W0:a*q<2^64*2^64:=by lia
  have f1:=N6 (P:=P) (f:=D P L) nj ha gy;have f2:=D7 (P:=P) (f:=D P L) gX (x:=a*q%2^64) (y:=o) (c:=0) (xu _ Db) oG (by lia);have f3:=D7 (P:=P) (f:=D P L) gX (x:=(a*q%2^64+o+0)%2^64) (y:=c) (c:=0) (xu _ Db) hc (by lia);obtain⟨t,ht⟩:∃t,t=o+a*q+c:=⟨_,rfl⟩;have lL:=alY (b:=2^64) (out:=out) (p:=(2^64)^(i+j)) (j:=i+j) (c:=c) (t:=t) (x:=a) (y:=q) (Y:=0) (ba:=bo+(2^64)^i*(a*bv (2^64) (y.take j))) ho (by lia) ht (by simpa using aO) rfl rfl;rw[m2,<-ht] at f3;rw[<-ht] at m1 m3;obtain⟨d1,Aj⟩:∃d,d=(a*q%2^64+o+0)/2^64:=⟨_,rfl⟩;obtain⟨d2,jy⟩:∃d,d=((a*q%2^64+o+0)%2^64+c+0)/2^64:=⟨_,rfl⟩;rw[<-Aj] at f2 m3;rw[<-jy] at f3 m3;rw[show (uc 0)=AV.int .u64 0 from rfl] at f2 f3;obtain⟨h1,iL⟩:∃d,d=a*q/2^64:=⟨_,rfl⟩;rw[<-iL] at f1 m3;have oA:h1+d1<2^64:=by lia
  have sS:h1+d1+d2<2^64:=by lia
  simp only[go_sem,ya,yk,Jw,show (j:Int)<y.length by lia,ey,f1,wrapN (n:=i+j) (by lia),show (i:Int)+(j:Int)=((i+j:Nat):Int) from rfl,cA 0 0 (show i+j<n by lia),yd,e3,f2,f3,show (h1:Int)+(d1:Int)=((h1+d1:Nat):Int) from rfl,ad1 oA,show ((h1+d1:Nat):Int)+(d2:Int)=((h1+d1+d2:Nat):Int) from rfl,ad1 sS,lz (l:=out) (o:=i+j) (by lia)]
  refine⟨_,k-1,rfl,by lia,j+1,h1+d1+d2,_,?_,by lia,by simp[hlen],sS,mT bc (x:=t%2^64) (i:=i+j) (xu _ Db),?_,fun m hm=>?_⟩
  .rw [wrap64 (by lia) (by lia)];simp only[go_sem,ya,yc,aA,aE hv.pu,aE hw.pu]<;>rfl
  .rw [m3,show i+(j+1)=i+j+1 by lia,zV,jU,<-hq,xC a,xC ((2^64)^i)];simp only[xB,yW] at lL;rw[lL,xD,<-Nat.add_assoc,xe ((2^64)^i),<-xe a,xp a ((2^64)^j),xe]
  .rw [qv (by lia)];exact gP m hm
 .right
  have:j=y.length:=by lia
  subst this;rw[xN] at aO;simp only[go_sem,ya,Jw,show ¬(y.length:Int)<y.length by lia];exact⟨_,_,rfl,by simp,_,c,out,rfl,rfl,rfl,rfl,rfl,rfl,rfl,rfl,rfl,hlen,hc,bc,aO,gP⟩
def at0(nj:L.pure 143=Ft zA)(gX:L.pure 171=Ft oW)(hv:bI v x)(hw:bI w y)(hx:lo (2^64) x)(hy:lo (2^64) y)(lx:x.length<=49999999999)(ly:y.length<=49999999999)(hn:n=x.length+y.length):
  en P L [1,5,20,21,22] Jx (fun k s=>∃(i:Nat) (out:List Nat),s=⟨[(1,w),(5,.ap 0 0 n),(20,v),(21,aa x.length),(22,aa i)],[(0,.cells ydh ydh ydh 1 (out.map uc))],1,0⟩/\i+k=x.length/\out.length=n/\lo (2^64) out/\
    bv (2^64) out=bv (2^64) (x.take i)*bv (2^64) y/\(∀m,i+y.length<=m->out.getD m 0=0)) (fun ex s'=>∃tm out,s'=⟨tm,[(0,.cells ydh ydh ydh 1 (out.map uc))],1,0⟩/\ex=.exit 0/\ak tm 5=.ap 0 0 n/\out.length=n/\lo (2^64) out/\
    bv (2^64) out=bv (2^64) x*bv (2^64) y):=by
 apply eB;rintro k s ⟨i,out,rfl,hk,hlen,bc,aO,gP⟩;by_cases hi:i<x.length
 .left
  have gx:=iy (show 0<2^64 by decide) hx i;have ex:=hv.bh hi;obtain⟨a,ha⟩:∃a,a=x.getD i 0:=⟨_,rfl⟩;simp only[go_sem,ya,Jx,hw.len,show (i:Int)<x.length by lia,ex];generalize hq:D P L (.loop _ Jw) _=q;obtain⟨ex,s,rfl,tm,c,zX,rfl,rfl,t1,t5,t6,t8,t20,t21,t22,Uw,hc,ax8,Ux,KS⟩:=bN hq (atZ (P:=P) (L:=L) nj gX hv hw hx hy lx ly hn hi gx (bo:=bv (2^64) out) y.length)
   ⟨0,0,out,by simp only[go_sem,ya,yc,aA,aE hv.pu,aE hw.pu]<;>rfl,by lia,hlen,by decide,bc,by simp[bv],gP⟩
  have hz:zX.getD (i+y.length) 0=0:=KS _ (yu _);have aU:=oY (b:=2^64) (l:=zX) (i:=i+y.length) (x:=c) (by lia);rw[hz,xB,yW,Ux] at aU
  simp only[go_sem,ya,yk,aA,t1,t5,t6,t8,t20,t21,t22,hw.len,aE hv.pu,aE hw.pu,wrapN (n:=i+y.length) (by lia),show (i:Int)+(y.length:Int)=((i+y.length:Nat):Int) from rfl,cA 0 0 (show i+y.length<n by lia),yd,lz (l:=zX) (o:=i+y.length) (by lia)];refine⟨_,k-1,rfl,by lia,i+1,zX.set (i+y.length) c,?_,by lia,by simp[Uw],mT ax8 hc,?_,fun m hm=>?_⟩
  .rw [wrap64 (by lia) (by lia)];simp only[go_sem,ya,yc,aA,aE hv.pu,aE hw.pu]<;>rfl
  .rw [aU,aO,jU,xP,<-ha,xe]
  .rw [qv (by lia)];exact KS m (by lia)
 .right
  have:i=x.length:=by lia
  subst this;rw[xN] at aO;simp only[go_sem,ya,Jx,show ¬(x.length:Int)<x.length by lia];exact⟨_,_,rfl,by simp,_,out,rfl,rfl,rfl,hlen,bc,aO⟩
def ax9(h:Has P L 144 OW)(ni:Has P L 166 Cy)(nj:L.pure 143=Ft zA)(gX:L.pure 171=Ft oW)(hv:bI v x)(hw:bI w y)(hx:lo (2^64) x)(hy:lo (2^64) y)(lx:x.length<=49999999999)(ly:y.length<=49999999999):
  ∃r out,ah P L 144 [v,w] r/\bI r out/\lo (2^64) out/\ie out/\bv (2^64) out=bv (2^64) x*bv (2^64) y:=by
 obtain⟨n,hn⟩:∃n,n=x.length+y.length:=⟨_,rfl⟩;unfold ah;rw[aJ h]
 simp only[go_sem,ya,yc,OW,hv.len,hw.len,wrapN (n:=n) (by lia),show (x.length:Int)+(y.length:Int)=((x.length+y.length:Nat):Int) from rfl,<-hn,EG (n:=n) _ (by lia)];generalize hq:D P L (.loop _ Jx) _=q;obtain⟨ex,s,rfl,tm,o,rfl,rfl,t5,hlen,bc,aO⟩:=bN hq (at0 (P:=P) (L:=L) nj gX hv hw hx hy lx ly hn x.length)
  ⟨0,yp n 0,by simp only[go_sem,ya,yc,aA,aE hv.pu,aE hw.pu]<;>rfl,by lia,by simp,Gf (by decide) n,by rw[Gg];simp[bv],fun m _=>DP n m⟩
 have hf:=nQ ydh o;rw[hlen] at hf;have⟨r,e1,hr⟩:=CF ni hf (by lia);refine⟨r,_,?_,hr,BY bc,BX _,by rw[BW];exact aO⟩
 simp only[go_sem,yc,aA,t5,CE _ (n:=n) (l:=o) hlen ydh,e1,hr.shut,hr.eb]
end
section
variable {b s u u2 v1 v2 y:Nat}
def Oy(n:Int):IntKind.wrap .u64 n=n%2^64:=by
 simp[IntKind.wrap,IntKind.signed,IntKind.bits]
def wrapM(n:Nat):IntKind.wrap .u64 (n:Int)=((n%2^64:Nat):Int):=by rw[Oy];lia
def qS(a b:Nat):binOp .mul (uc a) (uc b)=Ft (uc (a*b%2^64)):=by
 rw[abP,<-xZ,wrapM]
def Ct(a b:Nat):binOp .add (uc a) (uc b)=Ft (uc ((a+b)%2^64)):=by
 rw[abO,<-Int.natCast_add,wrapM]
def EH{a c:Nat}(h:(a+2^64-b)%2^64=c)(hb:b<=2^64):binOp .sub (uc a) (uc b)=Ft (uc c):=by
 rw[NE,Oy]
 grind
def at1(k k':xd)(a b:Int):binOp .shl (.int k a) (.int k' b)=DM .shl k a b:=rfl
def at2(k k':xd)(a b:Int):binOp .shr (.int k a) (.int k' b)=DM .shr k a b:=rfl
def KT(k:xd)(a:Nat)(hs:s<=64):binOp .shl (.int .u64 (a:Int)) (.int k (s:Int))=Ft (uc (a*2^s%2^64)):=by
 rw[at1];simp only[DM,yz (show ¬(s:Int)<0 by lia),wJ,IntKind.bits,xj hs];rw[show ((2:Int)^s)=((2^s:Nat):Int) by simp,<-xZ,wrapM]
def KU(k:xd)(a:Nat)(hs:s<=64):binOp .shr (.int .u64 (a:Int)) (.int k (s:Int))=Ft (uc (a/2^s)):=by
 rw[at2];simp only[DM,yz (show ¬(s:Int)<0 by lia),wJ,IntKind.bits,xj hs]
 grind
def afm(a:Nat):binOp .and (.int .u64 (a:Int)) (.int .u64 4294967295)=Ft (uc (a%4294967296)):=by
 show Ft (AV.int .u64 (IntKind.wrap .u64 ((wB 64 (a:Int)&&&wB 64 4294967295).toNat:Int)))=_
 rw[show wB 64 (a:Int)=tD 64 a from tE 64 a,show wB 64 4294967295=tD 64 4294967295 from rfl];rw[BitVec.toNat_and,vY,vY,show (4294967295%2^64:Nat)=2^32-1 from rfl,Nat.and_two_pow_sub_one_eq_mod,wrapM]
 grind
def W1{a:Nat}(ha:a<2^64)(hb:b<2^64):binOp .or (.int .u64 (a:Int)) (.int .u64 (b:Int))=Ft (uc (a|||b)):=by
 show Ft (AV.int .u64 (IntKind.wrap .u64 ((wB 64 (a:Int)|||wB 64 (b:Int)).toNat:Int)))=_
 congr 2
 rw[show wB 64 (a:Int)=tD 64 a from tE 64 a,show wB 64 (b:Int)=tD 64 b from tE 64 b];rw[BitVec.toNat_or,vY,vY,yF (show a<2^64 from ha),yF (show b<2^64 from hb),wrapM]
 have:a|||b<2^64:=Nat.or_lt_two_pow ha hb
 lia
def TL{p c:Nat}(h:c<2^s):(p*2^s)|||c=p*2^s+c:=by
 rw[<-Nat.shiftLeft_eq,<-Nat.shiftLeft_add_eq_or_of_lt h]
def YV:∀(f n:Nat),n<2^f->eJ f n<=f/\n<2^eJ f n/\(0<n->0<eJ f n/\2^(eJ f n-1)<=n)
 | 0,n,h=>by simp[eJ];simpa using h
 | f+1,n,h=>by
  simp only[eJ];by_cases h0:n=0
  .simp_all
  .rw [jg h0,yO];have⟨h1,h2,h3⟩:=YV f (n/2) (by lia);refine⟨by lia,?_,fun _=>⟨by lia,?_⟩⟩
   .grind
   .rw [Nat.add_sub_cancel_left];by_cases hn:0<n/2
    .have ⟨h4,h5⟩:=h3 hn;obtain⟨m,hm⟩:∃m,eJ f (n/2)=m+1:=⟨eJ f (n/2)-1,by lia⟩
     grind
    .have hz:n/2=0:=by lia
     have:eJ f 0=0:=by cases f with
      | zero=>rfl
      | succ f=>rfl
     grind
def SA(h0:0<y)(h:y<2^64):64-eJ 64 y<64/\9223372036854775808<=y*2^(64-eJ 64 y)/\y*2^(64-eJ 64 y)<2^64:=by
 have⟨h1,h2,h3⟩:=YV 64 y h;have⟨h4,h5⟩:=h3 h0;generalize eJ 64 y=k at*
 refine⟨by lia,?_,?_⟩
 .have:=yU (2^(64-k)) h5
  rw[<-xD,show k-1+(64-k)=63 by lia] at this;exact this
 .have:=xX h2 (xi (64-k))
  rw[<-xD,show k+(64-k)=64 by lia] at this;exact this
section
variable {P:aF}{L:Lib}{f:cd}
def acE(h:L.pure 167=Ft Gn){x:Nat}(hx:x<2^64):bT P L f 167 [uc x]=Ft (aa (64-eJ 64 x:Nat)):=by
 rw[lI h];show (bif yI x (2^64) then _ else Fu)=_
 rw[mY hx];rfl
def alZ{t r:Nat}(dE:v2<b)(ll:t<b)(ht:t*v1+r=u)(h:b<=r\/t*v2<=b*r+u2):t*(v1*b+v2)<=u*b+u2:=by
 have h2:t*v2<=b*r+u2:=by
  rcases h with h | h
  .have:=yS (uL ll) (uL dE)
   have:=yY b h
   lia
  .exact h
 rw[xC,<-xe,<-ht,xP,xp r b];lia
def awz(n:Nat):kC (.toInt .u64) (.int .i64 (n:Int))=Ft (uc (n%2^64)):=by
 show Ft (AV.int .u64 (IntKind.wrap .u64 (n:Int)))=_
 rw[wrapM]
def Yn{q r:Nat}(hy:y=v1*4294967296+v2)(dE:v2<4294967296)(Hj:0<v1)(eS:v1<4294967296)(hu:u<y)(BA:u2<4294967296)(hq:q*v1+r=u)(hr:r<4294967296)(hQ:(u*4294967296+u2)/y<=q):
  (4294967296<=q\/4294967296*r+u2<q*v2->0<q/\(q-1)*v1+(r+v1)=u/\(u*4294967296+u2)/y<=q-1/\(4294967296<=r+v1->(u*4294967296+u2)/y=q-1))/\
  (¬4294967296<=q->q*v2<=4294967296*r+u2->(u*4294967296+u2)/y=q):=by
 have kI:0<y:=by lia
 have Qq:∀t s,t*v1+s=u->4294967296<=t->s<4294967296:=fun t s h1 h2=>by
  have:=yU v1 h2
  grind
 have acF:∀t s,t*v1+s=u->t<4294967296->(4294967296<=s\/t*v2<=4294967296*s+u2)->(u*4294967296+u2)/y<=t->(u*4294967296+u2)/y=t:=fun t s h1 h2 h3 h4=>by
  have:=alZ dE h2 h1 h3
  rw[<-hy] at this
  have:=(tK kI).2 this
  lia
 constructor
 .intro h;have zc:0<q:=by
   grind
  have h1:(q-1)*v1+(r+v1)=u:=by
   obtain⟨p,rfl⟩:∃p,q=p+1:=⟨q-1,by lia⟩
   grind
  have h2:(u*4294967296+u2)/y<=q-1:=by
   have aM:u*4294967296+u2<q*y:=by
    rcases h with h | h
    .have h3:u*4294967296+u2<4294967296*y:=by lia
     exact yE h3 (yU y h)
    .rw [hy,xC,<-xe,<-hq,xP,xp r];lia
   have:=(xK kI).2 aM
   lia
  exact⟨zc,h1,h2,fun h3=>acF _ _ h1 (by
   by_cases hb:4294967296<=q-1
   .have:=Qq _ _ h1 hb;lia
   .lia) (.inl h3) h2⟩
 .intro h1 h2;exact acF q r hq (by lia) (.inr h2) hQ
def at3{z:Nat}(hy:y=v1*4294967296+v2)(dE:v2<4294967296)(Hj:0<v1)(eS:v1<4294967296)(hu:u<y)(BA:u2<4294967296):
  en P L [2,8,9,10,11,13,14,15,16] B9 (fun k st=>∃q r:Nat,st=⟨[(2,uc y),(8,uc s),(9,uc v1),(10,uc v2),(11,uc u),(13,uc u2),(14,uc z),(15,uc q),(16,uc r)],[],0,0⟩/\q*v1+r=u/\r<4294967296/\(u*4294967296+u2)/y<=q/\q=k) (fun ex st'=>∃tm ct,st'=⟨tm,[],ct,0⟩/\ex=.exit 0/\ak tm 2=uc y/\ak tm 8=uc s/\ak tm 9=uc v1/\ak tm 10=uc v2/\ak tm 11=uc u/\ak tm 13=uc u2/\ak tm 14=uc z/\ak tm 15=uc ((u*4294967296+u2)/y)):=by
 apply eB;rintro k st ⟨q,r,rfl,hq,hr,hQ,rfl⟩;have⟨g1,g2⟩:=Yn hy dE Hj eS hu BA hq hr hQ;have hqb:q*1<=q*v1:=yY q Hj;have aya:=yU 4294967296 (show v1<=4294967295 by lia);have pW:q<2^64:=by lia
 have Wx:=yY 4294967296 (show r<=4294967295 by lia);have e1:=qS 4294967296 r;rw[show uc 4294967296=AV.int .u64 4294967296 from rfl,yF (show 4294967296*r<2^64 by lia)] at e1;have e2:=Ct (4294967296*r) u2;rw[yF (show 4294967296*r+u2<2^64 by lia)] at e2;have e4:=Ct r v1;rw[yF (show r+v1<2^64 by lia)] at e4;by_cases hc:4294967296<=q\/4294967296*r+u2<q*v2
 .have ⟨h0,h1,h2,h3⟩:=g1 hc;have e3:binOp .sub (uc q) (.int .u64 1)=Ft (uc (q-1)):=EH (b:=1) (by lia) (by lia);by_cases hb:4294967296<=r+v1
  .right
   have BB:=h3 hb;rcases (show 4294967296<=q\/(¬4294967296<=q/\4294967296*r+u2<q*v2) by lia) with t1 | ⟨t1,t2⟩
   .simp only [go_sem,ya,B9,show (4294967296:Int)<=(q:Int) by lia,e3,e4,show (4294967296:Int)<=((r+v1:Nat):Int) by lia];exact⟨_,_,rfl,by simp,_,_,rfl,rfl,rfl,rfl,rfl,rfl,rfl,rfl,rfl,by rw[BB];simp only[go_sem,ya]⟩
   .have W2:=yS (show q<=4294967295 by lia) (show v2<=4294967295 by lia);have e5:=qS q v2;rw[yF (show q*v2<2^64 by lia)] at e5;simp only[go_sem,ya,B9,show ¬(4294967296:Int)<=(q:Int) by lia,e5,e1,e2,show ((4294967296*r+u2:Nat):Int)<((q*v2:Nat):Int) by lia,e3,e4,show (4294967296:Int)<=((r+v1:Nat):Int) by lia];exact⟨_,_,rfl,by simp,_,_,rfl,rfl,rfl,rfl,rfl,rfl,rfl,rfl,rfl,by rw[BB];simp only[go_sem,ya]⟩
  .left
   rcases (show 4294967296<=q\/(¬4294967296<=q/\4294967296*r+u2<q*v2) by lia) with t1 | ⟨t1,t2⟩
   .simp only [go_sem,ya,B9,show (4294967296:Int)<=(q:Int) by lia,e3,e4,show ¬(4294967296:Int)<=((r+v1:Nat):Int) by lia];exact⟨_,q-1,rfl,by lia,q-1,r+v1,by simp only[go_sem,ya,aA],h1,by lia,h2,rfl⟩
   .have W2:=yS (show q<=4294967295 by lia) (show v2<=4294967295 by lia);have e5:=qS q v2;rw[yF (show q*v2<2^64 by lia)] at e5;simp only[go_sem,ya,B9,show ¬(4294967296:Int)<=(q:Int) by lia,e5,e1,e2,show ((4294967296*r+u2:Nat):Int)<((q*v2:Nat):Int) by lia,e3,e4,show ¬(4294967296:Int)<=((r+v1:Nat):Int) by lia];exact⟨_,q-1,rfl,by lia,q-1,r+v1,by simp only[go_sem,ya,aA],h1,by lia,h2,rfl⟩
 .right
  have BB:=g2 (by lia) (by lia);have e5:=qS q v2;rw[yF (show q*v2<2^64 by lia)] at e5;simp only[go_sem,ya,B9,show ¬(4294967296:Int)<=(q:Int) by lia,e5,e1,e2,show ¬((4294967296*r+u2:Nat):Int)<((q*v2:Nat):Int) by lia];exact⟨_,_,rfl,by simp,_,_,rfl,rfl,rfl,rfl,rfl,rfl,rfl,rfl,rfl,by rw[BB];simp only[go_sem,ya]⟩
end
end
section
variable {P:aF}{L:Lib}{f:cd}
def at4{y s v1 v2 u u2 z:Nat}(hy:y=v1*4294967296+v2)(dE:v2<4294967296)(Hj:0<v1)(eS:v1<4294967296)(hu:u<y)(BA:u2<4294967296):
  en P L [2,8,9,10,14,15,16,17,18] Ca (fun k st=>∃q r:Nat,st=⟨[(2,uc y),(8,uc s),(9,uc v1),(10,uc v2),(14,uc u2),(15,uc z),(16,uc r),(17,uc u),(18,uc q)],[],0,0⟩/\q*v1+r=u/\r<4294967296/\(u*4294967296+u2)/y<=q/\q=k) (fun ex st'=>∃tm ct,st'=⟨tm,[],ct,0⟩/\ex=.exit 2/\ak tm 2=uc y/\ak tm 8=uc s/\ak tm 9=uc v1/\ak tm 10=uc v2/\ak tm 14=uc u2/\ak tm 15=uc z/\ak tm 17=uc u/\ak tm 18=uc ((u*4294967296+u2)/y)):=by
 apply eB;rintro k st ⟨q,r,rfl,hq,hr,hQ,rfl⟩;have⟨g1,g2⟩:=Yn hy dE Hj eS hu BA hq hr hQ;have hqb:q*1<=q*v1:=yY q Hj;have aya:=yU 4294967296 (show v1<=4294967295 by lia);have pW:q<2^64:=by lia
 have Wx:=yY 4294967296 (show r<=4294967295 by lia);have e1:=qS 4294967296 r;rw[show uc 4294967296=AV.int .u64 4294967296 from rfl,yF (show 4294967296*r<2^64 by lia)] at e1;have e2:=Ct (4294967296*r) u2;rw[yF (show 4294967296*r+u2<2^64 by lia)] at e2;have e4:=Ct r v1;rw[yF (show r+v1<2^64 by lia)] at e4;by_cases hc:4294967296<=q\/4294967296*r+u2<q*v2
 .have ⟨h0,h1,h2,h3⟩:=g1 hc;have e3:binOp .sub (uc q) (.int .u64 1)=Ft (uc (q-1)):=EH (b:=1) (by lia) (by lia);by_cases hb:4294967296<=r+v1
  .right
   have BB:=h3 hb;rcases (show 4294967296<=q\/(¬4294967296<=q/\4294967296*r+u2<q*v2) by lia) with t1 | ⟨t1,t2⟩
   .simp only [go_sem,ya,Ca,show (4294967296:Int)<=(q:Int) by lia,e3,e4,show (4294967296:Int)<=((r+v1:Nat):Int) by lia];exact⟨_,_,rfl,by simp,_,_,rfl,rfl,rfl,rfl,rfl,rfl,rfl,rfl,rfl,by rw[BB];simp only[go_sem,ya]⟩
   .have W2:=yS (show q<=4294967295 by lia) (show v2<=4294967295 by lia);have e5:=qS q v2;rw[yF (show q*v2<2^64 by lia)] at e5;simp only[go_sem,ya,Ca,show ¬(4294967296:Int)<=(q:Int) by lia,e5,e1,e2,show ((4294967296*r+u2:Nat):Int)<((q*v2:Nat):Int) by lia,e3,e4,show (4294967296:Int)<=((r+v1:Nat):Int) by lia];exact⟨_,_,rfl,by simp,_,_,rfl,rfl,rfl,rfl,rfl,rfl,rfl,rfl,rfl,by rw[BB];simp only[go_sem,ya]⟩
  .left
   rcases (show 4294967296<=q\/(¬4294967296<=q/\4294967296*r+u2<q*v2) by lia) with t1 | ⟨t1,t2⟩
   .simp only [go_sem,ya,Ca,show (4294967296:Int)<=(q:Int) by lia,e3,e4,show ¬(4294967296:Int)<=((r+v1:Nat):Int) by lia];exact⟨_,q-1,rfl,by lia,q-1,r+v1,by simp only[go_sem,ya,aA],h1,by lia,h2,rfl⟩
   .have W2:=yS (show q<=4294967295 by lia) (show v2<=4294967295 by lia);have e5:=qS q v2;rw[yF (show q*v2<2^64 by lia)] at e5;simp only[go_sem,ya,Ca,show ¬(4294967296:Int)<=(q:Int) by lia,e5,e1,e2,show ((4294967296*r+u2:Nat):Int)<((q*v2:Nat):Int) by lia,e3,e4,show ¬(4294967296:Int)<=((r+v1:Nat):Int) by lia];exact⟨_,q-1,rfl,by lia,q-1,r+v1,by simp only[go_sem,ya,aA],h1,by lia,h2,rfl⟩
 .right
  have BB:=g2 (by lia) (by lia);have e5:=qS q v2;rw[yF (show q*v2<2^64 by lia)] at e5;simp only[go_sem,ya,Ca,show ¬(4294967296:Int)<=(q:Int) by lia,e5,e1,e2,show ¬((4294967296*r+u2:Nat):Int)<((q*v2:Nat):Int) by lia];exact⟨_,_,rfl,by simp,_,_,rfl,rfl,rfl,rfl,rfl,rfl,rfl,rfl,rfl,by rw[BB];simp only[go_sem,ya]⟩
def ad2(a:Nat):binOp .shr (.int .u64 (a:Int)) (.int .u64 32)=Ft (uc (a/4294967296)):=KU .u64 a (s:=32) (by decide)
def afn(a:Nat){b:Nat}(ha:a<2^64)(hb:0<b):binOp .quo (uc a) (uc b)=Ft (uc (a/b)):=by
 rw[fW _ _ _ (by lia),wm (by lia),<-Int.natCast_ediv,wrapM,yF];exact wC (vB a b) ha
def ayb(a:Nat){b:Nat}(hb:0<b):binOp .rem (uc a) (uc b)=Ft (uc (a%b)):=by
 rw[fE _ _ _ (by lia),wj (by lia),<-Int.natCast_emod]
def al0{hi lo y s u z Y:Nat}(hs:s<64)(bc:lo<2^64)(hY:Y=y*2^s)(hu:u=hi*2^s+lo/2^(64-s))(hz:z=lo*2^s%2^64):
  (hi*2^64+lo)*2^s=u*2^64+z:=by
 have e:2^64=2^(64-s)*2^s:=by rw[<-xD,show 64-s+s=64 by lia]
 have h1:lo*2^s/2^64=lo/2^(64-s):=by
  rw[e,tL _ _ (xi s)]
 grind
def ZO{Y q a b:Nat}(h1:a<Y)(h2:b<4294967296)(h3:q=(a*4294967296+b)/Y):q<4294967296:=by
 rw[h3];exact (xK (by lia)).2 (by lia)
def an8{u w x z z0 z1 q0 q1 Y:Nat}(Aj:q1*Y+w=u*4294967296+z1)(gQ:q0*Y+x=w*4294967296+z0)(hz:z=z1*4294967296+z0):u*2^64+z=(q1*4294967296+q0)*Y+x:=by grind
def akv{q1 q0:Nat}(h1:q1<4294967296)(h0:q0<4294967296):q1*4294967296<2^64/\q1*4294967296+q0<2^64:=by lia
def afo(h:Has P L 165 Kv)(KV:L.pure 167=Ft Gn){hi lo y:Nat}(gP:hi<y)(bc:lo<2^64)(hy:y<2^64):
  ah P L 165 [uc hi,uc lo,uc y] (.ax [uc ((hi*2^64+lo)/y),uc ((hi*2^64+lo)%y)]):=by
 have kI:0<y:=by lia
 by_cases h0:hi=0
 .subst h0;have e1:=afn lo bc kI;have e2:=ayb lo kI;rw[vh,yd];unfold ah;rw[aJ h];simp only[go_sem,ya,Kv,show ¬(y:Int)=0 by lia,show ¬(y:Int)<=0 by lia,show ((0:Nat):Int)=0 from rfl,e1,e2];rfl
 .obtain ⟨s,hs⟩:∃s,s=64-eJ 64 y:=⟨_,rfl⟩;have hl:=acE (P:=P) (f:=D P L) KV hy;have⟨l1,l2,l3⟩:=SA kI hy;rw[<-hs] at hl l1 l2 l3;obtain⟨Y,hY⟩:∃Y,Y=y*2^s:=⟨_,rfl⟩;obtain⟨u,hu⟩:∃u,u=hi*2^s+lo/2^(64-s):=⟨_,rfl⟩;obtain⟨z,hz⟩:∃z,z=lo*2^s%2^64:=⟨_,rfl⟩;have hdiv:=al0 l1 bc hY hu hz;rw[<-hY] at l2 l3;have hp:=xi s;obtain⟨v1,eS⟩:∃v,v=Y/4294967296:=⟨_,rfl⟩;obtain⟨v2,dE⟩:∃v,v=Y%4294967296:=⟨_,rfl⟩;have hYv:Y=v1*4294967296+v2:=by lia
  obtain⟨z1,kW⟩:∃v,v=z/4294967296:=⟨_,rfl⟩;obtain⟨z0,lA⟩:∃v,v=z%4294967296:=⟨_,rfl⟩;have Hk:z<2^64:=by lia
  have hhY:hi*2^s<Y:=by rw[hY];exact xX gP hp
  have dH:lo/2^(64-s)<2^s:=by
   refine (xK (xi _)).2 ?_;rw[<-xD,show s+(64-s)=64 by lia];exact bc
  have pP:hi*2^s|||lo/2^(64-s)=u:=by rw[TL dH,hu]
  have hN:hi*2^64+lo<y*2^64:=by
   have:=yU (2^64) (show hi+1<=y from gP)
   lia
  have W3:u<Y:=by
   have h1:=xX hN hp;rw[hdiv,Nat.mul_right_comm,<-hY] at h1
   lia
  obtain⟨q1,fP⟩:∃q,q=(u*4294967296+z1)/Y:=⟨_,rfl⟩;obtain⟨w,hw⟩:∃q,q=(u*4294967296+z1)%Y:=⟨_,rfl⟩;obtain⟨q0,zc⟩:∃q,q=(w*4294967296+z0)/Y:=⟨_,rfl⟩;obtain⟨x,hx⟩:∃q,q=(w*4294967296+z0)%Y:=⟨_,rfl⟩;have Qr:w<Y:=by rw[hw];exact xu _ (by lia)
  have W4:x<Y:=by rw[hx];exact xu _ (by lia)
  have Aj:=xz (u*4294967296+z1) Y;rw[<-fP,<-hw,xp] at Aj;have gQ:=xz (w*4294967296+z0) Y;rw[<-zc,<-hx,xp] at gQ;have ayc:=ZO W3 (show z1<4294967296 by lia) fP;have ayd:=ZO Qr (show z0<4294967296 by lia) zc;have⟨td1,td2⟩:=akv ayc ayd;have afp:(hi*2^64+lo)*2^s=(q1*4294967296+q0)*Y+x:=by
   rw[hdiv];exact an8 Aj gQ (by lia)
  have r1:(hi*2^64+lo)/y=q1*4294967296+q0:=by
   rw[<-tL _ _ hp,afp,<-hY,xp _ Y,tZ (by lia),xU W4,yW]
  have r2:x/2^s=(hi*2^64+lo)%y:=by
   have h1:x=(hi*2^64+lo)*2^s%(y*2^s):=by
    rw[afp,<-hY,xp _ Y,yaa,yF W4]
   rw[h1,uo,Nat.mul_div_cancel _ hp]
  have o1:=KT .u64 y (s:=s) (by lia);rw[<-hY,yF l3] at o1;have o2:=ad2 Y;rw[<-eS] at o2;have o3:=afm Y;rw[<-dE] at o3;have o4:=KT .u64 hi (s:=s) (by lia);rw[yF (show hi*2^s<2^64 by lia)] at o4;have o5:binOp .sub (.int .u64 64) (uc s)=Ft (uc (64-s)):=EH (a:=64) (by lia) (by lia);have o6:=KU .u64 lo (s:=64-s) (by lia);have o7:=W1 (a:=hi*2^s) (b:=lo/2^(64-s)) (by lia) (wC (vB _ _) bc);rw[pP] at o7;have o8:=KT .u64 lo (s:=s) (by lia);rw[<-hz] at o8;have o9:=ad2 z;rw[<-kW] at o9;have o10:=afm z;rw[<-lA] at o10;have GL:0<v1:=by lia
  have ad3:∀{a:Nat},a<Y->binOp .quo (uc a) (uc v1)=Ft (uc (a/v1))/\binOp .mul (uc (a/v1)) (uc v1)=Ft (uc (a/v1*v1))/\binOp .sub (uc a) (uc (a/v1*v1))=Ft (uc (a%v1)):=fun {a} ha=>by
   have h1:=xz a v1;rw[xp] at h1;have h2:=qS (a/v1) v1;generalize a/v1*v1=m at*
   rw[yF (show m<2^64 by lia)] at h2;exact⟨afn a (by lia) GL,h2,EH (by lia) (by lia)⟩
  have⟨g1,g2,g3⟩:=ad3 W3;have⟨g4,g5,g6⟩:=ad3 Qr;have first:∀{a b:Nat},b<4294967296->(a*4294967296+b)/Y<=a/v1:=fun {a b} hb=>by
   have:=Q9 (b:=4294967296) (V:=Y) (v1:=v1) (v2:=v2) (vr:=0) (U:=a*4294967296+b) (u0:=0) (u1:=a) (u2:=b) (ur:=0) (p:=1) (by lia) (by lia) (by decide) hb GL
   simpa using this
  have back:∀{a b q x:Nat},a*4294967296+b=q*Y+x->x<Y->binOp .mul (uc a) (.int .u64 4294967296)=Ft (uc (a*4294967296%2^64))/\binOp .add (uc (a*4294967296%2^64)) (uc b)=Ft (uc ((a*4294967296%2^64+b)%2^64))/\
    binOp .mul (uc q) (uc Y)=Ft (uc (q*Y%2^64))/\binOp .sub (uc ((a*4294967296%2^64+b)%2^64)) (uc (q*Y%2^64))=Ft (uc x):=fun {a b q x} h1 h2=>by
   refine⟨qS a 4294967296,Ct _ _,qS q Y,EH ?_ (by lia)⟩;generalize q*Y=m at*
   lia
  have⟨k1,k2,k3,k4⟩:=back Aj.symm Qr;have⟨k5,k6,k7,k8⟩:=back gQ.symm W4;have m1:=qS q1 4294967296;rw[yF td1,show uc 4294967296=AV.int .u64 4294967296 from rfl] at m1;have m2:=Ct (q1*4294967296) q0;rw[yF td2] at m2;have m3:=KU .u64 x (s:=s) (by lia);rw[r1,<-r2];unfold ah;rw[aJ h];simp only[go_sem,ya,Kv,show ¬(y:Int)=0 by lia,show ¬(y:Int)<=(hi:Int) by lia,show ¬(hi:Int)=0 by lia,hl,awz,yF (show s<2^64 by lia),o1,o2,o3,o4,o5,o6,o7,o8,o9,o10,g1,g2,g3];generalize nD:D P L (.loop _ B9) _=qq
  obtain⟨ex,st,rfl,tm,ct,rfl,rfl,t2,t8,t9,t10,t11,t13,t14,t15⟩:=bN nD (at3 (P:=P) (L:=L) (s:=s) (z:=z0) hYv (by lia) GL (by lia) W3 (show z1<4294967296 by lia) (u/v1)) ⟨u/v1,u%v1,by simp only[go_sem,ya,aA],by rw[xp];exact xz u v1,by have:=xu u GL;lia,first (by lia),rfl⟩
  rw[<-fP] at t15;simp only[go_sem,ya,aA,t2,t8,t9,t10,t11,t13,t14,t15,k1,k2,k3,k4,g4,g5,g6];generalize EI:D P L (.loop _ Ca) _=W5;obtain⟨ex,st,rfl,kU,ct2,rfl,rfl,t2,t8,t9,t10,t14,t15,t17,t18⟩:=bN EI (at4 (P:=P) (L:=L) (s:=s) (z:=q1) hYv (by lia) GL (by lia) Qr (show z0<4294967296 by lia) (w/v1)) ⟨w/v1,w%v1,by simp only[go_sem,ya,aA],by rw[xp];exact xz w v1,by have:=xu w GL;lia,first (by lia),rfl⟩
  rw[<-zc] at t18;simp only[go_sem,ya,aA,t2,t8,t14,t15,t17,t18,m1,m2,k5,k6,k7,k8,m3];rfl
end
mutual
def below(n:Nat):AV->Prop
 | .ptr id _=>id<n
 | .ap id _ _=>id<n
 | .map id=>id<n
 | .it id=>id<n
 | .fn (.f _) first cap=>mu n first/\mu n cap
 | .fn (.y l) first cap=>l<n/\first=[]/\cap=[]
 | .agg cs=>mu n cs
 | .ax cs=>mu n cs
 | _=>True
def mu(n:Nat):List AV->Prop
 | []=>True
 | v::r=>below n v/\mu n r
end
def kL(n:Nat):Env->Prop
 | []=>True
 | (_,v)::r=>below n v/\kL n r
def AR(n:Nat):Obj->Prop
 | .cells _ pu _ _ cs=>pu=ydh\/mu n cs
 | .mp _ ks vs=>mu n ks/\mu n vs
 | .si _ _=>True
 | .lp tm _ _ _ _ _=>kL n tm
def kM(b n:Nat):Hp->Prop
 | []=>True
 | (id,o)::r=>id<b/\AR n o/\kM b n r
mutual
def ZP{f:Nat->Option Nat}{n:Nat}(hf:∀x,x<n->f x=Ft x):∀{v:AV},below n v->bm f v=v
 | .int _ _,_ | .bool _,_ | .ao _ _,_ | .cW _ _ _,_ | .str _,_ | .jY,_ | .bq _,_ | .af,_ | .au _ _ _,_ | .gU,_ | .jl,_ | .jm _ _,_ | .undef,_ | .cF _ _ _ _,_=>rfl
 | .ptr id o,h=>by simp only[bm,hf id h]
 | .ap id o k,h=>by simp only[bm,hf id h]
 | .map id,h=>by simp only[bm,hf id h]
 | .it id,h=>by simp only[bm,hf id h]
 | .fn (.y l) first cap,h=>by
  obtain⟨h1,rfl,rfl⟩:=h;simp only[bm,hf l h1,dB]
 | .fn (.f _) first cap,h=>by
  simp only[bm,BN hf h.1,BN hf h.2]
 | .agg cs,h=>by simp only[below] at h;simp only[bm,BN hf h]
 | .ax cs,h=>by simp only[below] at h;simp only[bm,BN hf h]
def BN{f:Nat->Option Nat}{n:Nat}(hf:∀x,x<n->f x=Ft x):∀{vs:List AV},mu n vs->dB f vs=vs
 | [],_=>rfl
 | v::r,h=>by simp only[dB,ZP hf h.1,BN hf h.2]
end
def MN{f:Nat->Option Nat}{n:Nat}(hf:∀x,x<n->f x=Ft x):∀{tm:Env},kL n tm->eO f tm=tm
 | [],_=>rfl
 | (_,v)::r,h=>by simp only[eO,ZP hf h.1,MN hf h.2]
def akw{f:Nat->Option Nat}{n:Nat}(hf:∀x,x<n->f x=Ft x):∀{o:Obj},AR n o->gE f o=o
 | .cells _ pu _ _ cs,h=>by
  cases pu with
  | true=>rfl
  | false=>simp only[AR,yC,ycx] at h;simp only[gE,yO,BN hf h]
 | .mp _ ks vs,h=>by simp only[gE,BN hf h.1,BN hf h.2]
 | .si _ _,_=>rfl
 | .lp tm _ _ _ _ _,h=>by simp only[AR] at h;simp only[gE,MN hf h]
mutual
def YW{n:Nat}:∀{v:AV},below n v->∀x,x∈refs v->x<n
 | .int _ _,_,x,h | .bool _,_,x,h | .ao _ _,_,x,h | .cW _ _ _,_,x,h | .str _,_,x,h | .jY,_,x,h | .bq _,_,x,h | .af,_,x,h | .au _ _ _,_,x,h | .gU,_,x,h | .jl,_,x,h | .jm _ _,_,x,h | .undef,_,x,h | .cF _ _ _ _,_,x,h=>by simp[refs] at h
 | .ptr id o,h,x,hx=>by simp only[refs,we] at hx;subst hx;exact h
 | .ap id o k,h,x,hx=>by simp only[refs,we] at hx;subst hx;exact h
 | .map id,h,x,hx=>by simp only[refs,we] at hx;subst hx;exact h
 | .it id,h,x,hx=>by simp only[refs,we] at hx;subst hx;exact h
 | .fn (.y l) first cap,h,x,hx=>by simp only[refs,we] at hx;subst hx;exact h.1
 | .fn (.f _) first cap,h,x,hx=>by
  simp only[refs,xH] at hx;exact hx.elim (BM h.1 x) (BM h.2 x)
 | .agg cs,h,x,hx=>by simp only[below] at h;simp only[refs] at hx;exact BM h x hx
 | .ax cs,h,x,hx=>by simp only[below] at h;simp only[refs] at hx;exact BM h x hx
def BM{n:Nat}:∀{vs:List AV},mu n vs->∀x,x∈fH vs->x<n
 | [],_,x,h=>by simp[fH] at h
 | v::r,h,x,hx=>by
  simp only[fH,xH] at hx;exact hx.elim (YW h.1 x) (BM h.2 x)
end
def Mu{n:Nat}:∀{tm:Env},kL n tm->∀x,x∈dL tm->x<n
 | [],_,x,h=>by simp[dL] at h
 | (_,v)::r,h,x,hx=>by
  simp only[dL,xH] at hx;exact hx.elim (YW h.1 x) (Mu h.2 x)
def ajP{n:Nat}:∀{o:Obj},AR n o->∀x,x∈iW o->x<n
 | .cells _ pu _ _ cs,h,x,hx=>by
  cases pu with
  | true=>simp[iW] at hx
  | false=>simp only[AR,yC,ycx] at h;exact BM h x hx
 | .mp _ ks vs,h,x,hx=>by
  simp only[iW,xH] at hx;exact hx.elim (BM h.1 x) (BM h.2 x)
 | .si _ _,_,x,hx=>by simp[iW] at hx
 | .lp tm _ _ _ _ _,h,x,hx=>by simp only[AR] at h;exact Mu h x hx
def fZ(B:Nat):List (List AV)->Hp
 | []=>[]
 | cs::r=>(B+r.length,.cells ydh ydh ydh 1 cs)::fZ B r
def Ep(B:Nat):List (List AV)->Hp->Hp
 | [],acc=>acc
 | cs::r,acc=>Ep (B+1) r ((B,.cells ydh ydh ydh 1 cs)::acc)
def YX:∀(l:List (List AV)) (B:Nat) (x:List AV) (acc:Hp),Ep B (l++[x]) acc=(B+l.length,.cells ydh ydh ydh 1 x)::Ep B l acc
 | [],B,x,acc=>rfl
 | c::l,B,x,acc=>by
  simp only[yx,Ep,YX l,yy]
  grind
def R1(B:Nat)(acc:Hp):∀rs:List (List AV),Ep B rs.reverse acc=fZ B rs++acc
 | []=>rfl
 | c::r=>by
  simp only[ybs,YX,R1 B acc r,ybg,fZ,yx]
def R2{B:Nat}{old:Hp}:∀{rs:List (List AV)} {i:Nat} (h:i<rs.length),ai (fZ B rs++old) (B+i)=Ft (.cells ydh ydh ydh 1 (rs.reverse[i]'(by simpa using h)))
 | c::r,i,h=>by
  simp only[fZ,yx,ybs];by_cases hi:i=r.length
  .subst hi;rw[ai,wV,yq]
   simp
  .have aM:i<r.length:=by grind
   rw[ai,jg (by lia),yO,R2 aM]
   grind
def nY{a b:Nat}(h:a<b):yI a b=ydh:=by simp_all
def rZ{a b:Nat}(h:b<=a):yI a b=ydi:=by
 cases hq:yI a b with
 | false=>rfl
 | true=>have:=yr hq;lia
def IF{B:Nat}{old:Hp}:∀rs:List (List AV),cI B (fZ B rs++old)=cI B old
 | []=>rfl
 | c::r=>by
  simp only[fZ,yx];rw[cI,rZ (by lia),yO,IF r]
def Ry{B:Nat}{old:Hp}{f:Nat->Option Nat}:∀rs:List (List AV),fI B f (fZ B rs++old)=fI B f old
 | []=>rfl
 | c::r=>by
  simp only[fZ,yx];rw[fI,rZ (by lia),yO,Ry r]
def Mv{B n:Nat}{f:Nat->Option Nat}(hf:∀x,x<n->f x=Ft x):∀{old:Hp},kM B n old->fI B f old=old
 | [],_=>rfl
 | (id,o)::r,h=>by
  rw[fI,nY h.1,yq,akw hf h.2.1,Mv hf h.2.2]
def akx{B s x:Nat}(h:B+s<=x):jn x (xJ B s)=ydi:=by
 induction s generalizing B with
 | zero=>rfl
 | succ s ih=>rw[vO,jn,jg (by lia),yO,ih (by lia)]
def MO{hp:Hp}{B R:Nat}(lR:∀i,i<R->∃rw ex sz cs,ai hp (B+i)=Ft (.cells rw ydh ex sz cs)):
  ∀(W:List Nat) (bi s:Nat),W.length<bi->s<=R->W.filter (fun x=> !yI x B)=xJ (B+s) (R-s)->reach hp B bi W (xJ B s)=xJ B R
 | [],0,s,hf,_,_=>by simp at hf
 | [],bi+1,s,hf,hs,h=>by
  have:R-s=0:=by
   grind
  rw[reach,show R=s by lia]
 | id::W,0,s,hf,_,_=>by simp at hf
 | id::W,bi+1,s,hf,hs,h=>by
  have nt:W.length<bi:=by simp_all
  rw[reach];by_cases hid:id<B
  .rw [nY hid,Bool.true_or,yq];rw[ybC,nY hid] at h;exact MO lR W bi s nt hs (by simpa using h)
  .rw [ybC,rZ (by lia)] at h;have hRs:R-s=(R-s-1)+1:=by
    have:=congrArg wu h
    grind
   rw[hRs,vO] at h;injection h with h1 h2
   subst h1;rw[rZ (by lia),ybn,akx (yu _),yO];have⟨rw,ex,sz,cs,ho⟩:=lR s (by lia);simp only[ho,iW,yq,yM];have e:xJ B s++[B+s]=xJ B (s+1):=by rw[List.range'_concat];simp
   rw[e];exact MO lR W bi (s+1) nt (by lia) (by rw[h2,show R-s-1=R-(s+1) by lia,show B+s+1=B+(s+1) by lia])
def aky{B s i k:Nat}(h:i<s):gV (B+i) (xJ B s) k=Ft (k+i):=by
 induction s generalizing B i k with
 | zero=>lia
 | succ s ih=>
  rw[vO,gV];by_cases hi:i=0
  .simp_all
  .rw [jg (by lia),yO]
   have:=ih (B:=B+1) (i:=i-1) (k:=k+1) (by lia)
   grind
def Yo{B R x:Nat}(h:x<B+R):gB B (xJ B R) x=Ft x:=by
 unfold gB;by_cases hx:x<B
 .rw [nY hx,yq]
 .rw [rZ (by lia),yO]
  have:=aky (B:=B) (s:=R) (i:=x-B) (k:=B) (by lia)
  grind
def Rz{hp:Hp}{f:Nat->Option Nat}:∀(ro:List (List AV)) (B:Nat) (acc:Hp),(∀i (h:i<ro.length),ai hp (B+i)=Ft (.cells ydh ydh ydh 1 ro[i]))->ew hp f (xJ B ro.length) B acc=Ep B ro acc
 | [],B,acc,_=>rfl
 | c::r,B,acc,h=>by
  have h0:=h 0 (by simp);simp only[yW,List.getElem_cons_zero] at h0;rw[yy,vO,ew];simp only[h0,gE,yq,Ep]
  exact Rz r (B+1) _ (fun i hi=>by
   have:=h (i+1) (by simpa using hi)
   rw[show B+1+i=B+(i+1) by lia,this]
   simp)
def ajl{live:List Nat}{tm:Env}{B ct:Nat}{old:Hp}{rs:List (List AV)}(ht:kL B (bE tm live))(ho:kM B (B+rs.length) old)(hl:(dL (bE tm live)).length+(cI B old).length<100000)(hr:(cI B old).filter (fun x=> !yI x B)=xJ B rs.length):br live ⟨tm,fZ B rs++old,ct,B⟩=⟨bE tm live,fZ B rs++old,B+rs.length,B⟩:=by
 have lR:∀i (h:i<rs.length),ai (fZ B rs++old) (B+i)=Ft (.cells ydh ydh ydh 1 (rs.reverse[i]'(by simpa using h))):=fun i h=>R2 h
 have Og:reach (fZ B rs++old) B 100000 (dL (bE tm live)++cI B (fZ B rs++old)) []=xJ B rs.length:=by
  have:=MO (hp:=fZ B rs++old) (B:=B) (R:=rs.length) (fun i hi=>⟨_,_,_,_,lR i hi⟩) (dL (bE tm live)++cI B (fZ B rs++old)) 100000 0 (by rw[IF,yJ];exact hl) (uN _) (by
   rw[List.filter_append,IF,hr,tU.2 (fun x hx=>by
    have:=Mu ht x hx
    simp[nY this])]
   simp)
  grind
 have hid:∀x,x<B+rs.length->gB B (xJ B rs.length) x=Ft x:=fun x hx=>Yo hx
 have hn:=Rz (hp:=fZ B rs++old) (f:=gB B (xJ B rs.length)) rs.reverse B old (fun i hi=>lR i (by simpa using hi));rw[ybg] at hn;simp only[br,Og,Ry,Mv hid ho,hn,R1,List.length_range']
 rw[MN (n:=B) (fun x hx=>hid x (by lia)) ht]
def MP{B b n:Nat}(hb:b<=B):∀{H:Hp},kM b n H->∀x,x∈cI B H->x<n
 | [],_,x,hx=>by simp[cI] at hx
 | (id,o)::r,h,x,hx=>by
  rw[cI,nY (by have:=h.1;lia),yq,xH] at hx
  exact hx.elim (ajP h.2.1 x) (MP hb h.2.2 x)
def Mw{live:List Nat}{tm:Env}{B ct:Nat}{old:Hp}(ht:kL B (bE tm live))(ho:kM B B old)(hl:(dL (bE tm live)).length+(cI B old).length<100000):
  br live ⟨tm,old,ct,B⟩=⟨bE tm live,old,B,B⟩:=by
 have:=ajl (rs:=[]) (ct:=ct) ht (by simpa using ho) hl (by
  rw[tU.2 (fun x hx=>by have:=MP (yu B) ho x hx;simp[nY this])]
  rfl)
 simpa[fZ] using this
section
variable {hp:Hp}{ps:List Nat}{ct:Nat}
def FQ{n:Nat}{F:aC}(h:Has P L n F){aq:List AV}{ex:Ex}{s:St}{v:AV}(hD:D P L F.body ⟨fg 0 aq,hp,ct,ct⟩=Ft (ex,s))(he:ex=.normal\/ex=.ret)(hr:jc s F.eb=Ft v):
  iv P L (D P L) hp ct n aq=Ft (v,s.hp,s.ct):=by
 simp only[iv,h.heap,h.code,hD]
 grind
def AG{l:Nat}{xs:List AV}{tm tm' gh kU:Env}{pM rh:List Nat}{a b a1 b1 a2 b2:VC}{pe nm P4:sf}{s1 s2:St}(h1:ai hp l=Ft (.lp tm ps a b 0 pe))(h2:qC tm ps xs=Ft tm')(h3:D P L a ⟨tm',hp,ct,ct⟩=Ft (.normal,s1))(h4:ai s1.hp l=Ft (.lp gh pM a1 b1 0 nm))(h5:D P L b ⟨s1.tm,aU s1.hp l (.lp gh pM a1 b1 1 nm),s1.ct,s1.ct⟩=Ft (.normal,s2))(h6:ai s2.hp l=Ft (.lp kU rh a2 b2 1 P4)):
  fV (D P L) hp ct l xs=Ft (.bool ydh,aU s2.hp l (.lp kU rh a2 b2 0 .none),s2.ct):=by
 simp only[fV,h1,h2,h3,h4,h5,h6]
def ad4{f:X}{as_ body:VC}{s:St}{n:Nat}{first cap:List AV}{v:AV}{tm:Env}{ps':List Nat}{a b:VC}{st:Nat}(h1:ay s.tm f=.fn (.f n) first cap)(h2:L.heap n=Fu)(h3:iv P L (D P L) ((s.ct,.lp s.tm ps as_ body 0 .none)::s.hp) (s.ct+1) n (first++(.fn (.y s.ct) [] []::cap))=Ft (v,hp,ct))(h4:ai hp s.ct=Ft (.lp tm ps' a b st .none))(h5:st≠1):D P L (.rf f ps as_ body) s=Ft (.normal,⟨s.tm,cC hp s.ct,ct,s.base⟩):=by
 rw[kQ];simp only[bt,h1,h2,h3,h4,jg h5,yO]
def aaM(z:AV):∀n,(yp n [z]).flatten=yp n z
 | 0=>rfl
 | n+1=>by rw[wO,List.flatten_cons,aaM z n,wO];rfl
mutual
def YY{n n':Nat}(h:n<=n'):∀{v:AV},below n v->below n' v
 | .int _ _,_ | .bool _,_ | .ao _ _,_ | .cW _ _ _,_ | .str _,_ | .jY,_ | .bq _,_ | .af,_ | .au _ _ _,_ | .gU,_ | .jl,_ | .jm _ _,_ | .undef,_ | .cF _ _ _ _,_=>trivial
 | .ptr _ _,k=>yE k h
 | .ap _ _ _,k=>yE k h
 | .map _,k=>yE k h
 | .it _,k=>yE k h
 | .fn (.f _) _ _,k=>⟨IL h k.1,IL h k.2⟩
 | .fn (.y _) _ _,k=>⟨yE k.1 h,k.2⟩
 | .agg cs,k=>by simp only[below] at k ⊢;exact IL h k
 | .ax cs,k=>by simp only[below] at k ⊢;exact IL h k
def IL{n n':Nat}(h:n<=n'):∀{vs:List AV},mu n vs->mu n' vs
 | [],_=>trivial
 | _::_,k=>⟨YY h k.1,IL h k.2⟩
end
def Yp{n n':Nat}(h:n<=n'):∀{tm:Env},kL n tm->kL n' tm
 | [],_=>trivial
 | (_,_)::_,k=>⟨YY h k.1,Yp h k.2⟩
mutual
def mj{n:Nat}:∀{v:AV},aW v=ydh->below n v
 | .int _ _,_ | .bool _,_ | .ao _ _,_ | .cW _ _ _,_ | .str _,_ | .jY,_ | .bq _,_ | .af,_ | .au _ _ _,_ | .gU,_ | .jl,_ | .jm _ _,_ | .undef,_=>trivial
 | .cF _ _ _ _,_=>trivial
 | .ptr _ _,h | .ap _ _ _,h | .map _,h | .it _,h=>by simp[aW] at h
 | .fn (.y _) _ _,h=>by simp[aW] at h
 | .fn (.f _) _ _,h=>by
  simp only[aW,ye] at h;exact⟨Fv h.1,Fv h.2⟩
 | .agg cs,h=>by simp only[aW] at h;simp only[below];exact Fv h
 | .ax cs,h=>by simp only[aW] at h;simp only[below];exact Fv h
def Fv{n:Nat}:∀{vs:List AV},aD vs=ydh->mu n vs
 | [],_=>trivial
 | _::_,h=>by
  simp only[aD,ye] at h;exact⟨mj h.1,Fv h.2⟩
end
end
section
variable {pre x post:List Nat}{i:Nat}
def qw:(pre++x++post).length=pre.length+x.length+post.length:=by grind
def DQ(h:i<x.length):(pre++x++post).getD (pre.length+i) 0=x.getD i 0:=by grind
def NK(a:Nat)(h:i<x.length):(pre++x++post).set (pre.length+i) a=pre++x.set i a++post:=by simp_all
end
def mU(n:Nat)(k:xd)(a:Int):below n (.int k a)=True:=rfl
def nZ(n id o k:Nat):below n (.ap id o k)=(id<n):=rfl
def mP(n:Nat):kL n []=True:=rfl
def mL(n i:Nat)(v:AV)(r:Env):kL n ((i,v)::r)=(below n v/\kL n r):=rfl
def rU{live:List Nat}{tm:Env}{ct:Nat}{a b:List AV}(ht:kL 2 (bE tm live))(hl:(dL (bE tm live)).length<100000):
  br live ⟨tm,[(1,.cells ydh ydh ydh 1 a),(0,.cells ydh ydh ydh 1 b)],ct,2⟩=⟨bE tm live,[(1,.cells ydh ydh ydh 1 a),(0,.cells ydh ydh ydh 1 b)],2,2⟩:=
 Mw ht ⟨by lia,.inl rfl,by lia,.inl rfl,trivial⟩ (by
  have:cI 2 [(1,Obj.cells ydh ydh ydh 1 a),(0,Obj.cells ydh ydh ydh 1 b)]=[]:=rfl
  rw[this,yH,yW];exact hl)
def akz{x s c:Nat}(hs:s<64)(hx:x<2^64)(hc:c<2^s):
  c|||(x*2^s%2^64)<2^64/\c<2^64/\x/2^(64-s)<2^s/\(c|||(x*2^s%2^64))+2^64*(x/2^(64-s))=x*2^s+c:=by
 have e:2^64=2^(64-s)*2^s:=by rw[<-xD,show 64-s+s=64 by lia]
 have h1:x*2^s%2^64=(x%2^(64-s))*2^s:=by rw[e,uo]
 have h2:x/2^(64-s)<2^s:=by
  refine (xK (xi _)).2 ?_
  grind
 have h3:c|||(x*2^s%2^64)=(x%2^(64-s))*2^s+c:=by rw[h1,ycR,TL hc]
 have h4:(x%2^(64-s))*2^s+c<2^64:=by
  have:=yU (2^s) (show x%2^(64-s)+1<=2^(64-s) from xu _ (xi _))
  grind
 have h5:=tg x (2^(64-s))
 grind
def at5{v:AV}{w:List Nat}(hv:bI v w)(hw:lo (2^64) w)(lw:w.length<=99999999999){s n:Nat}(hs:s<64)(hn:n=w.length+1):
  en P L [1,5,12,13,14] F7 (fun k st=>∃(i:Nat) (out:List Nat),st=⟨[(1,aa s),(5,.ap 0 0 n),(12,v),(13,aa w.length),(14,aa i)],[(0,.cells ydh ydh ydh 1 (out.map uc))],1,0⟩/\i+k=w.length/\out.length=n/\lo (2^64) out/\bv (2^64) out=bv (2^64) (w.take i)*2^s/\out.getD i 0<2^s/\(∀m,i<m->out.getD m 0=0)) (fun ex st'=>∃tm out,st'=⟨tm,[(0,.cells ydh ydh ydh 1 (out.map uc))],1,0⟩/\ex=.exit 0/\ak tm 5=.ap 0 0 n/\out.length=n/\lo (2^64) out/\bv (2^64) out=bv (2^64) w*2^s):=by
 apply eB;rintro k st ⟨i,out,rfl,hk,hlen,bc,aO,hc,gP⟩;by_cases hi:i<w.length
 .left
  have gx:=iy (show 0<2^64 by decide) hw i;have ex:=hv.bh hi;have ec:=AW (l:=out) (o:=i) (by lia);have aU:=oY (b:=2^64) (l:=out) (i:=i) (x:=out.getD i 0|||(w.getD i 0*2^s%2^64)) (by lia);have hz:out.getD (i+1) 0=0:=gP _ (by lia);have eQ:=jU (b:=2^64) (l:=w) i;generalize out.getD i 0=c at*
  generalize w.getD i 0=x at*
  have⟨s1,s2,s3,s4⟩:=akz hs gx hc;have o1:=KT .i64 x (s:=s) (by lia);have o2:=W1 s2 (xu (x*2^s) (by decide));have o3:binOp .sub (.int .i64 64) (aa s)=Ft (aa (64-s:Nat)):=by
   rw[NE,wrap64 (by lia) (by lia)];congr 2;lia
  have o4:=KU .i64 x (s:=64-s) (by lia);generalize ki:c|||(x*2^s%2^64)=c' at*
  by_cases h0:0<s
  .have Oz:=oY (b:=2^64) (l:=out.set i c') (i:=i+1) (x:=x/2^(64-s)) (by simp;lia)
   rw[qv (by lia),hz,xB,yW] at Oz;have aye:x/2^(64-s)<2^64:=wC (vB _ _) gx;generalize x/2^(64-s)=y at*
   simp only[go_sem,ya,yk,F7,show (i:Int)<w.length by lia,ex,cA 0 0 (show i<n by lia),yd,ec,o1,o2,lz (l:=out) (o:=i) (by lia),show (0:Int)<(s:Int) by lia,show (i:Int)+1=((i+1:Nat):Int) from rfl,wrapN (n:=i+1) (by lia),o3,o4,cA 0 0 (show i+1<n by lia),lz (l:=out.set i c') (o:=i+1) (by simp;lia)]
   refine⟨_,k-1,rfl,by lia,i+1,(out.set i c').set (i+1) y,by simp only[go_sem,ya,yc,aA,aE hv.pu]<;>rfl,by lia,by simp[hlen],mT (mT bc s1) aye,?_,by rw[akd (by simp;lia)];exact s3,fun m hm=>by rw[qv (by lia),qv (by lia)];exact gP m (by lia)⟩
   rw[eQ,xP,Oz,<-aO,zV,xe,xe ((2^64)^i)];have e:=congrArg (fun t=>(2^64)^i*t) s4;simp only[xC] at e;generalize (2^64)^i*(2^64*y)=p1 at*
   generalize (2^64)^i*(x*2^s)=p2 at*
   generalize (2^64)^i*c'=p3 at*
   lia
  .have Bq:s=0:=by lia
   subst Bq;have jO:c=0:=by simpa using hc
   have BC:x/2^(64-0)=0:=xU gx;rw[BC,xB,yW,uG,yk] at s4
   simp only[go_sem,ya,yk,F7,show (i:Int)<w.length by lia,ex,cA 0 0 (show i<n by lia),yd,ec,o1,o2,lz (l:=out) (o:=i) (by lia),show ¬(0:Int)<((0:Nat):Int) by lia,show (i:Int)+1=((i+1:Nat):Int) from rfl,wrapN (n:=i+1) (by lia)];refine⟨_,k-1,rfl,by lia,i+1,out.set i c',by simp only[go_sem,ya,yc,aA,aE hv.pu]<;>rfl,by lia,by simp[hlen],mT bc s1,?_,by rw[qv (by lia),hz];exact xi _,fun m hm=>by rw[qv (by lia)];exact gP m (by lia)⟩
   rw[uG,yk] at aO ⊢;rw[eQ,<-aO];rw[jO,xB,yW] at aU;rw[aU,s4,jO,yW]
 .right
  have:i=w.length:=by lia
  subst this;rw[xN] at aO;simp only[go_sem,ya,F7,show ¬(w.length:Int)<w.length by lia];exact⟨_,_,rfl,by simp,_,out,rfl,rfl,rfl,hlen,bc,aO⟩
def afq(h:Has P L 168 O0){v:AV}{w:List Nat}(hv:bI v w)(hw:lo (2^64) w)(lw:w.length<=99999999999){s:Nat}(hs:s<64):
  ∃out,ah P L 168 [v,aa s] (.cF ydh 1 (w.length+1) (out.map uc))/\out.length=w.length+1/\lo (2^64) out/\bv (2^64) out=bv (2^64) w*2^s:=by
 obtain⟨n,hn⟩:∃n,n=w.length+1:=⟨_,rfl⟩;unfold ah;rw[aJ h]
 simp only[go_sem,ya,yc,O0,hv.len,wrapN (n:=n) (by lia),show (w.length:Int)+1=((w.length+1:Nat):Int) from rfl,<-hn,EG (n:=n) _ (by lia)];generalize hq:D P L (.loop _ F7) _=q;obtain⟨ex,st,rfl,tm,o,rfl,rfl,t5,hlen,bc,aO⟩:=bN hq (at5 (P:=P) (L:=L) hv hw lw hs hn w.length)
  ⟨0,yp n 0,by simp only[go_sem,ya,yc,aA,aE hv.pu]<;>rfl,by lia,by simp,Gf (by decide) n,by rw[Gg];simp[bv],by rw[DP];exact xi _,fun m _=>DP n m⟩
 refine⟨o,?_,hlen,bc,aO⟩;simp only[go_sem,yc,aA,t5];exact Rw (jB _ _ _) (by simp[hlen]) (by decide)
abbrev H2(a b:List Nat):Hp:=[(1,.cells ydh ydh ydh 1 (a.map uc)),(0,.cells ydh ydh ydh 1 (b.map uc))]
structure iG(x vs:List Nat)(n v1 v2 u0 u1 u2:Nat):Prop where
 n2:2<=n
 nb:n<=99999999999
 lx:x.length=n+1
 lv:vs.length=n
 gx:lo (2^64) x
 gv:lo (2^64) vs
 eS:vs.getD (n-1) 0=v1
 dE:vs.getD (n-2) 0=v2
 h0:x.getD n 0=u0
 h1:x.getD (n-1) 0=u1
 h2:x.getD (n-2) 0=u2
 pos:0<v1
 lt:bv (2^64) x<2^64*bv (2^64) vs
def awA(b p a v1 v2:Nat):a+p*v2+p*b*v1=(v1*b+v2)*p+a:=by grind
def awB(b p a v0 v1 v2:Nat):a+p*v2+p*b*v1+p*b*b*v0=((v0*b+v1)*b+v2)*p+a:=by grind
section
variable {x vs:List Nat}{n v1 v2 u0 u1 u2:Nat}
def iG.LP(h:iG x vs n v1 v2 u0 u1 u2):v1<2^64:=h.eS▸iy (by decide) h.gv _
def iG.Fa(h:iG x vs n v1 v2 u0 u1 u2):v2<2^64:=h.dE▸iy (by decide) h.gv _
def iG.LQ(h:iG x vs n v1 v2 u0 u1 u2):u1<2^64:=h.h1▸iy (by decide) h.gx _
def iG.LR(h:iG x vs n v1 v2 u0 u1 u2):u2<2^64:=h.h2▸iy (by decide) h.gx _
def iG.parts(h:iG x vs n v1 v2 u0 u1 u2):∃p vr ur,bv (2^64) vs=(v1*2^64+v2)*p+vr/\vr<p/\bv (2^64) x=((u0*2^64+u1)*2^64+u2)*p+ur/\ur<p:=by
 obtain⟨m,hm⟩:∃m,n=m+2:=⟨n-2,by have:=h.n2;lia⟩
 subst hm;have e1:=jU (b:=2^64) (l:=vs) (m+1);have e2:=jU (b:=2^64) (l:=vs) m;have f0:=jU (b:=2^64) (l:=x) (m+2);have f1:=jU (b:=2^64) (l:=x) (m+1);have f2:=jU (b:=2^64) (l:=x) m;have eS:vs.getD (m+1) 0=v1:=h.eS;have dE:vs.getD m 0=v2:=h.dE;have h0:x.getD (m+2) 0=u0:=h.h0;have h1:x.getD (m+1) 0=u1:=h.h1;have h2:x.getD m 0=u2:=h.h2
 rw[yG (by have:=h.lv;lia),eS,e2,dE] at e1
 rw[yG (by have:=h.lx;lia),h0,f1,h1,f2,h2] at f0
 have g1:=mX (B2 h.gv m)
 rw[yQ,xj (by have:=h.lv;lia)] at g1
 have g2:=mX (B2 h.gx m)
 rw[yQ,xj (by have:=h.lx;lia)] at g2
 refine⟨(2^64)^m,_,_,?_,g1,?_,g2⟩
 .grind
 .grind
def iG.down(h:iG x vs n v1 v2 u0 u1 u2){t r:Nat}(ht:t*v1+r=u0*2^64+u1)(hr:r*2^64+u2<t*v2):bv (2^64) x/bv (2^64) vs<=t-1:=by
 have⟨p,vr,ur,h1,h2,h3,h4⟩:=h.parts;exact YQ h1 h3 h4 ht hr
def iG.stop(h:iG x vs n v1 v2 u0 u1 u2){t r:Nat}(ll:t<2^64)(ht:t*v1+r=u0*2^64+u1)(hr:2^64<=r\/t*v2<=r*2^64+u2):t<=bv (2^64) x/bv (2^64) vs+1:=by
 have⟨p,vr,ur,h1,h2,h3,h4⟩:=h.parts;exact ZF (by decide) h1 h2 h3 h.pos h.Fa ll ht hr
def iG.first(h:iG x vs n v1 v2 u0 u1 u2):bv (2^64) x/bv (2^64) vs<=(u0*2^64+u1)/v1:=by
 have⟨p,vr,ur,h1,h2,h3,h4⟩:=h.parts;exact Q9 h1 h3 h4 h.LR h.pos
def iG.top(h:iG x vs n v1 v2 u0 u1 u2):u0<=v1:=by
 have⟨p,vr,ur,h1,h2,h3,h4⟩:=h.parts;exact ZG h1 h3 h2 h.Fa h.lt
def iG.digit(h:iG x vs n v1 v2 u0 u1 u2):bv (2^64) x/bv (2^64) vs<2^64:=by
 refine (xK ?_).2 h.lt;rcases xq (bv (2^64) vs) with h0 | h0
 .have:=h.lt;rw[h0] at this;simp at this
 .exact h0
end
def acG(nj:L.pure 143=Ft zA)(gX:L.pure 171=Ft oW){w:AV}{x vs pre post qs:List Nat}(hw:bI w vs){n v1 v2 u0 u1 u2:Nat}(hl:iG x vs n v1 v2 u0 u1 u2):
  en P L [0,1,5,6,7,8] AN (fun k s=>∃q r:Nat,s=⟨[(0,.ap 0 pre.length (n+1)),(1,w),(5,aa n),(6,uc q),(7,uc (r%2^64)),(8,uc (r/2^64))],H2 qs (pre++x++post),2,2⟩/\q*v1+r=u0*2^64+u1/\r<2*2^64/\q<2^64/\bv (2^64) x/bv (2^64) vs<=q/\q=k) (fun ex s'=>∃tm q,s'=⟨tm,H2 qs (pre++x++post),2,2⟩/\ex=.exit 0/\ak tm 0=.ap 0 pre.length (n+1)/\ak tm 1=w/\ak tm 5=aa n/\ak tm 6=uc q/\q<2^64/\bv (2^64) x/bv (2^64) vs<=q/\q<=bv (2^64) x/bv (2^64) vs+1):=by
 apply eB;rintro k s ⟨q,r,rfl,hq,hr,pW,hQ,rfl⟩;have dK:=hl.n2;have rz:=hl.nb;by_cases lY:r<2^64
 .have Hl:r%2^64=r:=yF lY;have De:r/2^64=0:=xU lY;rw[Hl,De];have GM:=hl.LP;have Vl:=hl.Fa;have afr:=hl.LR;have rB:=hw.bh (i:=n-2) (by have:=hl.lv;lia)
  have eU:=hw.bh (i:=n-1) (by have:=hl.lv;lia)
  rw[hl.dE] at rB;rw[hl.eS] at eU;have Ak:=AW (l:=pre++x++post) (o:=pre.length+(n-2)) (by rw[qw];have:=hl.lx;lia)
  rw[DQ (by have:=hl.lx;lia),hl.h2] at Ak
  have f1:=N6 (P:=P) (f:=D P L) nj pW Vl;have f2:=D7 (P:=P) (f:=D P L) gX (x:=r) (y:=v1) (c:=0) lY GM (by lia);rw[show (uc 0)=AV.int .u64 0 from rfl] at f2;have fD:=xz (q*v2) (2^64);have bc:=xu (q*v2) (show 0<2^64 by decide);obtain⟨H,hH⟩:∃H,H=q*v2/2^64:=⟨_,rfl⟩;obtain⟨G,hG⟩:∃G,G=q*v2%2^64:=⟨_,rfl⟩;rw[<-hH,<-hG] at f1 fD;rw[<-hG] at bc;have BD:(n:Int)-2=((n-2:Nat):Int):=by lia
  have rC:(n:Int)-1=((n-1:Nat):Int):=by lia
  by_cases c1:H<r
  .right
   simp only[go_sem,ya,AN,H2,show ((0:Nat):Int)=0 from rfl,BD,wrapN (n:=n-2) (by lia),rB,f1,show (H:Int)<(r:Int) by lia];exact⟨_,_,rfl,by simp,_,q,rfl,rfl,rfl,rfl,rfl,rfl,pW,hQ,hl.stop pW hq (.inr (by lia))⟩
  .by_cases c2:H=r/\G<=u2
   .right
    have⟨c2,c3⟩:=c2
    simp only[go_sem,ya,AN,H2,show ((0:Nat):Int)=0 from rfl,BD,wrapN (n:=n-2) (by lia),rB,f1,show (H:Int)=(r:Int) by lia];simp only[show ¬(r:Int)<(r:Int) by lia,xb]
    simp only[go_sem,ya,yk,BD,wrapN (n:=n-2) (by lia),cA 0 pre.length (show n-2<n+1 by lia),Ak,show (G:Int)<=(u2:Int) by lia];exact⟨_,_,rfl,by simp,_,q,rfl,rfl,rfl,rfl,rfl,rfl,pW,hQ,hl.stop pW hq (.inr (by lia))⟩
   .left
    have C3:r*2^64+u2<q*v2:=by lia
    have zc:0<q:=by
     rcases xq q with h0 | h0
     .subst h0;lia
     .exact h0
    have e3:binOp .sub (uc q) (.int .u64 1)=Ft (uc (q-1)):=EH (b:=1) (by lia) (by lia);have h1:(q-1)*v1+(r+v1)=u0*2^64+u1:=by
     obtain⟨p,rfl⟩:∃p,q=p+1:=⟨q-1,by lia⟩;rw[xP,ybx] at hq;rw[vN];lia
    have Fb:=hl.down hq C3;rw[yW] at f2;by_cases c3:H=r
    .have c4:¬G<=u2:=fun h=>c2 ⟨c3,h⟩
     subst c3
     simp only[go_sem,ya,xn,yk,AN,H2,show ((0:Nat):Int)=0 from rfl,BD,rC,wrapN (n:=n-2) (by lia),wrapN (n:=n-1) (by lia),rB,eU,f1,f2,show ¬(H:Int)<(H:Int) by lia,cA 0 pre.length (show n-2<n+1 by lia),Ak,show ¬(G:Int)<=(u2:Int) by lia,e3];refine⟨_,q-1,rfl,by lia,q-1,H+v1,?_,h1,by lia,by lia,Fb,rfl⟩;rw[rU (by simp only[go_sem,ya,yB,mU,nZ,mP,mL,mj hw.pu,vQ]) (by simp only[go_sem,ya,yc,yB,ik hw.pu])];simp only[go_sem,ya]
    .simp only [go_sem,ya,xn,AN,H2,show ((0:Nat):Int)=0 from rfl,BD,rC,wrapN (n:=n-2) (by lia),wrapN (n:=n-1) (by lia),rB,eU,f1,f2,show ¬(H:Int)<(r:Int) by lia,show ¬(H:Int)=(r:Int) by lia,e3];refine⟨_,q-1,rfl,by lia,q-1,r+v1,?_,h1,by lia,by lia,Fb,rfl⟩;rw[rU (by simp only[go_sem,ya,yB,mU,nZ,mP,mL,mj hw.pu,vQ]) (by simp only[go_sem,ya,yc,yB,ik hw.pu])];simp only[go_sem,ya]
 .right
  have De:r/2^64=1:=by lia
  rw[De];simp only[go_sem,ya,AN,H2,show ((1:Nat):Int)=1 from rfl,yaI];exact⟨_,_,rfl,by simp,_,q,rfl,rfl,rfl,rfl,rfl,rfl,pW,hQ,hl.stop pW hq (.inl (by lia))⟩
def al1{b p x y z oH c bo BE ca q v X Y:Nat}(h1:q*v+c=b*ca+oH)(h2:z+oH+bo=x+b*BE)(h3:Y+q*X=y+p*(c+bo))(W:Nat)(hW:W+p*x=Y+p*z):
  W+q*(X+p*v)=y+p*b*(ca+BE):=by grind
def al2{q v c:Nat}(hq:q<2^64)(hv:v<2^64)(hc:c<2^64):
  q*v+c=2^64*(q*v/2^64+(q*v%2^64+c+0)/2^64)+(q*v%2^64+c+0)%2^64/\
  q*v/2^64+(q*v%2^64+c+0)/2^64<2^64:=by
 have h:=yS (show q<=18446744073709551615 by lia) (show v<=18446744073709551615 by lia)
 grind
def at6(nj:L.pure 143=Ft zA)(gX:L.pure 171=Ft oW)(zW:L.pure 173=Ft B8){w:AV}{x vs pre post qs:List Nat}(hw:bI w vs){n:Nat}(rz:n<=99999999999)(lv:vs.length=n)(gv:lo (2^64) vs){q:Nat}(hq:q<2^64):
  en P L [0,1,5,6,11,12,104,105] Jy (fun k s=>∃(i c bo:Nat) (y:List Nat),s=⟨[(0,.ap 0 pre.length (n+1)),(1,w),(5,aa n),(6,uc q),(11,uc bo),(12,uc c),(104,aa n),(105,aa i)],H2 qs (pre++y++post),2,2⟩/\i+k=n/\y.length=n+1/\lo (2^64) y/\c<2^64/\bo<=1/\
    bv (2^64) y+q*bv (2^64) (vs.take i)=bv (2^64) x+(2^64)^i*(c+bo)) (fun ex s'=>∃tm c bo y,s'=⟨tm,H2 qs (pre++y++post),2,2⟩/\ex=.exit 2/\ak tm 0=.ap 0 pre.length (n+1)/\ak tm 1=w/\ak tm 5=aa n/\ak tm 6=uc q/\ak tm 11=uc bo/\ak tm 12=uc c/\y.length=n+1/\lo (2^64) y/\c<2^64/\bo<=1/\
    bv (2^64) y+q*bv (2^64) vs=bv (2^64) x+(2^64)^n*(c+bo)):=by
 apply eB;rintro k s ⟨i,c,bo,y,rfl,hk,ly,gy,hc,jR,aO⟩;by_cases hi:i<n
 .left
  have dQ:(0:Nat)<2^64:=by decide
  have zd:=iy dQ gv i;have rD:=iy dQ gy i;have ev:=hw.bh (i:=i) (by lia);have ey:=AW (l:=pre++y++post) (o:=pre.length+i) (by rw[qw];lia)
  rw[DQ (by lia)] at ey;have eQ:=jU (b:=2^64) (l:=vs) i;obtain⟨a,ha⟩:∃a,a=vs.getD i 0:=⟨_,rfl⟩;obtain⟨d,hd⟩:∃d,d=y.getD i 0:=⟨_,rfl⟩;rw[<-ha] at zd ev eQ;rw[<-hd] at rD ey;have⟨m1,m2⟩:=al2 hq zd hc;have f1:=N6 (P:=P) (f:=D P L) nj hq zd;have f2:=D7 (P:=P) (f:=D P L) gX (x:=q*a%2^64) (y:=c) (c:=0) (xu _ dQ) hc (by lia);obtain⟨oH,afs⟩:∃t,t=(q*a%2^64+c+0)%2^64:=⟨_,rfl⟩;obtain⟨c1,eL⟩:∃t,t=(q*a%2^64+c+0)/2^64:=⟨_,rfl⟩;have aft:oH<2^64:=by rw[afs];exact xu _ dQ
  rw[<-afs,<-eL] at f2 m1;rw[<-eL] at m2;obtain⟨h1,iL⟩:∃t,t=q*a/2^64:=⟨_,rfl⟩;rw[<-iL] at f1 m1 m2;rw[show (uc 0)=AV.int .u64 0 from rfl] at f2;have f3:=TK (P:=P) (f:=D P L) zW rD aft jR;have mb:=Sz rD aft jR;obtain⟨z,hz⟩:∃t,t=(d+2^64*2-oH-bo)%2^64:=⟨_,rfl⟩;obtain⟨b',bH⟩:∃t,t=(if oH+bo<=d then 0 else 1):=⟨_,rfl⟩;have eE:b'<=1:=by rw[bH];split<;>lia
  have Hk:z<2^64:=by rw[hz];exact xu _ dQ
  rw[<-hz,<-bH] at f3 mb;have f4:binOp .add (uc h1) (uc c1)=Ft (uc (h1+c1)):=by
   rw[Ct,yF m2]
  have aU:=oY (b:=2^64) (l:=y) (i:=i) (x:=z) (by lia);rw[<-hd] at aU;have aT:=fun (hp:Hp) (ct:Nat)=>lz (hp:=hp) (ct:=ct) (id:=0) (v:=z) (ex:=ydh) (l:=pre++y++post) (o:=pre.length+i) (by rw[qw];lia)
  have pw:=NK (pre:=pre) (x:=y) (post:=post) (i:=i) z (by lia);simp only[go_sem,ya,yk,Jy,H2,show (i:Int)<(n:Int) by lia,ev,f1,f2,f4,cA 0 pre.length (show i<n+1 by lia),ey,f3,aT,pw];refine⟨_,k-1,rfl,by lia,i+1,h1+c1,b',y.set i z,?_,by lia,by simp[ly],mT gy Hk,m2,eE,?_⟩
  .rw [rU (by simp only[go_sem,ya,yB,mU,nZ,mP,mL,mj hw.pu,vQ]) (by simp only[go_sem,ya,yc,yB,ik hw.pu])];rw[wrap64 (by lia) (by lia)];simp only[go_sem,ya]<;>rfl
  .rw [eQ,zV];exact al1 m1 mb aO _ aU
 .right
  have:i=n:=by lia
  subst this;rw[yG (by lia)] at aO;simp only[go_sem,ya,Jy,H2,show ¬(i:Int)<(i:Int) by lia];exact⟨_,_,rfl,by simp,_,c,bo,y,rfl,rfl,rfl,rfl,rfl,rfl,rfl,rfl,ly,gy,hc,jR,aO⟩
def at7(gX:L.pure 171=Ft oW){w:AV}{y0 vs pre post qs:List Nat}(hw:bI w vs){n:Nat}(rz:n<=99999999999)(lv:vs.length=n)(gv:lo (2^64) vs){q:Nat}:
  en P L [0,1,5,6,17,156,157] Jz (fun k s=>∃(i c:Nat) (y:List Nat),s=⟨[(0,.ap 0 pre.length (n+1)),(1,w),(5,aa n),(6,uc q),(17,uc c),(156,aa n),(157,aa i)],H2 qs (pre++y++post),2,2⟩/\i+k=n/\y.length=n+1/\lo (2^64) y/\c<=1/\
    bv (2^64) y+(2^64)^i*c=bv (2^64) y0+bv (2^64) (vs.take i)) (fun ex s'=>∃tm c y,s'=⟨tm,H2 qs (pre++y++post),2,2⟩/\ex=.exit 4/\ak tm 0=.ap 0 pre.length (n+1)/\ak tm 5=aa n/\ak tm 6=uc q/\ak tm 17=uc c/\y.length=n+1/\lo (2^64) y/\c<=1/\
    bv (2^64) y+(2^64)^n*c=bv (2^64) y0+bv (2^64) vs):=by
 apply eB;rintro k s ⟨i,c,y,rfl,hk,ly,gy,hc,aO⟩;by_cases hi:i<n
 .left
  have dQ:(0:Nat)<2^64:=by decide
  have zd:=iy dQ gv i;have rD:=iy dQ gy i;have ev:=hw.bh (i:=i) (by lia);have ey:=AW (l:=pre++y++post) (o:=pre.length+i) (by rw[qw];lia)
  rw[DQ (by lia)] at ey;have eQ:=jU (b:=2^64) (l:=vs) i;obtain⟨a,ha⟩:∃a,a=vs.getD i 0:=⟨_,rfl⟩;obtain⟨d,hd⟩:∃d,d=y.getD i 0:=⟨_,rfl⟩;rw[<-ha] at zd ev eQ;rw[<-hd] at rD ey;have f1:=D7 (P:=P) (f:=D P L) gX rD zd hc;have aU:=oY (b:=2^64) (l:=y) (i:=i) (x:=(d+a+c)%2^64) (by lia);rw[<-hd] at aU;have jP:=MM ((2^64)^i) (2^64) (d+a+c);have ki:(d+a+c)/2^64<=1:=by lia
  have Hk:(d+a+c)%2^64<2^64:=xu _ dQ;generalize (d+a+c)%2^64=z at*
  generalize (d+a+c)/2^64=c' at*
  have aT:=fun (hp:Hp) (ct:Nat)=>lz (hp:=hp) (ct:=ct) (id:=0) (v:=z) (ex:=ydh) (l:=pre++y++post) (o:=pre.length+i) (by rw[qw];lia)
  have pw:=NK (pre:=pre) (x:=y) (post:=post) (i:=i) z (by lia);simp only[go_sem,ya,yk,Jz,H2,show (i:Int)<(n:Int) by lia,ev,f1,cA 0 pre.length (show i<n+1 by lia),ey,aT,pw];refine⟨_,k-1,rfl,by lia,i+1,c',y.set i z,?_,by lia,by simp[ly],mT gy Hk,ki,?_⟩
  .rw [rU (by simp only[go_sem,ya,yB,mU,nZ,mP,mL,mj hw.pu,vQ]) (by simp only[go_sem,ya,yc,yB,ik hw.pu])];rw[wrap64 (by lia) (by lia)];simp only[go_sem,ya]<;>rfl
  .rw [eQ,zV];rw[xC,xC] at jP
   lia
 .right
  have:i=n:=by lia
  subst this;rw[yG (by lia)] at aO;simp only[go_sem,ya,Jz,H2,show ¬(i:Int)<(i:Int) by lia];exact⟨_,_,rfl,by simp,_,c,y,rfl,rfl,rfl,rfl,rfl,rfl,ly,gy,hc,aO⟩
def step_end{A V q Y B bo:Nat}(hV:0<V)(h:Y+q*V=A+B*bo)(h1:A/V<=q)(h2:q<=A/V+1)(hY:Y<B)(hVB:V<=B)(jR:bo<=1):
  (bo=0->q=A/V/\Y=A%V)/\(bo=1->q=A/V+1/\Y+V=B+A%V):=by
 have fD:=xz A V;have hm:=xu A hV;generalize A/V=Q at*
 have hq:q=Q\/q=Q+1:=by lia
 constructor
 .rintro rfl;rcases hq with rfl | rfl
  .grind
  .grind
 .grind
structure Wd(P:aF)(L:Lib):Prop where
 nj:L.pure 143=Ft zA
 gX:L.pure 171=Ft oW
 zW:L.pure 173=Ft B8
 KV:L.pure 167=Ft Gn
 afu:Has P L 165 Kv
 ni:Has P L 166 Cy
 afv:Has P L 168 O0
 ayf:Has P L 169 zP
 afw:Has P L 158 GA
 ayg:Has P L 157 Ku
 afx:Has P L 159 OY
 ayh:Has P L 144 OW
 Vm:Has P L 137 Ks
def aG:VC->VC
 | .seq _ b=>b
 | c=>c
def aua(h:Wd P L){w:AV}{x vs pre post qs:List Nat}(hw:bI w vs){n v1 v2 u0 u1 u2:Nat}(hl:iG x vs n v1 v2 u0 u1 u2){q:Nat}(hq:q<2^64)(fP:bv (2^64) x/bv (2^64) vs<=q)(Df:q<=bv (2^64) x/bv (2^64) vs+1):
  ∃tm x',D P L (aG (aG (aG (aG (aG (aG zP.body)))))) ⟨[(0,.ap 0 pre.length (n+1)),(1,w),(5,aa n),(6,uc q)],H2 qs (pre++x++post),2,2⟩=Ft (.ret,⟨tm,H2 qs (pre++x'++post),2,2⟩)/\ak tm 4=uc (bv (2^64) x/bv (2^64) vs)/\x'.length=n+1/\lo (2^64) x'/\bv (2^64) x'=bv (2^64) x%bv (2^64) vs:=by
 have dK:=hl.n2;have rz:=hl.nb;have dQ:(0:Nat)<2^64:=by decide
 have hV:0<bv (2^64) vs:=by
  rcases xq (bv (2^64) vs) with h0 | h0
  .have:=hl.lt;rw[h0] at this;simp at this
  .exact h0
 have Al:below 2 w:=mj hw.pu;have LS:=mX hl.gv;rw[hl.lv] at LS;have aDQ:(2^64)^n<=(2^64)^(n+1):=xc (by decide) (by lia);have aDR:aG (aG (aG (aG (aG (aG zP.body)))))=aG (aG (aG (aG (aG (aG zP.body))))):=rfl;simp only[go_sem,ya,zP,aG,H2];generalize nD:D P L (.loop _ Jy) _=qq;obtain⟨ex,s,rfl,tm,c,bo,y,rfl,rfl,t0,t1,t5,t6,t11,t12,ly,gy,hc,jR,aO⟩:=bN nD (at6 (P:=P) (L:=L) h.nj h.gX h.zW hw rz hl.lv hl.gv hq (x:=x) (pre:=pre) (post:=post) (qs:=qs) n) ⟨0,0,0,x,by
  rw[rU (by simp only[go_sem,ya,yB,mU,nZ,mP,mL,Al,vQ]) (by simp only[go_sem,ya,yc,yB,ik hw.pu])]
  simp only[go_sem,ya]<;>rfl,by lia,hl.lx,hl.gx,dQ,by lia,by simp[bv]⟩
 have W6:=iy dQ gy n;have ey:=AW (l:=pre++y++post) (o:=pre.length+n) (by rw[qw];lia)
 rw[DQ (by lia)] at ey;obtain⟨d,hd⟩:∃d,d=y.getD n 0:=⟨_,rfl⟩;rw[<-hd] at W6 ey;have f3:=TK (P:=P) (f:=D P L) h.zW W6 hc jR;have mb:=Sz W6 hc jR;obtain⟨z,hz⟩:∃t,t=(d+2^64*2-c-bo)%2^64:=⟨_,rfl⟩;obtain⟨b',bH⟩:∃t,t=(if c+bo<=d then 0 else 1):=⟨_,rfl⟩;have eE:b'<=1:=by rw[bH];split<;>lia
 have Hk:z<2^64:=by rw[hz];exact xu _ dQ
 rw[<-hz,<-bH] at f3 mb;have aU:=oY (b:=2^64) (l:=y) (i:=n) (x:=z) (by lia);rw[<-hd] at aU;have aT:=fun (hp:Hp) (ct:Nat)=>lz (hp:=hp) (ct:=ct) (id:=0) (v:=z) (ex:=ydh) (l:=pre++y++post) (o:=pre.length+n) (by rw[qw];lia)
 have pw:=NK (pre:=pre) (x:=y) (post:=post) (i:=n) z (by lia);have Fc:lo (2^64) (y.set n z):=mT gy Hk;have Dg:(y.set n z).length=n+1:=by simp[ly]
 have hY:=mX Fc;rw[Dg] at hY;have ayi:bv (2^64) (y.set n z)+q*bv (2^64) vs=bv (2^64) x+(2^64)^(n+1)*b':=by
  have e2:=congrArg (fun t=>(2^64)^n*t) mb;rw[zV,xe];simp only[xC] at e2 aO;generalize (2^64)^n*(2^64*b')=p1 at*
  generalize (2^64)^n*z=p2 at*
  generalize (2^64)^n*d=p3 at*
  generalize (2^64)^n*c=p4 at*
  generalize (2^64)^n*bo=p5 at*
  lia
 have⟨s0,s1⟩:=step_end hV ayi fP Df hY (by lia) eE;simp only[go_sem,ya,yc,yB,yk,rU,mU,nZ,mP,mL,Al,vQ,ik hw.pu,t0,t1,t5,t6,t11,t12,cA 0 pre.length (show n<n+1 by lia),ey,f3,aT,pw];by_cases lA:b'=0
 .have ⟨e1,e2⟩:=s0 lA;simp only[go_sem,ya,show (b':Int)=0 by lia];exact⟨_,y.set n z,rfl,by rw[<-e1];simp only[go_sem],Dg,Fc,e2⟩
 .have ⟨e1,e2⟩:=s1 (by lia);simp only[go_sem,ya,show ¬(b':Int)=0 by lia];generalize EI:D P L (.loop _ Jz) _=W5;obtain⟨ex,s,rfl,kU,c2,y2,rfl,rfl,t0,t5,t6,t17,W7,Qs,CY,awC⟩:=bN EI (at7 (P:=P) (L:=L) h.gX hw rz hl.lv hl.gv (y0:=y.set n z) (pre:=pre) (post:=post) (qs:=qs) (q:=q) n) ⟨0,0,y.set n z,by
   rw[rU (by simp only[go_sem,ya,yB,mU,nZ,mP,mL,Al,vQ]) (by simp only[go_sem,ya,yc,yB,ik hw.pu])]
   simp only[go_sem,ya]<;>rfl,by lia,Dg,Fc,by lia,by simp[bv]⟩
  have ayj:=iy dQ Qs n;have W8:=AW (l:=pre++y2++post) (o:=pre.length+n) (by rw[qw];lia)
  rw[DQ (by lia)] at W8;obtain⟨d2,jy⟩:∃d,d=y2.getD n 0:=⟨_,rfl⟩;rw[<-jy] at ayj W8;have f4:=Ct d2 c2;have Oz:=oY (b:=2^64) (l:=y2) (i:=n) (x:=(d2+c2)%2^64) (by lia);rw[<-jy] at Oz;have jP:=MM ((2^64)^n) (2^64) (d2+c2);have ayk:(d2+c2)%2^64<2^64:=xu _ dQ;have W9:(d2+c2)/2^64<=1:=by lia
  generalize (d2+c2)%2^64=z2 at*
  generalize (d2+c2)/2^64=c3 at*
  have Pu:=fun (hp:Hp) (ct:Nat)=>lz (hp:=hp) (ct:=ct) (id:=0) (v:=z2) (ex:=ydh) (l:=pre++y2++post) (o:=pre.length+n) (by rw[qw];lia)
  have OA:=NK (pre:=pre) (x:=y2) (post:=post) (i:=n) z2 (by lia);have Qt:lo (2^64) (y2.set n z2):=mT Qs ayk;have LU:(y2.set n z2).length=n+1:=by simp[W7]
  have hY3:=mX Qt;rw[LU] at hY3;have zc:0<q:=by rw[e1];exact Nat.succ_pos _
  have hq3:bv (2^64) x/bv (2^64) vs=q-1:=by rw[e1,vN]
  have f5:binOp .sub (uc q) (.int .u64 1)=Ft (uc (q-1)):=EH (b:=1) (by lia) (by lia);simp only[go_sem,ya,yc,yB,yk,rU,mU,nZ,mP,mL,vQ,t0,t5,t6,t17,cA 0 pre.length (show n<n+1 by lia),W8,f4,Pu,OA,f5];refine⟨_,y2.set n z2,rfl,by rw[hq3];simp only[go_sem],LU,Qt,?_⟩;have e3:bv (2^64) (y2.set n z2)+(2^64)^(n+1)*c3=(2^64)^(n+1)+bv (2^64) x%bv (2^64) vs:=by
   rw[<-e2,<-awC,zV];rw[xC] at jP;omega
  rcases (show c3=0\/c3=1 by lia) with rfl | rfl
  .omega
  .lia
def ayl(h:Wd P L){w:AV}{x vs pre post qs:List Nat}(hw:bI w vs){n v1 v2 u0 u1 u2:Nat}(hl:iG x vs n v1 v2 u0 u1 u2):
  ∃x',iv P L (D P L) (H2 qs (pre++x++post)) 2 169 [.ap 0 pre.length (n+1),w]=Ft (uc (bv (2^64) x/bv (2^64) vs),H2 qs (pre++x'++post),2)/\x'.length=n+1/\lo (2^64) x'/\bv (2^64) x'=bv (2^64) x%bv (2^64) vs:=by
 have dK:=hl.n2;have rz:=hl.nb;have Al:below 2 w:=mj hw.pu;have rC:(n:Int)-1=((n-1:Nat):Int):=by lia
 have eU:=hw.bh (i:=n-1) (by have:=hl.lv;lia)
 rw[hl.eS] at eU;have Dh:=AW (l:=pre++x++post) (o:=pre.length+n) (by rw[qw];have:=hl.lx;lia)
 rw[DQ (by have:=hl.lx;lia),hl.h0] at Dh
 have Di:=AW (l:=pre++x++post) (o:=pre.length+(n-1)) (by rw[qw];have:=hl.lx;lia)
 rw[DQ (by have:=hl.lx;lia),hl.h1] at Di
 have GM:=hl.LP;have Pv:=hl.LQ;have pC:=hl.top;have jM:∃tm x',D P L zP.body ⟨fg 0 [.ap 0 pre.length (n+1),w],H2 qs (pre++x++post),2,2⟩=Ft (.ret,⟨tm,H2 qs (pre++x'++post),2,2⟩)/\ak tm 4=uc (bv (2^64) x/bv (2^64) vs)/\x'.length=n+1/\lo (2^64) x'/\bv (2^64) x'=bv (2^64) x%bv (2^64) vs:=by
  have behind:∀(gh:Env) (q:Nat),ak gh 0=.ap 0 pre.length (n+1)->ak gh 1=w->ak gh 5=aa n->ak gh 6=uc q->q<2^64->bv (2^64) x/bv (2^64) vs<=q->q<=bv (2^64) x/bv (2^64) vs+1->
    ∃tm x',zJ P L (zJ P L (AU 0 (Ft (Ex.exit 0,⟨gh,H2 qs (pre++x++post),2,2⟩))) (.kp [0,1,5,6])) (aG (aG (aG (aG (aG (aG zP.body))))))=Ft (.ret,⟨tm,H2 qs (pre++x'++post),2,2⟩)/\ak tm 4=uc (bv (2^64) x/bv (2^64) vs)/\x'.length=n+1/\lo (2^64) x'/\bv (2^64) x'=bv (2^64) x%bv (2^64) vs:=by
   intro gh q t0 t1 t5 t6 g1 g2 g3;have hk:bE gh [0,1,5,6]=[(0,.ap 0 pre.length (n+1)),(1,w),(5,aa n),(6,uc q)]:=by simp only[go_sem,t0,t1,t5,t6]
   rw[abN,lJ,afe,rU (by rw[hk];simp only[go_sem,yB,mU,nZ,mP,mL,Al,vQ]) (by rw[hk];simp only[go_sem,yc,yB,ik hw.pu]),lJ,hk];exact aua h hw hl g1 g2 g3
  by_cases hc:u0<v1
  .have f1:=afo h.afu h.KV (P:=P) (L:=L) hc Pv GM;have fD:=xz (u0*2^64+u1) v1;have ol:=xu (u0*2^64+u1) hl.pos;have pW:(u0*2^64+u1)/v1<2^64:=by
    refine (xK hl.pos).2 ?_
    have:=yU (2^64) (show u0+1<=v1 from hc)
    rw[xp (2^64) v1]
    lia
   have N7:=hl.first;rw[xp] at fD;generalize (u0*2^64+u1)/v1=q0 at*
   generalize (u0*2^64+u1)%v1=r0 at*
   simp only[go_sem,ya,yk,zP,H2,hw.len,hl.lv,rC,wrapN (n:=n-1) (by lia),eU,cA 0 pre.length (show n<n+1 by lia),cA 0 pre.length (show n-1<n+1 by lia),Dh,Di,show ¬(v1:Int)<=(u0:Int) by lia,f1];generalize nD:D P L (.loop _ AN) _=qq;obtain⟨ex,s,rfl,gh,q,rfl,rfl,t0,t1,t5,t6,g1,g2,g3⟩:=bN nD (acG (P:=P) (L:=L) h.nj h.gX hw hl (pre:=pre) (post:=post) (qs:=qs) q0) ⟨q0,r0,by
    rw[rU (by simp only[go_sem,ya,yB,mU,nZ,mP,mL,Al,vQ]) (by simp only[go_sem,ya,yc,yB,ik hw.pu])];rw[yF (show r0<2^64 by lia),xU (show r0<2^64 by lia)]
    simp only[go_sem,ya]<;>rfl,fD,by lia,pW,N7,rfl⟩
   exact behind gh q t0 t1 t5 t6 g1 g2 g3
  .have lh:u0=v1:=by lia
   have f1:=D7 (P:=P) (f:=D P L) h.gX Pv GM (c:=0) (by lia);rw[yW,show (uc 0)=AV.int .u64 0 from rfl] at f1;have Pw:=hl.digit
   simp only[go_sem,ya,yk,zP,H2,hw.len,hl.lv,rC,wrapN (n:=n-1) (by lia),eU,cA 0 pre.length (show n<n+1 by lia),cA 0 pre.length (show n-1<n+1 by lia),Dh,Di,show (v1:Int)<=(u0:Int) by lia,f1];generalize nD:D P L (.loop _ AN) _=qq;obtain⟨ex,s,rfl,gh,q,rfl,rfl,t0,t1,t5,t6,g1,g2,g3⟩:=bN nD (acG (P:=P) (L:=L) h.nj h.gX hw hl (pre:=pre) (post:=post) (qs:=qs) 18446744073709551615) ⟨18446744073709551615,u1+v1,by
    rw[rU (by simp only[go_sem,ya,yB,mU,nZ,mP,mL,Al,vQ]) (by simp only[go_sem,ya,yc,yB,ik hw.pu])]
    simp only[go_sem,ya]<;>rfl,by rw[lh];lia,by lia,by decide,by lia,rfl⟩
   exact behind gh q t0 t1 t5 t6 g1 g2 g3
 have⟨tm,x',g1,g2,g3,g4,g5⟩:=jM;refine⟨x',?_,g3,g4,g5⟩;exact FQ h.ayf g1 (.inr rfl) (by show jc _ [RV.t 4]=_;rw[Ve,Uv,g2])
def WN(v:AV)(m:Nat):Prop:=∃l,bI v l/\lo (2^64) l/\ie l/\bv (2^64) l=m
def an9(i:Nat)(q:List Nat)(x:Nat):(yp (i+1) 0++q).set i x=yp i 0++x::q:=by
 rw[List.replicate_succ',xx]
 simp_all
def NL{b:Nat}{l:List Nat}{i:Nat}(h:i<l.length):bv b (l.drop i)=l.getD i 0+b*bv b (l.drop (i+1)):=by
 rw[yR h,gd h];rfl
def TN{v w:AV}{x y:List Nat}(hv:bI v x)(hw:bI w y)(hp:Hp):result hp (.ax [v,w])=Ft (.ax [v,w]):=by
 rcases hv with ⟨rfl,_⟩ | ⟨e,rfl⟩<;>rcases hw with ⟨rfl,_⟩ | ⟨e',rfl⟩<;>rfl
def aqn{hp:Hp}{id n l h:Nat}{pu ex:Bool}{cs:List AV}{tm:Env}{x y:X}(hg:ai hp id=Ft (.cells ydh pu ex 1 cs))(hx:cP tm 0 (Ft x)=Ft l)(hy:cP tm n (Ft y)=Ft h)(h1:l<h)(h2:h<=n):
  fj hp (.sl 1) (.ap id 0 n) tm (Ft x) (Ft y)=Ft (.ap id l (h-l)):=by
 simp only[fj,hg,hx,hy,yt (uL h1),yt h2,wV,vm,yq,jg (Nat.ne_of_lt h1),uP,yO,yd,yk]
def aaN{hp:Hp}{id n h:Nat}{pu ex:Bool}{cs:List AV}{tm:Env}{y:X}(hg:ai hp id=Ft (.cells ydh pu ex 1 cs))(hy:cP tm n (Ft y)=Ft h)(h1:0<h)(h2:h<=n):
  fj hp (.sl 1) (.ap id 0 n) tm Fu (Ft y)=Ft (.ap id 0 h):=by
 have hx:cP tm 0 Fu=Ft 0:=rfl;simp only[fj,hg,hx,hy,yt (uN h),yt h2,wV,vm,yq,jg (show (0:Nat)≠h by lia),uP,yO,vh,yW,ycB]
def ad5(P:aF)(L:Lib)(f:cd)(hp:Hp)(ct n:Nat)(xs:List AV):er P L f hp ct .heap (.fn (.f n) [] []) xs=iv P L f hp ct n xs:=by
 simp only[er,yM,wq]
def aub(h:Wd P L){v w:AV}{x:List Nat}(hv:bI v x)(hx:lo (2^64) x)(lx:x.length<=99999999999){d:Nat}(hw:bI w [d])(gQ:0<d)(Xa:d<2^64){n:Nat}(hn:n=x.length):
  en P L [0,1,6,7,8] Ju (fun k s=>∃(i r:Nat) (q:List Nat),s=⟨[(0,v),(1,w),(6,.ap 0 0 n),(7,uc r),(8,aa ((i:Int)-1))],[(0,.cells ydh ydh ydh 1 ((yp i 0++q).map uc))],1,0⟩/\i=k/\i+q.length=n/\lo (2^64) q/\r<d/\bv (2^64) (x.drop i)=bv (2^64) q*d+r) (fun ex s'=>∃tm r q,s'=⟨tm,[(0,.cells ydh ydh ydh 1 (q.map uc))],1,0⟩/\ex=.exit 0/\ak tm 6=.ap 0 0 n/\ak tm 7=uc r/\q.length=n/\lo (2^64) q/\r<d/\bv (2^64) x=bv (2^64) q*d+r):=by
 apply eB;rintro k s ⟨i,r,q,rfl,rfl,hlen,bc,hr,aO⟩
 cases i with
 | zero=>
  right
  simp only[go_sem,ya,Ju,show ¬(0:Int)<=((0:Nat):Int)-1 by lia];exact⟨_,_,rfl,by simp,_,r,q,rfl,rfl,rfl,rfl,by lia,bc,hr,by simpa using aO⟩
 | succ i=>
  left
  have gx:=iy (show 0<2^64 by decide) hx i;have e1:=hv.bh (i:=i) (by lia);have e2:=hw.bh (i:=0) (by simp);have jQ:=NL (b:=2^64) (l:=x) (i:=i) (by lia);rw[show ([d]:List Nat).getD 0 0=d from rfl] at e2;generalize x.getD i 0=a at*
  have e3:=afo (P:=P) (L:=L) h.afu h.KV hr gx Xa;have fD:=xz (r*2^64+a) d;have ol:=xu (r*2^64+a) gQ;have pW:(r*2^64+a)/d<2^64:=by
   refine (xK gQ).2 ?_
   lia
  generalize (r*2^64+a)/d=q1 at*
  generalize (r*2^64+a)%d=r1 at*
  have aT:=fun (hp:Hp) (ct:Nat)=>lz (hp:=hp) (ct:=ct) (id:=0) (v:=q1) (ex:=ydh) (l:=yp (i+1) 0++q) (o:=i) (by simp;lia)
  simp only[go_sem,ya,yk,Ju,show ((i+1:Nat):Int)-1=(i:Int) by lia,show (0:Int)<=(i:Int) by lia,e1,e2,e3,cA 0 0 (show i<n by lia),yd,aT,an9];refine⟨_,i,rfl,by lia,i,r1,q1::q,?_,rfl,by simp;lia,M2.2 ⟨Ge.2 pW,bc⟩,ol,?_⟩
  .rw [wrap64 (by lia) (by lia)];simp only[go_sem,ya,yc,aA,aE hv.pu,aE hw.pu]<;>rfl
  .rw [jQ,aO];simp only[bv];rw[xP,xC,<-xe (2^64)];rw[xp d q1] at fD
   lia
def al3{s u u1:Nat}(hs:s<64)(hu:u<2^64):u/2^s<2^64/\(0<s->u/2^s|||(u1*2^(64-s)%2^64)<2^64)/\
  (if 0<s then (u/2^s|||(u1*2^(64-s)%2^64)) else u/2^s)*2^s+u%2^s=u+2^64*(u1%2^s):=by
 have e:2^64=2^s*2^(64-s):=by rw[<-xD,show s+(64-s)=64 by lia]
 have h1:u1*2^(64-s)%2^64=(u1%2^s)*2^(64-s):=by rw[e,uo]
 have hp:=xi s;have h2:u/2^s<2^(64-s):=by
  refine (xK hp).2 ?_
  grind
 have h3:u/2^s|||(u1*2^(64-s)%2^64)=(u1%2^s)*2^(64-s)+u/2^s:=by rw[h1,ycR,TL h2]
 have h4:(u1%2^s)*2^(64-s)+u/2^s<2^64:=by
  have:=yU (2^(64-s)) (show u1%2^s+1<=2^s from xu _ hp)
  grind
 have h5:=tg u (2^s)
 grind
def auc{us qs:List Nat}{n la m s:Nat}(hs:s<64)(lu:us.length=la)(gu:lo (2^64) us)(hn:n<la)(LV:la<=100000000000):
  en P L [9,11,12,13,96,97] F3 (fun k st=>∃(i:Nat) (rs:List Nat),st=⟨[(9,aa s),(11,.ap 0 0 la),(12,aa n),(13,.ap 1 0 m),(96,aa n),(97,aa i)],H2 qs (rs++us.drop i),2,0⟩/\i+k=n/\rs.length=i/\lo (2^64) rs/\bv (2^64) rs*2^s+us.getD 0 0%2^s=bv (2^64) (us.take i)+(2^64)^i*(us.getD i 0%2^s)) (fun ex st'=>∃tm rs,st'=⟨tm,H2 qs (rs++us.drop n),2,0⟩/\ex=.exit 4/\ak tm 11=.ap 0 0 la/\ak tm 12=aa n/\ak tm 13=.ap 1 0 m/\rs.length=n/\lo (2^64) rs/\bv (2^64) rs*2^s+us.getD 0 0%2^s=bv (2^64) (us.take n)+(2^64)^n*(us.getD n 0%2^s)):=by
 apply eB;rintro k st ⟨i,rs,rfl,hk,lr,gr,aO⟩;by_cases hi:i<n
 .left
  have dQ:(0:Nat)<2^64:=by decide
  have g0:=iy dQ gu i;have g1:=iy dQ gu (i+1);have d0:us.drop i=us.getD i 0::us.getD (i+1) 0::us.drop (i+2):=by
   rw[yR (show i<us.length by lia),yR (show i+1<us.length by lia),gd,gd]
  have eQ:=jU (b:=2^64) (l:=us) i;have iD:∀r,r<2^64->r*2^s+us.getD i 0%2^s=us.getD i 0+2^64*(us.getD (i+1) 0%2^s)->lo (2^64) (rs++[r])/\bv (2^64) (rs++[r])*2^s+us.getD 0 0%2^s=bv (2^64) (us.take (i+1))+(2^64)^(i+1)*(us.getD (i+1) 0%2^s):=fun r h1 h2=>by
   refine⟨M2.2 ⟨gr,Ge.2 h1⟩,?_⟩;rw[zn,Cc,lr,eQ,xP,zV,xe,xe];have e2:=congrArg (fun t=>(2^64)^i*t) h2;simp only[xC] at e2;generalize (2^64)^i*(r*2^s)=p1 at*
   generalize (2^64)^i*(us.getD i 0%2^s)=p2 at*
   generalize (2^64)^i*us.getD i 0=p3 at*
   generalize (2^64)^i*(2^64*(us.getD (i+1) 0%2^s))=p4 at*
   lia
  have Vn:us.drop (i+1)=us.getD (i+1) 0::us.drop (i+2):=by
   rw[yR (show i+1<us.length by lia),gd]
  generalize us.getD i 0=a at*
  obtain⟨c,hc⟩:∃c,c=us.getD (i+1) 0:=⟨_,rfl⟩;rw[<-hc] at g1 d0 Vn iD;generalize us.drop (i+2)=dr at*
  rw[d0];have⟨n1,n2,n3⟩:=al3 (u1:=c) hs g0;have o1:=KU .i64 a (s:=s) (by lia);have o2:=KT .i64 c (s:=64-s) (by lia);have o3:binOp .sub (.int .i64 64) (aa s)=Ft (aa (64-s:Nat)):=by
   rw[NE,wrap64 (by lia) (by lia)];congr 2;lia
  have o4:=W1 n1 (xu (c*2^(64-s)) dQ);have sa:∀z y,(rs++z::y).set i a=rs++a::y:=fun z y=>by rw[yaU _ _ (by lia),lr];simp
  have e0:∀z y,uk i ((rs++z::y).map uc)=uc z::y.map uc:=fun z y=>by
   rw[xA,tu (by simp[lr])];rfl
  have e1:∀z y u,uk (i+1) ((rs++z::y::u).map uc)=uc y::u.map uc:=fun z y u=>by
   rw[show rs++z::y::u=(rs++[z])++y::u by simp,xA,tu (by simp[lr])];rfl
  have C5:∀(hp:Hp) (ct x z:Nat) (y:List Nat),gm hp ct 0 i 1 [.int .u64 (x:Int)] (Ft (.cells ydh ydh ydh 1 ((rs++z::y).map uc)))=Ft (.ax [],aU hp 0 (.cells ydh ydh ydh 1 ((rs++x::y).map uc)),ct):=fun hp ct x z y=>by
   rw[lz (by simp;lia),yaU _ _ (by lia),lr];simp
  by_cases h0:0<s
  .rw [yP h0] at n3;have⟨f1,f2⟩:=iD _ (n2 h0) n3;generalize a/2^s=a1 at*
   generalize a1|||(c*2^(64-s)%2^64)=r at*
   simp only[go_sem,ya,yk,F3,H2,show (i:Int)<(n:Int) by lia,cA 0 0 (show i<la by lia),yd,e0,o1,C5,show (0:Int)<(s:Int) by lia,show (i:Int)+1=((i+1:Nat):Int) from rfl,wrapN (n:=i+1) (by lia),show ((i+1:Nat):Int)<(la:Int) by lia,cA 0 0 (show i+1<la by lia),e1,o3,o2,o4];refine⟨_,k-1,rfl,by lia,i+1,rs++[r],by simp only[go_sem,ya,yc,aA];rw[Vn];simp,by lia,by simp[lr],f1,by rw[<-hc];exact f2⟩
  .rw [yz h0] at n3;have⟨f1,f2⟩:=iD _ n1 n3;generalize a/2^s=a1 at*
   simp only[go_sem,ya,yk,F3,H2,show (i:Int)<(n:Int) by lia,cA 0 0 (show i<la by lia),yd,e0,o1,C5,show ¬(0:Int)<(s:Int) by lia,show (i:Int)+1=((i+1:Nat):Int) from rfl,wrapN (n:=i+1) (by lia)];refine⟨_,k-1,rfl,by lia,i+1,rs++[a1],by simp only[go_sem,ya,yc,aA];rw[Vn];simp,by lia,by simp[lr],f1,by rw[<-hc];exact f2⟩
 .right
  have:i=n:=by lia
  subst this;simp only[go_sem,ya,F3,H2,show ¬(i:Int)<(i:Int) by lia];exact⟨_,_,rfl,by simp,_,rs,rfl,rfl,rfl,rfl,rfl,lr,gr,aO⟩
section
variable {v w:AV}{l x:List Nat}
def ZQ{b p A V bu bq0 U0 pre:Nat}(h1:bu=pre+p*A)(h2:bu+bq0*V=U0):(pre+p*(A%V))+(bq0+p*(A/V))*V=U0:=by
 have fD:=xz A V
 grind
def awD(hp:Hp)(ct:Nat)(ex:Bool)(sz n:Nat)(cs:List AV):own hp ct (.cF ex sz n cs)=(.ap ct 0 n,(ct,.cells ydh ydh ex sz cs)::hp,ct+1):=rfl
def aud(h:Wd P L){vs:List Nat}(hw:bI w vs)(gv:lo (2^64) vs){n la m:Nat}(lv:vs.length=n)(dK:2<=n)(Lr:n<=la)(LV:la<=99999999999)(hm:m=la-n+1)(eS:0<vs.getD (n-1) 0){s U0:Nat}:
  en P L [9,10,11,12,13,14] Jv (fun k st=>∃(j:Nat) (us qs:List Nat),st=⟨[(9,aa s),(10,w),(11,.ap 0 0 (la+1)),(12,aa n),(13,.ap 1 0 m),(14,aa ((j:Int)-1))],H2 qs us,2,0⟩/\j=k/\j<=m/\us.length=la+1/\qs.length=m/\lo (2^64) us/\lo (2^64) qs/\(∀i,i<j->qs.getD i 0=0)/\
    bv (2^64) us+bv (2^64) qs*bv (2^64) vs=U0/\bv (2^64) (us.drop j)<bv (2^64) vs) (fun ex st'=>∃tm us qs,st'=⟨tm,H2 qs us,2,0⟩/\ex=.exit 2/\ak tm 9=aa s/\ak tm 11=.ap 0 0 (la+1)/\ak tm 12=aa n/\ak tm 13=.ap 1 0 m/\us.length=la+1/\qs.length=m/\lo (2^64) us/\lo (2^64) qs/\
    bv (2^64) us+bv (2^64) qs*bv (2^64) vs=U0/\bv (2^64) us<bv (2^64) vs):=by
 apply eB;rintro k st ⟨j,us,qs,rfl,rfl,hj,lu,lq,gu,gq,hz,aO,pC⟩
 cases j with
 | zero=>
  right
  simp only[go_sem,ya,Jv,H2,show ¬(0:Int)<=((0:Nat):Int)-1 by lia];exact⟨_,_,rfl,by simp,_,us,qs,rfl,rfl,rfl,rfl,rfl,rfl,lu,lq,gu,gq,aO,by simpa using pC⟩
 | succ j=>
  left
  have dQ:(0:Nat)<2^64:=by decide
  obtain⟨pre,eI⟩:∃p,p=us.take j:=⟨_,rfl⟩;obtain⟨x,hx⟩:∃p,p=(us.drop j).take (n+1):=⟨_,rfl⟩;obtain⟨post,fJ⟩:∃p,p=us.drop (j+(n+1)):=⟨_,rfl⟩;have lp:pre.length=j:=by rw[eI,yQ];lia
  have lx:x.length=n+1:=by rw[hx,yQ,wD];lia
  have mV:us=pre++x++post:=by
   rw[eI,hx,fJ,<-vH,xx,wi,wi]
  have gx:lo (2^64) x:=by rw[hx];exact B2 (abK gu _) _
  have Vo:lo (2^64) pre:=by rw[eI];exact B2 gu _
  have awE:lo (2^64) post:=by rw[fJ];exact abK gu _
  have hA:bv (2^64) (us.drop j)=us.getD j 0+2^64*bv (2^64) (us.drop (j+1)):=NL (by lia);have hgj:=iy dQ gu j;have Xb:us.drop j=x++post:=by rw[fJ,hx,<-vH,wi]
  have BF:bv (2^64) (us.drop j)=bv (2^64) x+(2^64)^(n+1)*bv (2^64) post:=by rw[Xb,zn,lx]
  have LS:=mX gv;rw[lv] at LS;have aM:bv (2^64) (us.drop j)<2^64*bv (2^64) vs:=by lia
  have hp0:bv (2^64) post=0:=by
   rcases xq (bv (2^64) post) with e | e
   .exact e
   .have h1:=yY ((2^64)^(n+1)) e;rw[yk,zV] at h1;rw[zV] at BF
    lia
  rw[hp0,xB,yW] at BF;have hl:iG x vs n (vs.getD (n-1) 0) (vs.getD (n-2) 0) (x.getD n 0) (x.getD (n-1) 0) (x.getD (n-2) 0):=
   ⟨dK,by lia,lx,lv,gx,gv,rfl,rfl,rfl,rfl,rfl,eS,by rw[<-BF];exact aM⟩
  have Pw:=hl.digit;have⟨x',e1,Xc,Qu,LW⟩:=ayl h hw hl (pre:=pre) (post:=post) (qs:=qs);rw[lp,<-mV] at e1;have Xd:bv (2^64) us=bv (2^64) pre+(2^64)^j*bv (2^64) x:=by
   have:=I2 (b:=2^64) us j (by lia)
   rw[BF,<-eI] at this;exact this
  have Vp:bv (2^64) (pre++x'++post)=bv (2^64) pre+(2^64)^j*bv (2^64) x':=by
   rw[xx,zn,zn,hp0,xB,yW,lp]
  have aU:=oY (b:=2^64) (l:=qs) (i:=j) (x:=bv (2^64) x/bv (2^64) vs) (by lia);rw[hz j (by lia),xB,yW] at aU;have iD:=ZQ (b:=0) Xd aO;have aT:=fun (hp:Hp) (ct:Nat)=>lz (hp:=hp) (ct:=ct) (id:=1) (v:=bv (2^64) x/bv (2^64) vs) (ex:=ydh) (l:=qs) (o:=j) (by lia)
  have zb:0<bv (2^64) vs:=by lia
  have ol:=xu (bv (2^64) x) zb;have oh:∀tm (x y:X),cP tm 0 (Ft x)=Ft j->cP tm (la+1) (Ft y)=Ft (j+n+1)->fj (H2 qs us) (.sl 1) (.ap 0 0 (la+1)) tm (Ft x) (Ft y)=Ft (.ap 0 j (n+1)):=fun tm x y h1 h2=>by
   rw[aqn (cs:=us.map uc) (pu:=ydh) (ex:=ydh) rfl h1 h2 (by lia) (by lia),show j+n+1-j=n+1 by lia]
  simp only[go_sem,ya,yk,Jv,H2,show ((j+1:Nat):Int)-1=(j:Int) by lia,show (0:Int)<=(j:Int) by lia,show (j:Int)+(n:Int)=((j+n:Nat):Int) from rfl,wrapN (n:=j+n) (by lia),show ((j+n:Nat):Int)+1=((j+n+1:Nat):Int) from rfl,wrapN (n:=j+n+1) (by lia),oh,ep,ad5,e1,cA 1 0 (show j<m by lia),yd,aT];refine⟨_,j,rfl,by lia,j,pre++x'++post,qs.set j (bv (2^64) x/bv (2^64) vs),?_,rfl,by lia,by rw[qw,lp,Xc,fJ,wD];lia,by simp[lq],M2.2 ⟨M2.2 ⟨Vo,Qu⟩,awE⟩,mT gq Pw,fun i hi=>by rw[qv (by lia)];exact hz i (by lia),?_,?_⟩
  .rw [wrap64 (by lia) (by lia)];simp only[go_sem,ya,yc,aA,aE hw.pu]<;>rfl
  .rw [Vp,LW,aU];exact iD
  .rw [xx,tu lp,zn,hp0,xB,yW,LW];exact ol
def awF{n:Nat}(h:l.length=n+1):(2^64)^n*l.getD n 0<=bv (2^64) l:=by
 have:=jU (b:=2^64) (l:=l) n
 grind
def pD{m K:Nat}(hn:ie l)(hv:bv (2^64) l=m)(h:m<(2^64)^K):l.length<=K:=alp (b:=2^64) (by decide) hn (by rw[hv];exact h)
def aue(h:Wd P L){d:Nat}(hv:bI v x)(hw:bI w [d])(gx:lo (2^64) x)(lx:x.length<=90000000000)(gQ:0<d)(Xa:d<2^64)(ec:ah P L 158 [v,w] (aa (dN (bv (2^64) x) d)))(hc:d<=bv (2^64) x):
  ∃q r,ah P L 137 [v,w] (.ax [q,r])/\WN q (bv (2^64) x/d)/\WN r (bv (2^64) x%d):=by
 have eL:¬dN (bv (2^64) x) d<0:=by unfold dN;rw[yz (by lia)];split<;>decide
 obtain⟨n,hn⟩:∃n,n=x.length:=⟨_,rfl⟩;have main:∃r l,(∀c:Nat->AV->AV->Option AV,True)/\r<d/\l.length=n/\lo (2^64) l/\bv (2^64) x=bv (2^64) l*d+r/\
   ∃q1 r1,bI q1 (dT l)/\bI r1 (dT [r])/\ah P L 137 [v,w] (.ax [q1,r1]):=by
  unfold ah;rw[aJ h.Vm]
  simp only[go_sem,ya,Ks,hv.len,hv.aj,hw.len,hw.aj,ec,eL,yy,yH,yd,show ((1:Nat):Int)=(1:Int) from rfl,<-hn,EG (n:=n) _ (by lia)];generalize hq:D P L (.loop _ Ju) _=q;obtain⟨ex,s,rfl,tm,r,l,rfl,rfl,t6,t7,Ae,bc,hr,aO⟩:=bN hq (aub (P:=P) (L:=L) h hv gx (by lia) hw gQ Xa hn n) ⟨n,0,[],by
   rw[wrap64 (by lia) (by lia),wq]
   simp only[go_sem,ya,yc,aA,aE hv.pu,aE hw.pu]<;>rfl,rfl,rfl,N1,gQ,by rw[xf (by lia)];simp[bv]⟩
  have hf:=nQ ydh l;rw[Ae] at hf;have⟨q1,e1,fP⟩:=CF h.ni hf (by lia);have⟨r1,e2,eZ⟩:=CF h.ni (nQ ydh [r]) (by simp);simp only[yy,yH,yd,yZ,List.map_nil] at e2;refine⟨r,l,fun _=>trivial,hr,Ae,bc,aO,q1,r1,fP,eZ,?_⟩
  simp only[go_sem,ya,yc,yB,yo,yk,aA,t6,t7,CE _ (n:=n) (l:=l) Ae ydh,e1,fP.shut,e2,eZ.shut];exact TN fP eZ _
 have⟨r,l,_,hr,Ae,bc,aO,q1,r1,fP,eZ,e⟩:=main;have hq:bv (2^64) l=bv (2^64) x/d:=by
  rw[aO,xp,tZ gQ,xU hr,yW]
 have hm:r=bv (2^64) x%d:=by
  rw[aO,xp,yaa,yF hr]
 exact⟨q1,r1,e,⟨_,fP,BY bc,BX _,by rw[BW,hq]⟩,⟨_,eZ,BY (Ge.2 (by lia)),BX _,by rw[BW,Cc,hm]⟩⟩
def auf(h:Wd P L){y:List Nat}(hv:bI v x)(hw:bI w y)(gx:lo (2^64) x)(gy:lo (2^64) y)(nx:ie x)(ny:ie y)(lx:x.length<=90000000000)(ly:2<=y.length)(ec:ah P L 158 [v,w] (aa (dN (bv (2^64) x) (bv (2^64) y))))(hc:bv (2^64) y<=bv (2^64) x):
  ∃q r,ah P L 137 [v,w] (.ax [q,r])/\WN q (bv (2^64) x/bv (2^64) y)/\WN r (bv (2^64) x%bv (2^64) y):=by
 have dQ:(0:Nat)<2^64:=by decide
 have eL:¬dN (bv (2^64) x) (bv (2^64) y)<0:=by unfold dN;rw[yz (by lia)];split<;>decide
 have hyx:y.length<=x.length:=by
  by_cases hh:x.length<y.length
  .have:=ND (b:=2^64) (by decide) gx ny hh;lia
  .lia
 obtain⟨n,hn⟩:∃n,n=y.length:=⟨_,rfl⟩;obtain⟨la,LV⟩:∃la,la=x.length:=⟨_,rfl⟩;have fK:=Ni ny (fun e=>by subst e;simp at ly);have Fe:=iy dQ gy (y.length-1);have Xe:=hw.bh (i:=y.length-1) (by lia);have kF:=awF (l:=y) (n:=n-1) (by lia);rw[<-hn] at fK Fe Xe;obtain⟨top,pC⟩:∃top,y.getD (n-1) 0=top:=⟨_,rfl⟩;rw[pC] at fK Fe Xe kF;have elz:=acE (P:=P) (f:=D P L) h.KV Fe;have⟨z1,z2,z3⟩:=SA (vW fK) Fe;generalize 64-eJ 64 top=s at*
 have⟨ov,ev,lov,gov,vov⟩:=afq h.afv hw gy (by lia) z1;have⟨ou,eu,lou,gou,vou⟩:=afq h.afv hv gx (by lia) z1;have⟨v',Xf,fa⟩:=CF h.ni (nQ ydh ov) (by lia);rw[lov,<-hn] at Xf;rw[<-hn] at ev;rw[<-LV] at eu lou;have jP:=xi s;obtain⟨vs,Bt⟩:∃vs,vs=dT ov:=⟨_,rfl⟩;rw[<-Bt] at fa;have Ff:lo (2^64) vs:=by rw[Bt];exact BY gov
 have LX:ie vs:=by rw[Bt];exact BX _
 have Am:bv (2^64) vs=bv (2^64) y*2^s:=by rw[Bt,BW,vov]
 have hyW:bv (2^64) y*2^s<(2^64)^n:=by
  have e:2^64=2^(64-s)*2^s:=by rw[<-xD,show 64-s+s=64 by lia]
  have e1:=jU (b:=2^64) (l:=y) (n-1);rw[show n-1+1=n by lia,yG (by lia),pC] at e1;have e2:=mX (B2 gy (n-1));rw[yQ,xj (by lia)] at e2;have e3:top<2^(64-s):=uS (a:=2^s) (Nat.lt_of_lt_of_eq z3 e);have e4:=yU (2^s) (show top+1<=2^(64-s) from e3);rw[<-e] at e4;have e5:bv (2^64) y<(2^64)^(n-1)*(top+1):=by rw[xC,yk];lia
  have e6:=xX e5 jP;rw[xe] at e6;have e7:=yY ((2^64)^(n-1)) e4;rw[<-zV,show n-1+1=n by lia] at e7;exact yE e6 e7
 have aym:(2^64)^(n-1)*2^s<=bv (2^64) vs:=by
  rw[Am];refine yU _ (xo ?_ kF)
  have:=yY ((2^64)^(n-1)) (show 1<=top by lia)
  lia
 have BG:vs.length=n:=by
  have h1:vs.length<=n:=by
   refine pD LX Am ?_;exact hyW
  have h2:¬vs.length<n:=fun hh=>by
   have e1:=mX Ff;have e2:(2^64)^vs.length<=(2^64)^(n-1):=xc dQ (by lia);have e3:=yU (2^s) kF;rw[xe,<-Am] at e3;have e4:=yY ((2^64)^(n-1)) (show 1<=top*2^s by lia)
   lia
  lia
 have eS:0<vs.getD (n-1) 0:=by
  have:=Ni LX (fun e=>by rw[e] at BG;simp at BG;lia)
  rw[BG] at this;exact vW this
 obtain⟨m,hm⟩:∃m,m=la-n+1:=⟨_,rfl⟩;have Uy:bv (2^64) (ou.drop m)<bv (2^64) vs:=by
  have e1:=I2 (b:=2^64) ou m (by lia);have e2:=mX gx;rw[<-LV] at e2;have e3:=xX e2 jP;rw[<-vou] at e3;have e4:(2^64)^la=(2^64)^m*(2^64)^(n-1):=by rw[<-xD];congr 1;lia
  rw[e4,xe] at e3;have e5:(2^64)^m*bv (2^64) (ou.drop m)<(2^64)^m*((2^64)^(n-1)*2^s):=by lia
  exact yE (Nat.lt_of_mul_lt_mul_left e5) aym
 have e1y:(y.length:Int)-1=((n-1:Nat):Int):=by lia
 have ayn:((la:Nat):Int)-(n:Int)=((m-1:Nat):Int):=by lia
 have jM:∃tm us qs rs,(us.length=la+1/\qs.length=m/\lo (2^64) us/\lo (2^64) qs/\bv (2^64) us+bv (2^64) qs*bv (2^64) vs=bv (2^64) x*2^s/\bv (2^64) us<bv (2^64) vs/\
   rs.length=n/\lo (2^64) rs/\bv (2^64) rs*2^s+us.getD 0 0%2^s=bv (2^64) (us.take n)+(2^64)^n*(us.getD n 0%2^s))/\ak tm 0=v/\
   ∃q1 r1,bI q1 (dT qs)/\bI r1 (dT rs)/\ah P L 137 [v,w] (.ax [q1,r1]):=by
  unfold ah at ec ev eu Xf;unfold ah;rw[aJ h.Vm];have hfo:=CE (n:=n+1) (l:=ov) (hp:=[]) (by lia) ydh
  simp only[go_sem,ya,yc,Ks,hv.len,hv.aj,hw.len,hw.aj,ec,eL,show ¬(y.length:Int)=1 by lia,e1y,wrapN (n:=n-1) (by lia),Xe,elz,ev,awD,CE _ (n:=n+1) (l:=ov) (by lia) ydh,Xf,fa.len,fa.shut,eu,BG,<-LV,ayn,wrapN (n:=m-1) (by lia),show ((m-1:Nat):Int)+1=(m:Int) by lia,wrapN (n:=m) (by lia),EG (n:=m) _ (by lia)];generalize nD:D P L (.loop _ Jv) _=qq;obtain⟨ex,st,rfl,tm,us,qs,rfl,rfl,t9,t11,t12,t13,Qv,Qw,Hm,Xg,aO,aM⟩:=bN nD (aud (P:=P) (L:=L) h fa Ff BG (by lia) (by lia) (by lia) hm eS (s:=s) (U0:=bv (2^64) x*2^s) m) ⟨m,ou,yp m 0,by
   rw[show ((m-1:Nat):Int)=(m:Int)-1 by lia]
   simp only[go_sem,ya,yc,aA,aE fa.pu]<;>rfl,rfl,yu _,lou,by simp,gou,Gf dQ m,fun i _=>DP m i,by rw[Gg,vh,yW,vou],Uy⟩
  simp only[go_sem,ya,yc,aA,t9,t11,t12,t13];generalize EI:D P L (.loop _ F3) _=W5;obtain⟨ex,st,rfl,kU,rs,rfl,rfl,t11,t12,t13,Xh,Xi,Px⟩:=bN EI (auc (P:=P) (L:=L) (qs:=qs) (m:=m) (la:=la+1) (n:=n) z1 Qv Hm (by lia) (by lia) n) ⟨0,[],by simp only[go_sem,ya,yc,aA]<;>rfl,by lia,rfl,N1,by simp[bv]⟩
  have oh:∀(hp:Hp) tm (y:X),ai hp 0=Ft (.cells ydh ydh ydh 1 ((rs++us.drop n).map uc))->cP tm (la+1) (Ft y)=Ft n->fj hp (.sl 1) (.ap 0 0 (la+1)) tm Fu (Ft y)=Ft (.ap 0 0 n):=fun hp tm y h1 h2=>aaN h1 h2 (by lia) (by lia)
  have LY:=nQ ydh qs;rw[Qw] at LY;have⟨q1,f1,fP⟩:=CF h.ni LY (by lia);have eQ:(rs++us.drop n).take n=rs:=by rw[List.take_append_of_le_length (by lia),yG (by lia)]
  have LZ:∃e,∀hp:Hp,mF 0 n (Ft (ydh,1,(rs++us.drop n).map uc,hp))=Ft (.au e n (rs.map uc),hp):=by
   refine⟨ydh&&yI 0 1&&ym n ((rs++us.drop n).map uc).length,fun hp=>?_⟩;simp only[mF,yd,yk,slice,yh,<-yaE,eQ];rw[yt (by simp;lia)]
   rfl
  have⟨e,LZ⟩:=LZ;have iJ:=nQ e rs;rw[Xh] at iJ;have⟨r1,f2,eZ⟩:=CF h.ni iJ (by lia);unfold ah at f1 f2;refine⟨[(0,v)],us,qs,rs,⟨Qv,Qw,Hm,Xg,aO,aM,Xh,Xi,Px⟩,rfl,q1,r1,fP,eZ,?_⟩
  simp only[go_sem,ya,yc,aA,t11,t12,t13,CE _ (n:=m) (l:=qs) Qw ydh,f1,fP.shut,oh,ep,LZ,f2,eZ.shut];exact TN fP eZ _
 have⟨tm,us,qs,rs,⟨Qv,Qw,Hm,Xg,aO,aM,Xh,Xi,Px⟩,_,q1,r1,fP,eZ,e⟩:=jM;have kI:0<bv (2^64) y:=by
  have:=yY ((2^64)^(n-1)) (show 1<=top by lia)
  have:=ycw (n:=n-1) dQ
  lia
 rw[Am] at aO aM;have KW:bv (2^64) qs=bv (2^64) x/bv (2^64) y:=by
  rw[<-tL _ _ jP,<-aO,ybQ,xp,tZ (vv kI jP),xU aM,yW]
 have Qx:bv (2^64) us=(bv (2^64) x%bv (2^64) y)*2^s:=by
  rw[<-uo,<-aO,ybQ,xp (bv _ qs),yaa,yF aM]
 have mV:=I2 (b:=2^64) us n (by lia);have gQ:bv (2^64) (us.drop n)=0:=by
  rcases xq (bv (2^64) (us.drop n)) with h0 | h0
  .exact h0
  .have:=yY ((2^64)^n) h0
   lia
 have hun:us.getD n 0=0:=by
  have:=NL (b:=2^64) (l:=us) (i:=n) (by lia)
  lia
 rw[gQ,xB,yW] at mV;have Dd:us.getD 0 0%2^s=0:=by
  have e1:=NL (b:=2^64) (l:=us) (i:=0) (by lia);rw[yh,Qx] at e1;have e2:2^64=2^s*2^(64-s):=by rw[<-xD,show s+(64-s)=64 by lia]
  have e3:(us.getD 0 0+2^64*bv (2^64) (us.drop (0+1)))%2^s=us.getD 0 0%2^s:=by
   conv=>lhs;rw[e2,xe]
   exact Nat.add_mul_mod_self_left _ _ _
  rw[<-e3,<-e1,Nat.mul_mod_left]
 rw[hun,Dd,Nat.zero_mod,xB,yW,yW,<-mV,Qx] at Px;have ad6:bv (2^64) rs=bv (2^64) x%bv (2^64) y:=Nat.eq_of_mul_eq_mul_right jP Px;exact⟨q1,r1,e,⟨_,fP,BY Xg,BX _,by rw[BW,KW]⟩,⟨_,eZ,BY Xi,BX _,by rw[BW,ad6]⟩⟩
def afy(h:Wd P L){a b K:Nat}(hv:WN v a)(hw:WN w b)(hb:0<b)(ha:a<(2^64)^K)(hbK:b<(2^64)^K)(hK:K<=90000000000):
  ∃q r,ah P L 137 [v,w] (.ax [q,r])/\WN q (a/b)/\WN r (a%b):=by
 have⟨x,Hn,gx,nx,vx⟩:=hv;have⟨y,Qy,gy,ny,vy⟩:=hw;have lx:x.length<=90000000000:=xo (pD nx vx ha) hK;have ly:y.length<=90000000000:=xo (pD ny vy hbK) hK;have ec:=afk h.afw Hn Qy gx gy nx ny (by lia) (by lia);subst vx;subst vy;by_cases hc:bv (2^64) x<bv (2^64) y
 .have eL:dN (bv (2^64) x) (bv (2^64) y)= -1:=by unfold dN;rw[yP hc]
  rw[eL] at ec;refine⟨.af,v,?_,⟨[],zq,N1,rfl,by rw[xU hc];rfl⟩,⟨x,Hn,gx,nx,by rw[yF hc]⟩⟩
  unfold ah;rw[aJ h.Vm];simp only[go_sem,ya,Ks,Hn.aj,Qy.aj,ec,show (-1:Int)<0 by decide];exact TN zq Hn _
 .rcases (show y.length=0\/y.length=1\/2<=y.length by lia) with h0 | h1 | h2
  .rw [yK h0] at hb;simp[bv] at hb
  .obtain ⟨d,rfl⟩:∃d,y=[d]:=by
    cases y with
    | nil=>simp at h1
    | cons d r=>cases r with
     | nil=>exact⟨d,rfl⟩
     | cons e r=>simp at h1
   exact aue h Hn Qy gx lx hb (Ge.1 gy) ec (by lia)
  .exact auf h Hn Qy gx gy nx ny lx h2 ec (by lia)
end
def lB(v:AV)(n:Int):Prop:=∃w l,v=.agg [.bool (decide (n<0)),w]/\bn w l/\dg l/\nz l/\dv l=n.natAbs
def jV{l:List Int}{k:Nat}(hd:dg l)(hn:nz l)(h:dv l<1000000000^k):l.length<=k:=by
 by_cases h0:l=[]
 .grind
 .have h1:=Oq hn hd h0;have h2:1000000000^(l.length-1)<1000000000^k:=wC h1 h;have h3:=(uh (show 1<1000000000 by decide)).1 h2
  lia
def iz{hp:Hp}{ct id:Nat}{a b x y:AV}(h1:cL a=ydh)(h2:cL b=ydh)(p1:aW a=ydh)(p2:aW b=ydh):
  gm hp ct id 0 2 [a,b] (Ft (.cells ydh ydh ydh 2 [x,y]))=Ft (.ax [],aU hp id (.cells ydh ydh ydh 2 [a,b]),ct):=by
 rw[qM (by rfl) (by simp) (by simp[bS,h1,h2])];simp[aD,p1,p2,over]
def cw(neg:Bool)(m:Nat):Int:=if neg=ydh then -(m:Int) else m
def Bf(h:Has P L 294 CA)(cM:Has P L 300 mE)(neg:Bool){v:AV}{l:List Int}(hv:bn v l)(hd:dg l)(hl:l.length<=20000000000):
  ∃r,ah P L 294 [.bool neg,v] r/\lB r (cw neg (dv l)):=by
 have⟨w,e1,hw,jb⟩:=CD cM hv hl;have rE:=AE l;have Dj:=FO l;have oI:=BV hd;have hc:(neg&&decide ((0:Int)<((dS l).length:Nat)))=decide (cw neg (dv l)<0):=by
  unfold cw
  cases neg with
  | false=>simp
  | true=>
   simp only[ud,xQ];by_cases h0:dS l=[]
   .rw [h0] at rE ⊢;simp only[dv] at rE;simp[<-rE]
   .have h1:0<(dS l).length:=ta.2 h0;have h2:0<dv l:=by
     rw[<-rE];rcases xq (dv (dS l)) with h | h
     .exact absurd (abI Dj oI h) h0
     .exact h
    rw[xT (by lia),xT (by lia)]
 refine⟨.agg [.bool (decide (cw neg (dv l)<0)),w],?_,w,dS l,rfl,hw,oI,Dj,?_⟩
 .rw [<-hc];unfold ah at e1 ⊢;rw[aJ h]
  cases neg with
  | false=>
   simp only[go_sem,ya,yc,yo,CA,aV,hv.aj,e1,hw.pu,hw.shut,hw.one,hw.cells,iz];rcases hw with ⟨rfl,_⟩ | ⟨e,rfl⟩<;>rfl
  | true=>
   simp only[go_sem,ya,yc,yo,CA,aV,hv.aj,e1,hw.len,hw.pu,hw.shut,hw.one,hw.cells,iz];rcases hw with ⟨rfl,_⟩ | ⟨e,rfl⟩<;>rfl
 .rw [rE];unfold cw;split<;>lia
def afz(h:Has P L 298 O8)(j0:Has P L 294 CA)(cM:Has P L 300 mE){v:AV}{n:Int}{K:Nat}(hK:K<=20000000000)(hv:lB v n)(hn:n.natAbs<1000000000^K):∃r,ah P L 298 [v] r/\lB r (-n):=by
 obtain⟨w,l,rfl,hw,hd,hz,rE⟩:=hv;have⟨r,e1,hr⟩:=Bf j0 cM (!decide (n<0)) hw hd (xo (jV hd hz (by rw[rE];exact hn)) hK)
 have e:cw (!decide (n<0)) (dv l)= -n:=by
  rw[rE];unfold cw;by_cases h0:n<0
  .simp [h0];lia
  .simp [h0];lia
 rw[e] at hr;obtain⟨w2,l2,rfl,iM,jy,kh,Bg⟩:=hr;refine⟨_,?_,w2,l2,rfl,iM,jy,kh,Bg⟩;unfold ah at e1 ⊢;rw[aJ h];simp only[go_sem,ya,yc,O8,aV,hw.pu,hw.aj,hw.one,iM.pu,iM.one,bj,yd,dI,e1,iz,bC];rcases iM with ⟨rfl,_⟩ | ⟨e,rfl⟩<;>rfl
section
variable {w:AV}{a b z:Int}{k m:Nat}
def di(s:Int)(w:AV)(z:Int):Prop:=
 (w=.af/\s=z/\-9223372036854775808<=z/\z<9223372036854775808)\/
 (∃e l,w=.au e l.length (l.map uc)/\lo (2^64) l/\ie l/\bv (2^64) l=z.natAbs/\s=(if z<0 then -1 else 1)/\9223372036854775808<=z.natAbs)
def cz(v:AV)(z:Int):Prop:=∃s w,v=.agg [aa s,w]/\di s w z
def Bd(k:Nat)(z:Int):Prop:=z.natAbs<2^k
def Cd(k:Nat):2^k<=(2^64)^k:=Nat.pow_le_pow_left (by decide) k
def Bd.mono(h:Bd k z)(hk:k<=m):Bd m z:=yE h (xc (by decide) hk)
def Bd.neg(h:Bd k z):Bd k (-z):=by unfold Bd at h ⊢;rwa[Int.natAbs_neg]
def Bd.add(ha:Bd k a)(hb:Bd m b):Bd (max k m+1) (a+b):=by
 have h1:Bd (max k m) a:=ha.mono (by lia);have h2:Bd (max k m) b:=hb.mono (by lia);unfold Bd at h1 h2 ⊢
 grind
def Bd.mul(ha:Bd k a)(hb:Bd m b):Bd (k+m) (a*b):=by
 unfold Bd at*
 rw[Int.natAbs_mul,xD];exact Nat.mul_lt_mul'' ha hb
def Bd.le(hb:Bd k b)(h:a.natAbs<=b.natAbs):Bd k a:=wC h hb
def WN.pos{v:AV}(h:WN v m)(h0:0<m):∃e l,v=.au e l.length (l.map uc)/\l≠[]/\lo (2^64) l/\ie l/\bv (2^64) l=m:=by
 have⟨l,hv,g,n,hb⟩:=h;have hl:l≠[]:=fun e=>by subst e;simp[bv] at hb;lia
 rcases hv with ⟨_,e⟩ | ⟨e,rfl⟩
 .simp_all
 .exact ⟨e,l,by simp,hl,g,n,hb⟩
def WN.aS{v:AV}(h:WN v m):∃l,bI v l/\lo (2^64) l/\ie l/\bv (2^64) l=m:=h
def r5(e:Bool)(n:Nat)(cs:List AV):jo .sl (.au e n cs) .af=Ft ydi:=rfl
def jX:jo .sl .af .af=Ft ydh:=rfl
def NM(hp:Hp)(ct id:Nat)(a:Int)(e:Bool)(n:Nat)(cs:List AV)(x y:AV):gm hp ct id 0 2 [.int .i64 a,.au e n cs] (Ft (.cells ydh ydh ydh 2 [x,y]))=Ft (.ax [],aU hp id (.cells ydh ydh ydh 2 [.int .i64 a,.au e n cs]),ct):=iz rfl rfl rfl rfl
def zu{tm:Env}{a x y:AV}{r:List (Nat×Nat×X)}(h:cL a=ydh):kP tm [x,y] 0 1 [a] r=fill tm [a,y] r:=FP (by simp) h
def di.qc(h1: -9223372036854775808<=z)(h2:z<9223372036854775808):cz (.agg [aa z,.af]) z:=⟨z,.af,rfl,.inl ⟨rfl,rfl,h1,h2⟩⟩
def di.eF{s:Int}(h:di s w z):(s<0↔z<0)/\(s=0↔z=0)/\-9223372036854775808<=s/\s<9223372036854775808:=by
 rcases h with ⟨_,rfl,h1,h2⟩ | ⟨e,l,_,_,_,_,rfl,h1⟩
 .grind
 .grind
structure Nu(P:aF)(L:Lib):Prop extends Wd P L where
 ayo:Has P L 117 OU
 ayp:Has P L 142 OV
 Vq:Has P L 136 Kr
 KX:Has P L 145 A7
 ayq:Has P L 146 U3
 Vr:Has P L 147 Kt
 afA:Has P L 163 OZ
 aDS:Has P L 118 aeW
 afB:Has P L 119 c119
 ayr:Has P L 156 U5
 Py:Has P L 100 nd
 Vs:Has P L 164 nf
 ays:Has P L 148 U4
 ayt:Has P L 130 U2
def GN(h:Nu P L)(h1: -9223372036854775808<=z)(h2:z<9223372036854775808):ah P L 117 [aa z] (.agg [aa z,.af])/\cz (.agg [aa z,.af]) z:=⟨n117 h.ayo z,di.qc h1 h2⟩
def Vt(h:Nu P L){n:Int}(h1: -9223372036854775808<=n)(h2:n<9223372036854775808):ah P L 142 [aa n] (uc n.natAbs):=by
 unfold ah;rw[aJ h.ayp];by_cases h0:n<0
 .have e:IntKind.wrap .u64 (IntKind.wrap .i64 (0-n))=(n.natAbs:Int):=by
   by_cases hm:n= -9223372036854775808
   .subst hm;rfl
   .rw [wrap64 (by lia) (by lia),Oy];lia
  simp only[go_sem,ya,OV,h0,acC,e]
 .have e:IntKind.wrap .u64 n=(n.natAbs:Int):=by rw[Oy];lia
  simp only[go_sem,ya,OV,h0,acC,e]
def Bh(h:Nu P L){s:Int}(hz:di s w z):∃r,ah P L 136 [.agg [aa s,w]] (.ax [.bool (decide (z<0)),r])/\WN (bF r) z.natAbs:=by
 rcases hz with ⟨rfl,rfl,h1,h2⟩ | ⟨e,l,rfl,g,n,hb,hs,h1⟩
 .by_cases h0:s=0
  .subst h0;refine⟨.af,?_,[],zq,N1,rfl,rfl⟩;unfold ah;rw[aJ h.Vq];simp only[go_sem,ya,yc,Kr,aV,bj,yd,dI,jX,JU,Int.reduceLT];rfl
  .have e1:=Vt h h1 h2;refine⟨.cF ydh 1 1 [uc s.natAbs],?_,[s.natAbs],nQ ydh [s.natAbs],Ge.2 (by lia),FA (by lia) [],Cc _⟩;unfold ah;rw[aJ h.Vq];simp only[go_sem,ya,yc,yo,yk,Kr,aV,bj,yd,dI,jX,JU,h0,e1];rfl
 .have Bq:decide (s<0)=decide (z<0):=by rw[hs];split<;>simp<;>lia
  refine⟨.au e l.length (l.map uc),?_,l,nQ e l,g,n,hb⟩;unfold ah;rw[aJ h.Vq];simp only[go_sem,ya,yc,Kr,aV,bj,yd,dI,r5,JU,Bq];rfl
def ZR{d:Nat}(h:d<=9223372036854775807):IntKind.wrap .i64 (d:Int)=d:=wrapN (by lia)
def EJ(h:Nu P L)(neg:Bool){K:Nat}(hw:WN w m)(hm:m<(2^64)^K)(hK:K<=90000000000):∃r,ah P L 145 [.bool neg,w] r/\cz r (cw neg m):=by
 have⟨l,hu,g,n,hb⟩:=hw;have Ae:l.length<=90000000000:=xo (pD n hb hm) hK;by_cases h0:l=[]
 .subst h0
  have:m=0:=by rw[<-hb];rfl
  subst this;have e:cw neg 0=0:=by unfold cw;cases neg<;>rfl
  rw[e];refine⟨.agg [aa 0,.af],?_,di.qc (by decide) (by decide)⟩;unfold ah;rw[aJ h.KX];simp only[go_sem,ya,yc,A7,aV,hu.len,yH,show (((0:Nat):Nat):Int)=0 from rfl,zD];rfl
 .have kV:0<l.length:=ta.2 h0;by_cases h1:l.length=1/\l.getD 0 0<=9223372036854775807
  .have ⟨h1,h2⟩:=h1;obtain⟨d,rfl⟩:∃d,l=[d]:=by
    cases l with
    | nil=>simp at h1
    | cons d r=>cases r with
     | nil=>exact⟨d,rfl⟩
     | cons e r=>simp at h1
   have h2:d<=9223372036854775807:=h2;rw[Cc] at hb;subst hb;have ex:=hu.bh (i:=0) (by simp);rw[show ([d]:List Nat).getD 0 0=d from rfl] at ex;have hlen:∀hp,fX hp 1 w=Ft (.int .i64 1):=fun hp=>hu.len
   cases neg with
   | true=>
    refine⟨.agg [aa (0-(d:Int)),.af],?_,?_⟩
    .unfold ah;rw[aJ h.KX]
     simp only[go_sem,ya,yc,yo,A7,aV,hlen,yaI,ex,show (d:Int)<=9223372036854775807 by lia,N5,ZR h2,wrap64 (n:=0-(d:Int)) (by lia) (by lia),zD];rfl
    .have:cw ydh d=0-(d:Int):=by unfold cw;simp
     rw[this];exact di.qc (by lia) (by lia)
   | false=>
    refine⟨.agg [aa (d:Int),.af],?_,?_⟩
    .unfold ah;rw[aJ h.KX];simp only[go_sem,ya,yc,yo,A7,aV,hlen,yaI,ex,show (d:Int)<=9223372036854775807 by lia,N5,ZR h2,zD];rfl
    .have:cw ydi d=(d:Int):=by unfold cw;simp
     rw[this];exact di.qc (by lia) (by lia)
  .have ze:9223372036854775808<=m:=by
    rw[<-hb];by_cases h2:l.length=1
    .obtain ⟨d,rfl⟩:∃d,l=[d]:=by
      cases l with
      | nil=>simp at h2
      | cons d r=>cases r with
       | nil=>exact⟨d,rfl⟩
       | cons e r=>simp at h2
     have:¬d<=9223372036854775807:=fun hd=>h1 ⟨h2,hd⟩
     rw[Cc];lia
    .have h3:=TG (b:=2^64) (by decide) n h0;have h4:(2^64)^1<=(2^64)^(l.length-1):=xc (by decide) (by lia);rw[Nat.pow_one] at h4
     lia
   have dE:∃e,w=.au e l.length (l.map uc):=by
    rcases hu with ⟨rfl,hh⟩ | ⟨e,rfl⟩
    .simp at hh;exact absurd hh h0
    .exact ⟨e,by simp⟩
   obtain⟨e,rfl⟩:=dE;have ex:=hu.bh (i:=0) kV;have first:(decide ((l.length:Int)=1)=ydh/\¬((l.getD 0 0:Nat):Int)<=9223372036854775807)\/decide ((l.length:Int)=1)=ydi:=by
    by_cases h2:l.length=1
    .left;refine⟨by simp;lia,fun hd=>h1 ⟨h2,by lia⟩⟩
    .right;simp;lia
   cases neg with
   | true=>
    refine⟨.agg [aa (-1),.au e l.length (l.map uc)],?_,-1,_,rfl,.inr ⟨e,l,rfl,g,n,by rw[hb];unfold cw;simp,by unfold cw;simp;lia,by unfold cw;simp;lia⟩⟩
    unfold ah;rw[aJ h.KX];rcases first with ⟨f1,f2⟩ | f1
    .simp only [go_sem,ya,yc,yo,A7,aV,show ¬(l.length:Int)=0 by lia,f1,f2,ex,zu,NM];rfl
    .simp only [go_sem,ya,yc,yo,A7,aV,show ¬(l.length:Int)=0 by lia,f1,zu,NM];rfl
   | false=>
    refine⟨.agg [aa 1,.au e l.length (l.map uc)],?_,1,_,rfl,.inr ⟨e,l,rfl,g,n,by rw[hb];unfold cw;simp,by unfold cw;simp,by unfold cw;simp;lia⟩⟩
    unfold ah;rw[aJ h.KX];rcases first with ⟨f1,f2⟩ | f1
    .simp only [go_sem,ya,yc,yo,A7,aV,show ¬(l.length:Int)=0 by lia,f1,f2,ex,zu,NM];rfl
    .simp only [go_sem,ya,yc,yo,A7,aV,show ¬(l.length:Int)=0 by lia,f1,zu,NM];rfl
end
section
variable {v w:AV}{a b s z:Int}{l:List Nat}{K:Nat}
def bM:VC->VC
 | .seq a _=>a
 | c=>c
def aoa{x y:Nat}(ha:a.natAbs=x)(hb:b.natAbs=y)(h:decide (a<0)=decide (b<0)):cw (decide (a<0)) (x+y)=a+b:=by
 unfold cw
 grind
def aaO{m:Nat}(hm:m+b.natAbs=a.natAbs)(h:¬decide (a<0)=decide (b<0)):cw (decide (a<0)) m=a+b:=by
 unfold cw
 grind
def aob:cw (!decide (a<0)) a.natAbs= -a:=by
 unfold cw
 grind
def aaP:cw (decide (a<0) !=decide (b<0)) (a.natAbs*b.natAbs)=a*b:=by
 unfold cw
 grind
def n7(h:bI w l)(hp:Hp):result hp (.agg [aa s,w])=Ft (.agg [aa s,w]):=by
 rcases h with ⟨rfl,_⟩ | ⟨e,rfl⟩<;>rfl
def dU(h:bI w l)(hp:Hp)(ct id:Nat)(x y:AV):gm hp ct id 0 2 [.int .i64 s,w] (Ft (.cells ydh ydh ydh 2 [x,y]))=Ft (.ax [],aU hp id (.cells ydh ydh ydh 2 [.int .i64 s,w]),ct):=iz rfl h.one rfl h.pu
def di.aS(h:di s w z):∃l,bI w l:=by
 rcases h with ⟨rfl,_⟩ | ⟨e,l,rfl,_⟩
 .exact ⟨[],zq⟩
 .exact ⟨l,nQ e l⟩
def ad7(hp:Hp)(sz:Nat)(ag:Bool):AV->Option AV
 | .ptr id o=>Qo sz ag o (ai hp id)
 | .bq cs=>gI sz ag cs
 | _=>Fu
def c9(tm:Env)(hp:Hp)(ct base i sz:Nat)(ag:Bool):results1 ⟨tm,hp,ct,base⟩ (.cell i sz ag)=ad7 hp sz ag (ak tm i):=by
 rfl
def db(hp:Hp)(sz:Nat)(ag:Bool)(id o:Nat):ad7 hp sz ag (.ptr id o)=Qo sz ag o (ai hp id):=rfl
def KY(h:Nu P L)(hv:cz v z):ah P L 146 [v] (aa (eF z)):=by
 obtain⟨s,w,rfl,hn⟩:=hv;have⟨l,hu⟩:=hn.aS;have e:eF s=eF z:=by
  have⟨h1,h2,_⟩:=hn.eF;unfold eF;by_cases h0:z<0
  .rw [yP h0,yP (h1.2 h0)]
  .by_cases h3:z=0
   .rw [yz (fun h=>h0 (h1.1 h)),yP (h2.2 h3),yz h0,yP h3]
   .rw [yz (fun h=>h0 (h1.1 h)),yz (fun h=>h3 (h2.1 h)),yz h0,yz h3]
 unfold ah;rw[aJ h.ayq];simp only[go_sem,ya,yc,U3,aV,hu.pu,hu.one,bj,yd,acB,D6,aaH,I4,atV,e]
def KZ(h:Nu P L)(hv:cz v z)(hz:Bd K z)(hK:K<=90000000000):∃r,ah P L 147 [v] r/\cz r (-z):=by
 obtain⟨s,w,rfl,hn⟩:=hv;have⟨p,e1,hp⟩:=Bh h hn;have⟨lp,gj,_⟩:=hp.aS;have⟨r,e2,hr⟩:=EJ h (!decide (z<0)) hp (yE hz (Cd K)) hK;rw[aob] at hr;have bA:=hr;obtain⟨s',w',rfl,kX⟩:=hr;have⟨l',jS⟩:=kX.aS;rcases hn with ⟨rfl,rfl,h1,h2⟩ | ⟨e,l0,rfl,g,n,hb,hs,h1⟩
 .by_cases h0:s= -9223372036854775808
  .refine ⟨_,?_,bA⟩;unfold ah;rw[aJ h.Vr];simp only[go_sem,ya,yc,Kt,aV,bj,yd,dI,jX,fh,h0];rw[h0] at e1 e2;simp only[go_sem,ya,bR,cr,e1,e2,gj.aj,bC,c9,db,bR,yh,n7 jS,dU jS]
  .refine ⟨.agg [aa (-s),.af],?_,di.qc (by lia) (by lia)⟩;unfold ah;rw[aJ h.Vr]
   simp only[go_sem,ya,yc,Kt,aV,bj,yd,dI,jX,fh,h0,wrap64 (n:=0-s) (by lia) (by lia),zD,zu];rw[Int.zero_sub];rfl
 .refine ⟨_,?_,bA⟩;unfold ah;rw[aJ h.Vr];simp only[go_sem,ya,yc,Kt,aV,bj,yd,dI,r5,fh,bR,cr,e1,e2,gj.aj,bC,c9,db,bR,yh,n7 jS,dU jS]
def afC(h:Nu P L)(hv:cz v z)(hz:Bd K z)(hK:K<=90000000000):∃r,ah P L 163 [v] r/\cz r (z.natAbs:Nat):=by
 have fa:=hv;obtain⟨s,w,rfl,hn⟩:=hv;have⟨l,hu⟩:=hn.aS;have Ho:=hn.eF.1;by_cases h0:z<0
 .have ⟨r,e1,hr⟩:=KZ h fa hz hK;rw[show -z=(z.natAbs:Int) by lia] at hr;have bA:=hr;obtain⟨s',w',rfl,kX⟩:=hr;have⟨l',jS⟩:=kX.aS;refine⟨_,?_,bA⟩;unfold ah;rw[aJ h.afA];simp only[go_sem,ya,yc,OZ,aV,hu.pu,hu.aj,hu.one,bj,yd,Ho.2 h0,bR,cr,e1,bC,c9,db,bR,yh,n7 jS,dU jS]
 .rw [show ((z.natAbs:Nat):Int)=z by lia];refine⟨_,?_,fa⟩;unfold ah;rw[aJ h.afA];simp only[go_sem,ya,yc,OZ,aV,hu.pu,hu.one,bj,yd,show ¬s<0 from fun h=>h0 (Ho.1 h),bR,c9,db,bR,yh,n7 hu,dU hu]
def aug(h:Nu P L){s1 s2:Int}{w1 w2:AV}(ha:di s1 w1 a)(hb:di s2 w2 b)(ka:Bd K a)(kb:Bd K b)(hK:K<=40000000000):
  ∃r,cz r (a+b)/\∀tm,ak tm 2=.ptr 0 0->ak tm 3=.ptr 1 0->ak tm 4=.ptr 2 0->iF [.cell 4 2 ydh] (D P L (aG (aG c119.body)) ⟨tm,[(2,.cells ydh ydh ydh 2 [.int .i64 0,.af]),(1,.cells ydh ydh ydh 2 [aa s2,w2]),(0,.cells ydh ydh ydh 2 [aa s1,w1])],3,0⟩)=Ft r:=by
 have⟨l1,u1⟩:=ha.aS;have⟨l2,u2⟩:=hb.aS;have⟨p,e1,hp⟩:=Bh h ha;have⟨q,e2,hq⟩:=Bh h hb;have⟨lp,gj,gp,np,vp⟩:=hp.aS;have⟨lq,pX,gq,nq,vq⟩:=hq.aS;have Dk:=yE ka (Cd K);have Hr:=yE kb (Cd K);have llp:lp.length<=40000000000:=xo (pD np vp Dk) hK;have llq:lq.length<=40000000000:=xo (pD nq vq Hr) hK;by_cases hs:decide (a<0)=decide (b<0)
 .have ⟨o,oH,e3,ho,oG,no,vo⟩:=ax6 h.ayg h.ni h.gX gj pX gp gq (by lia) (by lia);have⟨r,e4,hr⟩:=EJ h (decide (a<0)) ⟨oH,ho,oG,no,vo⟩ (K:=K+1) (by rw[vp,vq,xh];lia) (by lia)
  rw[aoa vp.symm vq.symm hs] at hr;have bA:=hr;obtain⟨s',w',rfl,kX⟩:=hr;have⟨l',jS⟩:=kX.aS;refine⟨_,bA,fun tm t2 t3 t4=>?_⟩;simp only[go_sem,ya,c119,aG,t2,t3,bR,cr,u1.aj,u2.aj,e1,e2,gj.aj,pX.aj,fh,qO,hs,tT];rw[hs] at e4;simp only[go_sem,ya,t4,e3,ho.aj,ho.shut,e4,bC,c9,db,bR,yh,n7 jS,dU jS]
 .have Fg:(decide (a<0)==decide (b<0))=ydi:=by simpa using hs
  have e3:=afk h.afw gj pX gp gq np nq (by lia) (by lia);rw[vp,vq] at e3;by_cases hc:b.natAbs<=a.natAbs
  .have ⟨o,oH,e4,ho,oG,no,vo⟩:=afl h.afx h.ni h.zW gj pX gp gq nq (by lia) (by rw[vp,vq];exact hc)
   rw[vp,vq] at vo;have⟨r,e5,hr⟩:=EJ h (decide (a<0)) ⟨oH,ho,oG,no,rfl⟩ (K:=K) (by lia) (by lia);rw[aaO vo hs] at hr;have bA:=hr;obtain⟨s',w',rfl,kX⟩:=hr;have⟨l',jS⟩:=kX.aS;have eL:(0:Int)<=dN a.natAbs b.natAbs:=by unfold dN;rw[yz (by lia)];split<;>decide
   refine⟨_,bA,fun tm t2 t3 t4=>?_⟩;simp only[go_sem,ya,c119,aG,t2,t3,t4,bR,cr,u1.aj,u2.aj,e1,e2,gj.aj,pX.aj,fh,qO,Fg,e3,eL,e4,ho.aj,ho.shut,e5,bC,c9,db,bR,yh,n7 jS,dU jS]
  .have ⟨o,oH,e4,ho,oG,no,vo⟩:=afl h.afx h.ni h.zW pX gj gq gp np (by lia) (by rw[vp,vq];lia)
   rw[vp,vq] at vo;have⟨r,e5,hr⟩:=EJ h (decide (b<0)) ⟨oH,ho,oG,no,rfl⟩ (K:=K) (by lia) (by lia);rw[aaO vo (fun e=>hs e.symm),Int.add_comm] at hr;have bA:=hr;obtain⟨s',w',rfl,kX⟩:=hr;have⟨l',jS⟩:=kX.aS;have eL:¬(0:Int)<=dN a.natAbs b.natAbs:=by unfold dN;rw[yP (by lia)];decide
   refine⟨_,bA,fun tm t2 t3 t4=>?_⟩;simp only[go_sem,ya,c119,aG,t2,t3,t4,bR,cr,u1.aj,u2.aj,e1,e2,gj.aj,pX.aj,fh,qO,Fg,e3,eL,e4,ho.aj,ho.shut,e5,bC,c9,db,bR,yh,n7 jS,dU jS]
def K0(h:Nu P L)(hv:cz v a)(hw:cz w b)(ka:Bd K a)(kb:Bd K b)(hK:K<=40000000000):∃r,ah P L 119 [v,w] r/\cz r (a+b):=by
 obtain⟨s1,w1,rfl,h1⟩:=hv;obtain⟨s2,w2,rfl,h2⟩:=hw;have⟨l2,u2⟩:=h2.aS;have⟨r,hr,tail⟩:=aug h h1 h2 ka kb hK;have fin:∀tm,ak tm 2=.ptr 0 0->ak tm 3=.ptr 1 0->ak tm 4=.ptr 2 0->
   D P L (.seq (bM c119.body) (bM (aG c119.body))) ⟨[(0,.agg [aa s1,w1]),(1,.agg [aa s2,w2])],[],0,0⟩=Ft (.normal,⟨tm,[(2,.cells ydh ydh ydh 2 [.int .i64 0,.af]),(1,.cells ydh ydh ydh 2 [aa s2,w2]),(0,.cells ydh ydh ydh 2 [aa s1,w1])],3,0⟩)->ah P L 119 [.agg [aa s1,w1],.agg [aa s2,w2]] r:=fun tm t2 t3 t4 e=>by
  unfold ah;rw[aJ h.afB];show iF [.cell 4 2 ydh] (D P L (.seq (bM c119.body) (.seq (bM (aG c119.body)) (aG (aG c119.body)))) ⟨[(0,.agg [aa s1,w1]),(1,.agg [aa s2,w2])],[],0,0⟩)=_
  have e2:D P L (.seq (bM c119.body) (.seq (bM (aG c119.body)) (aG (aG c119.body)))) ⟨[(0,.agg [aa s1,w1]),(1,.agg [aa s2,w2])],[],0,0⟩=zJ P L (D P L (.seq (bM c119.body) (bM (aG c119.body))) ⟨[(0,.agg [aa s1,w1]),(1,.agg [aa s2,w2])],[],0,0⟩) (aG (aG c119.body)):=by
   rw[zK,zK]
   cases D P L (bM c119.body) ⟨[(0,.agg [aa s1,w1]),(1,.agg [aa s2,w2])],[],0,0⟩ with
   | none=>rfl
   | some q=>
    have⟨ex,st⟩:=q
    cases ex with
    | normal=>rw[lJ,lJ,zK]
    | ret=>rfl
    | exit id=>rfl
  rw[e2,e,lJ];exact tail tm t2 t3 t4
 rcases h1 with ⟨rfl,rfl,a1,a2⟩ | ⟨e,l,rfl,ga,na,va,sa,a1⟩
 .rcases h2 with ⟨rfl,rfl,b1,b2⟩ | ⟨e,l,rfl,gb,nb,vb,sb,b1⟩
  .by_cases cN: -9223372036854775808<=s1+s2/\s1+s2<9223372036854775808
   .refine ⟨.agg [aa (s1+s2),.af],?_,di.qc cN.1 cN.2⟩;have e:decide (s1<s1+s2)=decide (0<s2):=by
     by_cases h:0<s2
     .simp only [h,yX];exact xT (by lia)
     .simp only [h,xb];exact xv (by lia)
    unfold ah;rw[aJ h.afB]
    simp only[go_sem,ya,yc,c119,aV,zD,jX,fh,qO,bj,yd,dI,wrap64 (n:=s1+s2) cN.1 cN.2,e,tT,zu];rfl
   .have e:(decide (s1<IntKind.wrap .i64 (s1+s2))==decide (0<s2))=ydi:=by
     have hw:(9223372036854775808<=s1+s2/\IntKind.wrap .i64 (s1+s2)=s1+s2-2^64)\/(s1+s2< -9223372036854775808/\IntKind.wrap .i64 (s1+s2)=s1+s2+2^64):=by
      simp only[IntKind.wrap,IntKind.bits,IntKind.signed,ud]
      split<;>rename_i h<;>simp at h<;>lia
     by_cases h0:0<s2
     .rw [xT h0,xv (by lia)];rfl
     .rw [xv h0,xT (by lia)];rfl
    refine⟨r,fin _ ?_ ?_ ?_ (by simp only[go_sem,ya,yc,bM,aG,c119,aV,jX,fh,qO,bj,yd,dI,e]<;>rfl),hr⟩<;>simp only[go_sem,ya]
  .refine ⟨r,fin _ ?_ ?_ ?_ (by simp only[go_sem,ya,yc,bM,aG,c119,aV,jX,r5,fh,bj,yd,dI]<;>rfl),hr⟩<;>simp only[go_sem,ya]
 .refine ⟨r,fin _ ?_ ?_ ?_ (by simp only[go_sem,ya,yc,bM,aG,c119,aV,u2.pu,u2.one,r5,fh,bj,yd,dI]<;>rfl),hr⟩<;>simp only[go_sem,ya]
end
end VE
