import Derived.ChangeSlices
import Derived.ChangeReads
import Derived.ChangeSame
import Derived.OpenShut
import Derived.Lib.AtoiErrMem
import Derived.Laws.Externs
import Derived.Attr
import Derived.Test.YtmacbdacedfedaaGreatDoorUao
set_option linter.all false
set_option maxRecDepth 100000
open Array renaming getElem?_eq_some_iff->xC
open BitVec renaming ofInt->wv,ofInt_natCast->tC,ofNat->tB,toNat_ofNat->vZ
open Bool renaming and_eq_true->ye,and_self->vn,and_true->vL,false_and->wK,false_eq_true->yD,false_or->vV,true_and->wS
open Go renaming Addr->uL,ChangeSpec->ycy,DataW->wa,Field->ua,IntKind->xe,MemPlace->wN,Program->xx,TypeId->yA,Value->yh,World->yk
open Int renaming ediv_emod_unique->yaf,gcd->vv,gcd_dvd_left->yaj,gcd_dvd_right->yaa,mul_ediv_cancel'->yba,natAbs_ediv_of_dvd->uY,natCast_mul->xS,reduceEq->yaB,tdiv_eq_ediv_of_dvd->yaK,tdiv_eq_ediv_of_nonneg->xW,tmod_eq_emod_of_nonneg->xV,toNat_natCast->xh
open List renaming all_cons->yah,append_assoc->xD,append_nil->xU,cons_append->yj,drop->um,drop_drop->vM,drop_eq_getElem_cons->yR,drop_eq_nil_of_le->xd,drop_left'->tq,drop_zero->yf,eq_nil_of_length_eq_zero->yK,filter_cons->ybx,filter_eq_nil_iff->tP,flatMap_cons->ybn,getD_cons_succ->yaZ,getD_eq_getElem?_getD->xc,getElem?_cons_zero->ui,getElem?_eq_getElem->xv,length->xT,length_append->yJ,length_cons->yF,length_drop->we,length_map->yS,length_nil->yN,length_pos_iff->uZ,length_reverse->ybb,length_singleton->tA,length_take->yQ,mapM_cons->uO,mapM_nil->yaz,map_append->xg,map_cons->xb,map_take->yax,mem_append->xF,mem_append_left->tH,mem_append_right->uj,mem_flatMap->td,mem_singleton->xu,nil_append->yy,range->xY,range'->xZ,range'_succ->vO,range'_zero->ybu,range_eq_range'->yaR,replicate->yz,replicate_succ->wP,reverse_cons->ybo,set_append_right->yaO,set_cons_succ->ybi,set_eq_take_append_cons_drop->vI,take_append_drop->wj,take_length->xL,take_of_length_le->yE,take_succ_eq_append_getElem->xi
open Nat renaming add_comm->ybL,add_mul->xR,add_sub_cancel->uS,add_zero->yX,beq->yq,beq_refl->wQ,ble->yB,ble_eq_true_of_le->yv,blt->yL,div_add_mod->xX,div_eq_of_lt->wb,div_le_self->vG,div_lt_iff_lt_mul->xE,eq_of_beq_eq_true->yg,eq_zero_or_pos->xq,gcd->wM,gcd_comm->tU,gcd_rec->ycL,le_div_iff_mul_le->tF,le_max_left->uH,le_max_right->uy,le_of_ble_eq_true->yt,le_of_lt->uM,le_refl->yp,le_trans->xo,lt_of_le_of_lt->wo,lt_of_lt_of_le->yG,lt_of_mul_lt_mul_right->uT,min_eq_left->xB,mod_add_div->uk,mod_eq_of_lt->yT,mod_lt->xJ,mul_add->xK,mul_add_div->tX,mul_add_mod->tY,mul_assoc->xj,mul_comm->xt,mul_div_mul_right->tG,mul_le_mul->xf,mul_le_mul_left->yV,mul_le_mul_right->yO,mul_lt_mul_of_pos_right->wg,mul_mod_mul_right->uv,mul_one->ym,mul_pos->wU,mul_zero->xG,one_mul->tZ,or_comm->ycM,pos_of_ne_zero->th,pow_add->xH,pow_le_pow_right->xa,pow_lt_pow_iff_right->uh,pow_pos->ybO,pow_succ->xn,pow_zero->vN,reduceAdd->yb,reduceEqDiff->ya,reduceLT->yx,reduceLeDiff->yi,reduceMul->xp,strongRecOn->vP,sub_zero->ycx,two_pow_pos->xm,zero_add->yd,zero_le->tk,zero_mul->wC
open Option renaming bind_eq_bind->vU,bind_some->wH,map_some->wO,pure_def->ve
open Option.some renaming injEq->yc
open Prod.mk renaming injEq->yo
open Option renaming some->Gp,none->Gq
open Bool renaming true->ydb,false->ydc
namespace VE
open Go (IntKind)
variable {P:aE}{L:Lib}
section
open Go
section
variable (P:xx)
def Gv(self:yA->Bool):List ua->Nat->Nat->Bool
 | [],o,n=>yq o n
 | f::r,o,n=>yq f.offset o&&(self f.type&&Gv self r (o+P.cellsOf f.type) n)
def flat:Nat->yA->Bool
 | 0,_=>ydc
 | n+1,t=>
  match P.underlying t with
  | some .bool | some (.int _) | some (.float _) | some .string=>yq (P.cellsOf t) 1
  | some (.slice e)=>yq (P.cellsOf t) 1&&(yL 0 (P.cellsOf e)&&flat n e)
  | some (.struct fs)=>Gv P (fun u=>flat n u) fs.toList 0 (P.cellsOf t)
  | some (.array k e)=>yq (P.cellsOf t) (k*P.cellsOf e)&&flat n e
  | _=>ydc
def cP{H:Type}:Nat->yA->wa H->List AV
 | 0,_,_=>[]
 | n+1,t,d=>
  match P.underlying t,d with
  | some .bool,.lit (.bool b)=>[.bool b]
  | some (.int k),.lit (.int _ m)=>[.int k m]
  | some (.float k),.lit (.float _ b)=>[.aw k b]
  | some .string,.lit (.string s)=>[.str (s.map UInt8.toNat)]
  | some (.slice _),.nil=>[.ah]
  | some (.slice e),.slice kV spare=>[.ap spare.isEmpty kV.length (kV.flatMap fun x=>cP n e x)]
  | some (.struct fs),.agg parts=>(fs.toList.zip parts).flatMap fun x=>cP n x.1.type x.2
  | some (.array _ e),.agg parts=>parts.flatMap fun x=>cP n e x
  | _,_=>[]
end
section
variable {ae:Nat->Nat}{m:Mp}{S:Nat->Prop}{w:yk}
def ab4:∀{a b:List AV} {eb o:Nat},bU ae m S w a eb o->bU ae m S w b eb (o+a.length)->bU ae m S w (a++b) eb o
 | [],b,eb,o,_,h=>by simpa using h
 | x::a,b,eb,o,h1,h2=>by
  exact⟨h1.1,ab4 h1.2 (by rw[yF] at h2;rw[show o+1+a.length=o+(a.length+1) by lia];exact h2)⟩
def Oh:∀{a b:List AV},aF a=ydb->aF b=ydb->aF (a++b)=ydb
 | [],_,_,h=>h
 | x::a,b,h1,h2=>by
  simp only[aF,yj,ye] at h1 ⊢;exact⟨h1.1,Oh h1.2 h2⟩
def ab5:∀{a:List AV} {us:List yh},aA ae m S w a us->a.length=us.length
 | [],us,h=>by simp only[aA] at h;subst h;rfl
 | x::a,us,h=>by
  obtain⟨u,r,rfl,_,h2⟩:=h;simp[ab5 h2]
end
section
variable {H:Type}{enc:yA×yh->H}{P:xx}{w:yk}{held:Bool}{ae:Nat->Nat}{m:Mp}{S:Nat->Prop}
def aeb{a:uL}{i:Nat}{u:yh}(h:w.cell? (a.add i)=Gp u):w.cell? ⟨a.block,a.off+i,Gq⟩=Gp u/\(i=0->a.spot=Gq):=by
 by_cases hi:i=0
 .subst hi;have e:a.add 0=a:=by simp[Addr.add]
  rw[e] at h;have hs:a.spot=Gq:=by
   cases hq:a.spot with
   | none=>rfl
   | some k=>
    unfold World.cell? at h
    split at h
    .simp [hq] at h
    all_goals simp_all
  have⟨b,o,sp⟩:=a;simp only at hs;subst hs;exact⟨by simpa using h,fun _=>rfl⟩
 .have e:a.add i=⟨a.block,a.off+i,Gq⟩:=by simp[Addr.add,hi]
  rw[e] at h;exact⟨h,fun h=>(hi h).elim⟩
def anF(a:uL)(i:Nat):(a.add i).block=a.block:=by unfold Addr.add;split<;>rfl
def arP(a:uL)(i:Nat):(a.add i).off=a.off+i:=by unfold Addr.add;split<;>simp_all
def OB{α β:Type}{f:α->Option β}:∀{l:List α} {r:List β},l.mapM f=Gp r->r.length=l.length
 | [],r,h=>by simp only[yaz,ve,yc] at h;subst h;rfl
 | x::l,r,h=>by
  rw[uO] at h
  cases h1:f x with
  | none=>simp[h1] at h
  | some y=>
   cases h2:l.mapM f with
   | none=>simp[h1,h2] at h
   | some ys=>
    simp only[h1,h2,wH,vU,ve,yc] at h;subst h;simp[OB h2]
def apH{c:AV}{l:List AV}{b o:Nat}(h:bU ae m S w (c::l) b o):b<w.heap.size:=by
 have⟨⟨u,h1,_⟩,_⟩:=h;unfold World.cell? at h1
 cases hq:w.heap[b]? with
 | none=>simp[hq] at h1
 | some o=>exact (xC.1 hq).1
def Ug{e:yA}{bm sz:Nat}{f:wa H->List AV}{a:uL}(eO:0<sz)(IH:∀(cs:List yh) (d:wa H) (ps:List wN),DataW.trod enc P w 0 (fun _=>ydb) held bm e cs=Gp (d,ps)->aA ae m S w (f d) cs/\aF (f d)=ydb/\cs.length=sz):
  ∀(k j:Nat) (xs:List (wa H×List wN)),(xZ j k).mapM (fun i=>(w.cells? 0 (a.add (i*sz)) sz).bind (DataW.trod enc P w 0 (fun _=>ydb) held bm e))=Gp xs->
   bU ae m S w ((xs.map (·.1)).flatMap f) a.block (a.off+j*sz)/\aF ((xs.map (·.1)).flatMap f)=ydb/\((xs.map (·.1)).flatMap f).length=k*sz/\xs.length=k/\(0<k->a.spot=Gq\/0<j)
 | 0,j,xs,h=>by
  simp only[ybu,yaz,ve,yc] at h;subst h;simp[bU,aF]
 | k+1,j,xs,h=>by
  rw[vO,uO] at h
  cases h1:(w.cells? 0 (a.add (j*sz)) sz) with
  | none=>simp[h1] at h
  | some us=>
   cases h2:DataW.trod enc P w 0 (fun _=>ydb) held bm e us with
   | none=>simp[h1,h2] at h
   | some x=>
    cases h3:(xZ (j+1) k).mapM (fun i=>(w.cells? 0 (a.add (i*sz)) sz).bind (DataW.trod enc P w 0 (fun _=>ydb) held bm e)) with
    | none=>simp[h1,h2,h3] at h
    | some ys=>
     simp only[h1,h2,h3,wH,vU,ve,yc] at h;subst h;have⟨d,ps⟩:=x;have⟨g1,g2,g3⟩:=IH us d ps h2;have⟨k1,k2,k3,k4,_⟩:=Ug eO IH k (j+1) ys h3;have⟨_,c2,c3⟩:=World.cells?_some h1;have hl:(f d).length=sz:=by rw[ab5 g1,g3]
     have hc:∀(i:Nat) (u:yh),us[i]? =Gp u->w.cell? ⟨a.block,a.off+j*sz+i,Gq⟩=Gp u:=by
      intro i u hi;have B8:i<sz:=by grind
      have h:=c3 i B8;rw[hi] at h
      have:=(aeb h).1
      rwa[anF,arP] at this
     refine⟨?_,?_,?_,by simp[k4],?_⟩
     .simp only [xb,ybn];refine ab4 (GF _ us _ g1 hc) ?_
      grind
     .simp only [xb,ybn];exact Oh g2 k2
     .grind
     .intro _;rcases xq j with hj | hj
      .left
       have h:=c3 0 eO;have hu:us[0]? =Gp us[0]:=by simp_all
       rw[hu] at h
       have:=(aeb h).2 rfl
       subst hj;simpa[Addr.add] using this
      .grind
def abe{bm N:Nat}{n:Nat}{cs:List yh}(hN:cs.length=N)(IH:∀(t:yA) (cs:List yh) (d:wa H) (ps:List wN),flat P n t=ydb->DataW.trod enc P w 0 (fun _=>ydb) held bm t cs=Gp (d,ps)->aA ae m S w (cP P n t d) cs/\aF (cP P n t d)=ydb/\cs.length=P.cellsOf t):
  ∀(r:List ua) (o:Nat) (xs:List (wa H×List wN)),Gv P (fun u=>flat P n u) r o N=ydb->r.mapM (fun f=>DataW.trod enc P w 0 (fun _=>ydb) held bm f.type ((cs.drop f.offset).take (P.cellsOf f.type)))=Gp xs->
   aA ae m S w ((r.zip (xs.map (·.1))).flatMap fun x=>cP P n x.1.type x.2) (cs.drop o)/\aF ((r.zip (xs.map (·.1))).flatMap fun x=>cP P n x.1.type x.2)=ydb
 | [],o,xs,hf,h=>by
  have:=yg hf
  rw[xd (by lia)];simp[aA,aF]
 | f::r,o,xs,hf,h=>by
  simp only[Gv,ye] at hf;have⟨e1,e2,e3⟩:=hf;have e1:=yg e1;rw[uO] at h
  cases h2:DataW.trod enc P w 0 (fun _=>ydb) held bm f.type ((cs.drop f.offset).take (P.cellsOf f.type)) with
  | none=>simp[h2] at h
  | some x=>
   cases h3:r.mapM (fun f=>DataW.trod enc P w 0 (fun _=>ydb) held bm f.type ((cs.drop f.offset).take (P.cellsOf f.type))) with
   | none=>simp[h2,h3] at h
   | some ys=>
    simp only[h2,h3,wH,vU,ve,yc] at h;subst h;have⟨d,ps⟩:=x;have⟨g1,g2,g3⟩:=IH f.type _ d ps e2 h2;have⟨k1,k2⟩:=abe hN IH r _ ys e3 h3;rw[e1] at g1;have e:cs.drop o=(cs.drop o).take (P.cellsOf f.type)++cs.drop (o+P.cellsOf f.type):=by rw[<-vM];exact (wj _ _).symm
    rw[e];exact⟨mH g1 k1,Oh g2 k2⟩
def aec{bm sz:Nat}{e:yA}{f:wa H->List AV}{cs:List yh}(IH:∀(cs:List yh) (d:wa H) (ps:List wN),DataW.trod enc P w 0 (fun _=>ydb) held bm e cs=Gp (d,ps)->aA ae m S w (f d) cs/\aF (f d)=ydb/\cs.length=sz):
  ∀(k j:Nat) (xs:List (wa H×List wN)),(xZ j k).mapM (fun i=>DataW.trod enc P w 0 (fun _=>ydb) held bm e ((cs.drop (i*sz)).take sz))=Gp xs->cs.length=(j+k)*sz->
   aA ae m S w ((xs.map (·.1)).flatMap f) (cs.drop (j*sz))/\aF ((xs.map (·.1)).flatMap f)=ydb
 | 0,j,xs,h,hl=>by
  simp only[ybu,yaz,ve,yc] at h;subst h;rw[xd (by rw[hl];simp)]
  simp[aA,aF]
 | k+1,j,xs,h,hl=>by
  rw[vO,uO] at h
  cases h2:DataW.trod enc P w 0 (fun _=>ydb) held bm e ((cs.drop (j*sz)).take sz) with
  | none=>simp[h2] at h
  | some x=>
   cases h3:(xZ (j+1) k).mapM (fun i=>DataW.trod enc P w 0 (fun _=>ydb) held bm e ((cs.drop (i*sz)).take sz)) with
   | none=>simp[h2,h3] at h
   | some ys=>
    simp only[h2,h3,wH,vU,ve,yc] at h;subst h;have⟨d,ps⟩:=x;have⟨g1,g2,g3⟩:=IH _ d ps h2;have⟨k1,k2⟩:=aec IH k (j+1) ys h3 (by rw[hl];congr 1;lia)
    have e:cs.drop (j*sz)=(cs.drop (j*sz)).take sz++cs.drop ((j+1)*sz):=by rw[xR,tZ,<-vM];exact (wj _ _).symm
    rw[e];exact⟨mH g1 k1,Oh g2 k2⟩
def ac1(hS:∀b,b<w.heap.size->S b):∀(n bm:Nat) (t:yA) (cs:List yh) (d:wa H) (ps:List wN),flat P n t=ydb->DataW.trod enc P w 0 (fun _=>ydb) held bm t cs=Gp (d,ps)->
  aA ae m S w (cP P n t d) cs/\aF (cP P n t d)=ydb/\cs.length=P.cellsOf t
 | 0,bm,t,cs,d,ps,hf,h=>by simp[flat] at hf
 | n+1,0,t,cs,d,ps,hf,h=>by simp[DataW.trod] at h
 | n+1,bm+1,t,cs,d,ps,hf,h=>by
  have IH:=ac1 hS n bm;unfold DataW.trod at h;simp only[flat] at hf
  split at h
  .rename_i hu;simp only[hu] at hf;simp only[yc,yo] at h;obtain⟨rfl,rfl⟩:=h;simp only[cP,hu];exact⟨by simp[aA,af],by simp[aF,aW],by rw[yg hf];rfl⟩
  .rename_i hu;simp only[hu] at hf
   split at h
   .rename_i hk;simp only[yc,yo] at h;obtain⟨rfl,rfl⟩:=h;simp only[cP,hu];refine⟨?_,by simp[aF,aW],by rw[yg hf];rfl⟩
    rw[hk.1];simp[aA,af]
   .cases h
  .rename_i hu;simp only[hu] at hf
   split at h
   .rename_i hk;simp only[yc,yo] at h;obtain⟨rfl,rfl⟩:=h;simp only[cP,hu];refine⟨?_,by simp[aF,aW],by rw[yg hf];rfl⟩
    rw[hk.1];simp[aA,af]
   .cases h
  .rename_i hu;simp only[hu] at hf
   split at h
   .simp only [yc,yo] at h;obtain⟨rfl,rfl⟩:=h;simp only[cP,hu];refine⟨?_,by simp[aF,aW],by rw[yg hf];rfl⟩
    simp only[aA,af];exact⟨_,_,rfl,⟨_,rfl,rfl⟩,rfl⟩
   .cases h
  .rename_i hu;simp[hu] at hf
  .rename_i hu;simp[hu] at hf
  .rename_i hu;simp only[hu,ye] at hf;simp only[yc,yo] at h;obtain⟨rfl,rfl⟩:=h;simp only[cP,hu];exact⟨by simp[aA,af],by simp[aF,aW],by rw[yg hf.1];rfl⟩
  .rename_i e a len cap hu;simp only[hu,ye] at hf;have⟨f1,f2,f3⟩:=hf;have eO:=qY.1 f2;simp only at h
   split at h
   case isFalse=>cases h
   rename_i hc;simp only[xP] at h
   cases h1:(xY len).mapM fun i=>(w.cells? 0 (a.add (i*P.cellsOf e)) (P.cellsOf e)).bind (DataW.trod enc P w 0 (fun _=>ydb) held bm e) with
   | none=>rw[h1] at h;simp at h
   | some kV=>
    cases h2:(xY (cap-len)).mapM fun j=>(w.cells? 0 (a.add ((len+j)*P.cellsOf e)) (P.cellsOf e)).bind (DataW.trod enc P w 0 (fun _=>ydb) held bm e) with
    | none=>rw[h1] at h;simp[h2] at h
    | some rest=>
     rw[h1] at h;simp only[wH,h2,wO,yc,yo] at h;obtain⟨rfl,rfl⟩:=h;have hIH:=fun cs d ps h=>IH e cs d ps f3 h
     rw[yaR] at h1 h2;have⟨k1,k2,k3,k4,k5⟩:=Ug (ae:=ae) (m:=m) (S:=S) eO hIH len 0 kV h1;have Zn:rest.length=cap-len:=by rw[OB h2];simp
     have kC:cap≠0->a.spot=Gq:=by
      intro Fu;rcases xq len with h0 | h0
      .subst h0;simp only[yd,ycx] at h2;have⟨_,_,_,_,q5⟩:=Ug (ae:=ae) (m:=m) (S:=S) eO hIH cap 0 rest h2;exact (q5 (by lia)).resolve_right (by lia)
      .exact (k5 h0).resolve_right (by lia)
     simp only[cP,hu,yS];refine⟨?_,by simp[aF,aW],by rw[yg f1];rfl⟩
     simp only[aA];refine⟨_,_,rfl,?_,rfl⟩;simp only[af];by_cases Fu:cap=0
     .subst Fu;have lR:len=0:=by lia
      subst lR;have he:kV=[]:=yK k4;subst he;exact .inr ⟨a,rfl,rfl,rfl⟩
     .have ⟨b,o,sp⟩:=a;have kC:=kC Fu;simp only at kC;subst kC;refine .inl ⟨b,o,cap,by rw[k4],by lia,fun hx=>?_,?_,k2,by simpa using k1⟩
      .have:rest.length=0:=by simpa using hx
       lia
      .generalize hg:((kV.map (·.1)).flatMap fun x=>cP P n e x)=l at k1
       cases l with
       | nil=>exact .inl rfl
       | cons c l=>exact .inr (hS b (apH k1))
  .rename_i AL x1 No fs hu;simp only[hu] at hf
   split at h
   case isFalse=>cases h
   rename_i hlen
   cases h1:fs.toList.mapM fun f=>DataW.trod enc P w 0 (fun _=>ydb) held bm f.type ((AL.drop f.offset).take (P.cellsOf f.type)) with
   | none=>rw[h1] at h;simp at h
   | some xs=>
    rw[h1] at h;simp only[wO,yc,yo] at h;obtain⟨rfl,rfl⟩:=h;have⟨k1,k2⟩:=abe hlen (fun t cs d ps hf h=>IH t cs d ps hf h) fs.toList 0 xs hf h1;simp only[cP,hu];exact⟨by simpa using k1,k2,hlen⟩
  .rename_i AL x1 No k e hu;simp only[hu,ye] at hf;have⟨f1,f2⟩:=hf;have f1:=yg f1
   split at h
   case isFalse=>cases h
   rename_i hlen
   cases h1:(xY k).mapM fun i=>DataW.trod enc P w 0 (fun _=>ydb) held bm e ((AL.drop (i*P.cellsOf e)).take (P.cellsOf e)) with
   | none=>rw[h1] at h;simp at h
   | some xs=>
    rw[h1] at h;simp only[wO,yc,yo] at h;obtain⟨rfl,rfl⟩:=h;rw[yaR] at h1;have⟨k1,k2⟩:=aec (ae:=ae) (m:=m) (S:=S) (fun cs d ps h=>IH e cs d ps f2 h) k 0 xs h1 (by rw[hlen,f1];simp)
    simp only[cP,hu];exact⟨by simpa using k1,k2,hlen⟩
  all_goals first
   | (cases h;done)
   | (simp_all;done)
def mR(P:xx)(n:Nat)(t:yA)(d:wa H):AV:=
 match P.underlying t with
 | some (.struct _) | some (.array _ _)=>.agg (cP P n t d)
 | _=>(cP P n t d).headD .undef
def arQ(hS:∀b,b<w.heap.size->S b){n base:Nat}{t:yA}{v:yh}{d:wa H}{ps:List wN}(hf:flat P n t=ydb)(h:DataW.Trod enc P w 0 (fun _=>ydb) held t v d ps)(hv:Value.okWide P w .any base t v):af ae m S w (mR P n t d) v/\aW (mR P n t d)=ydb:=by
 have⟨bm,h⟩:=h;have⟨h1,h2,h3⟩:=ac1 (ae:=ae) (m:=m) hS n bm t _ d ps hf h;have one:v.cells=#[v]->(∀fs,P.underlying t≠Gp (.struct fs))->(∀k e,P.underlying t≠Gp (.array k e))->af ae m S w (mR P n t d) v/\aW (mR P n t d)=ydb:=by
  intro hc Ih hna;have e:mR P n t d=(cP P n t d).headD .undef:=by
   unfold mR
   grind
  rw[e];rw[hc] at h1;generalize cP P n t d=l at h1 h2
  cases l with
  | nil=>simp[aA] at h1
  | cons x l=>
   simp only[aA] at h1;simp only[aF,ye] at h2
   grind
 cases n with
 | zero=>simp[flat] at hf
 | succ n=>
  unfold Value.okWide at hv;simp only[flat] at hf
  cases hu:P.underlying t with
  | none=>simp[hu] at hf
  | some ty=>
   rw[hu] at hv hf;cases ty<;>simp only[yD] at hf hv
   case struct fs=>
    obtain⟨cs,rfl,_,_⟩:=hv;have e:mR P (n+1) t d=.agg (cP P (n+1) t d):=by simp only[mR,hu]
    rw[e];exact⟨by simp only[af];exact⟨cs,rfl,h1⟩,by simpa only[aW] using h2⟩
   case array k e=>
    obtain⟨cs,rfl,_,_⟩:=hv;have e:mR P (n+1) t d=.agg (cP P (n+1) t d):=by simp only[mR,hu]
    rw[e];exact⟨by simp only[af];exact⟨cs,rfl,h1⟩,by simpa only[aW] using h2⟩
   all_goals
    refine one ?_ (by simp[hu]) (by simp[hu])
    cases v with
    | agg cs=>exfalso;simp only[Cell.okWide,Cell.ok,hu] at hv
    | _=>rfl
def Bv(P:xx)(n:Nat):List yA->List (wa H)->List AV
 | t::ts,d::ds=>mR P n t d::Bv P n ts ds
 | _,_=>[]
def ac2(hS:∀b,b<w.heap.size->S b){n base:Nat}:∀{ts:List yA} {vs:List yh} {ds:List (wa H)} {ps:List wN},ts.all (flat P n)=ydb->DataW.TrodAll enc P w 0 (fun _=>ydb) held ts vs ds ps->
  (∀(j:Nat) t v,ts[j]? =Gp t->vs[j]? =Gp v->Value.okWide P w .any base t v)->aA ae m S w (Bv P n ts ds) vs/\aF (Bv P n ts ds)=ydb
 | [],[],[],_,_,_,_=>by simp[Bv,aA,aF]
 | t::ts,v::vs,d::ds,ps,hf,h,hv=>by
  simp only[yah,ye] at hf;have⟨p,q,h1,h2,_⟩:=h;have⟨a1,a2⟩:=arQ (ae:=ae) (m:=m) hS hf.1 h1 (hv 0 t v rfl rfl);have⟨b1,b2⟩:=ac2 hS hf.2 h2 (fun j t v h1 h2=>hv (j+1) t v h1 h2);simp only[Bv,aA,aF,ye]
  grind
 | [],_::_,_,_,_,h,_=>by simp[DataW.TrodAll] at h
 | [],[],_::_,_,_,h,_=>by simp[DataW.TrodAll] at h
 | _::_,[],_,_,_,h,_=>by simp[DataW.TrodAll] at h
 | _::_,_::_,[],_,_,h,_=>by simp[DataW.TrodAll] at h
end
end
section
open Go
section
variable {H:Type}{enc:yA×yh->H}{P:xx}{w w':yk}{held:Bool}{sp:Nat->Bool}
def amu(hs:∀b,b<w.heap.size->w'.heap[b]? =w.heap[b]?){a:uL}{u:yh}(h:w.cell? a=Gp u):w'.cell? a=Gp u:=by
 unfold World.cell? at h ⊢
 grind
def alY(hs:∀b,b<w.heap.size->w'.heap[b]? =w.heap[b]?){base:Nat}{a:uL}{n:Nat}{us:List yh}(h:w.cells? base a n=Gp us):w'.cells? base a n=Gp us:=by
 unfold World.cells? at h ⊢
 split at h
 .rename_i hb;rw[yC hb];exact mapM_carry h (fun x y _ _ hx=>amu hs hx)
 .cases h
def arR{a:uL}{n:Nat}(h:0<n):MemPlace.cell a.block (a.off+0)∈MemPlace.row a n:=by
 unfold MemPlace.row
 simp_all
def abf(hs:∀b,b<w.heap.size->w'.heap[b]? =w.heap[b]?):∀(n bm:Nat) (t:yA) (cs:List yh) (d:wa H) (ps:List wN),flat P n t=ydb->DataW.trod enc P w 0 (fun _=>ydb) held bm t cs=Gp (d,ps)->
  (∀p,p∈ps->sp p.block=ydb)->DataW.trod enc P w' 0 sp held bm t cs=Gp (d,ps)
 | 0,bm,t,cs,d,ps,hf,h,hp=>by simp[flat] at hf
 | n+1,0,t,cs,d,ps,hf,h,hp=>by simp[DataW.trod] at h
 | n+1,bm+1,t,cs,d,ps,hf,h,hp=>by
  have IH:=abf hs n bm;have elem:∀{e:yA} {a:uL} {y:wa H×List wN},flat P n e=ydb->(w.cells? 0 a (P.cellsOf e)).bind (DataW.trod enc P w 0 (fun _=>ydb) held bm e)=Gp y->(∀p,p∈y.2->sp p.block=ydb)->
    (w'.cells? 0 a (P.cellsOf e)).bind (DataW.trod enc P w' 0 sp held bm e)=Gp y:=by
   intro e a y he h hq
   cases h1:w.cells? 0 a (P.cellsOf e) with
   | none=>simp[h1] at h
   | some us=>
    rw[h1] at h;rw[alY hs h1]
    grind
  unfold DataW.trod at h ⊢;simp only[flat] at hf
  split at h
  .grind
  .grind
  .grind
  .grind
  .grind
  .grind
  .grind
  .rename_i e a len cap hu;simp only[hu,ye] at hf;obtain⟨f1,f2,f3⟩:=hf;have eO:=qY.1 f2;simp only at h ⊢
   split at h
   case isFalse=>cases h
   rename_i hc;rw[yC hc];simp only[xP] at h
   cases h1:(xY len).mapM fun i=>(w.cells? 0 (a.add (i*P.cellsOf e)) (P.cellsOf e)).bind (DataW.trod enc P w 0 (fun _=>ydb) held bm e) with
   | none=>rw[h1] at h;simp at h
   | some kV=>
    cases h2:(xY (cap-len)).mapM fun j=>(w.cells? 0 (a.add ((len+j)*P.cellsOf e)) (P.cellsOf e)).bind (DataW.trod enc P w 0 (fun _=>ydb) held bm e) with
    | none=>rw[h1] at h;simp[h2] at h
    | some rest=>
     rw[h1] at h;simp only[wH,h2,wO,yc,yo] at h;obtain⟨rfl,rfl⟩:=h;have k1:((xY len).mapM fun i=>(w'.cells? 0 (a.add (i*P.cellsOf e)) (P.cellsOf e)).bind (DataW.trod enc P w' 0 sp held bm e))=Gp kV:=
      mapM_carry h1 (fun x y _ hy hx=>elem f3 hx (fun p hq=>hp p (uj _ (td.2 ⟨y,tH _ hy,hq⟩))))
     have k2:((xY (cap-len)).mapM fun j=>(w'.cells? 0 (a.add ((len+j)*P.cellsOf e)) (P.cellsOf e)).bind (DataW.trod enc P w' 0 sp held bm e))=Gp rest:=
      mapM_carry h2 (fun x y _ hy hx=>elem f3 hx (fun p hq=>hp p (uj _ (td.2 ⟨y,uj _ hy,hq⟩))))
     have hr:(if sp a.block=ydb then (xY (cap-len)).mapM fun j=>(w'.cells? 0 (a.add ((len+j)*P.cellsOf e)) (P.cellsOf e)).bind (DataW.trod enc P w' 0 sp held bm e) else Gp [])=Gp rest:=by
      by_cases kC:sp a.block=ydb
      .rw [yC kC];exact k2
      .rw [yr kC];have h0:¬0<(kV.length+rest.length)*P.cellsOf e:=fun h0=>kC (hp _ (tH _ (arR h0)))
       have hz:kV.length+rest.length=0:=by
        rcases xq (kV.length+rest.length) with h | h
        .exact h
        .exact (h0 (wU h eO)).elim
       have:rest=[]:=yK (by omega)
       rw[this]
     rw[k1];simp only[wH];rw[hr];rfl
  .rename_i AL x1 No fs hu;simp only[hu] at hf
   split at h
   case isFalse=>cases h
   rename_i hlen;rw[yC hlen]
   cases h1:fs.toList.mapM fun f=>DataW.trod enc P w 0 (fun _=>ydb) held bm f.type ((AL.drop f.offset).take (P.cellsOf f.type)) with
   | none=>rw[h1] at h;simp at h
   | some xs=>
    rw[h1] at h;simp only[wO,yc,yo] at h;obtain⟨rfl,rfl⟩:=h;have DC:∀(r:List ua) (o:Nat),Gv P (fun u=>flat P n u) r o (P.cellsOf t)=ydb->∀f,f∈r->flat P n f.type=ydb:=by
     intro r
     induction r with
     | nil=>intro o _ f hm;cases hm
     | cons g r ih=>
      intro o hq f hm;simp only[Gv,ye] at hq;rcases List.mem_cons.1 hm with rfl | hm
      .exact hq.2.1
      .exact ih _ hq.2.2 f hm
    have k1:(fs.toList.mapM fun f=>DataW.trod enc P w' 0 sp held bm f.type ((AL.drop f.offset).take (P.cellsOf f.type)))=Gp xs:=
     mapM_carry h1 (fun f y hm hy hx=>IH _ _ y.1 y.2 (DC _ _ hf f hm) hx (fun p hq=>hp p (td.2 ⟨y,hy,hq⟩)))
    rw[k1];rfl
  .rename_i AL x1 No k e hu;simp only[hu,ye] at hf
   split at h
   case isFalse=>cases h
   rename_i hlen;rw[yC hlen]
   cases h1:(xY k).mapM fun i=>DataW.trod enc P w 0 (fun _=>ydb) held bm e ((AL.drop (i*P.cellsOf e)).take (P.cellsOf e)) with
   | none=>rw[h1] at h;simp at h
   | some xs=>
    rw[h1] at h;simp only[wO,yc,yo] at h;obtain⟨rfl,rfl⟩:=h;have k1:((xY k).mapM fun i=>DataW.trod enc P w' 0 sp held bm e ((AL.drop (i*P.cellsOf e)).take (P.cellsOf e)))=Gp xs:=
     mapM_carry h1 (fun i y _ hy hx=>IH _ _ y.1 y.2 hf.2 hx (fun p hq=>hp p (td.2 ⟨y,hy,hq⟩)))
    rw[k1];rfl
  all_goals first
   | (cases h;done)
   | (simp_all;done)
def aan(hs:∀b,b<w.heap.size->w'.heap[b]? =w.heap[b]?){n:Nat}:∀{ts:List yA} {vs:List yh} {ds:List (wa H)} {ps:List wN},ts.all (flat P n)=ydb->DataW.TrodAll enc P w 0 (fun _=>ydb) held ts vs ds ps->
  (∀p,p∈ps->sp p.block=ydb)->DataW.TrodAll enc P w' 0 sp held ts vs ds ps
 | [],[],[],ps,_,h,_=>by simpa only[DataW.TrodAll] using h
 | t::ts,v::vs,d::ds,ps,hf,h,hp=>by
  simp only[yah,ye] at hf;obtain⟨p,q,⟨bm,h1⟩,h2,rfl⟩:=h;exact⟨p,q,⟨bm,abf hs n bm t _ d p hf.1 h1 (fun x hx=>hp x (tH _ hx))⟩,aan hs hf.2 h2 (fun x hx=>hp x (uj _ hx)),rfl⟩
 | [],_::_,_,_,_,h,_=>by simp[DataW.TrodAll] at h
 | [],[],_::_,_,_,h,_=>by simp[DataW.TrodAll] at h
 | _::_,[],_,_,_,h,_=>by simp[DataW.TrodAll] at h
 | _::_,_::_,[],_,_,h,_=>by simp[DataW.TrodAll] at h
end
end
section
open Go Go.ChangeShapes Go.WideShapes
section
variable {H:Type}{enc:yA×yh->H}{P:xx}{W W':yk}
def anG(hc:Calm W W')(may:wN->Prop):W.keptBut W' may:=by
 refine⟨hc.os,hc.output,fun i hi=>?_⟩;rw[hc.same i hi]
 cases hq:W.heap[i]? with
 | none=>rfl
 | some o=>cases o<;>simp
def alZ(hc:Calm W W'){b off:Nat}(hb:b<W.heap.size):W'.frozen? ⟨b,off,Gq⟩=W.frozen? ⟨b,off,Gq⟩:=by
 unfold World.frozen?;rw[hc.same b hb]
def apI{fn:Func}{s:ycy}{apart fresh handsOn again:Bool}{args:Array yh}{ds gs:List (wa H)}{before:List wN}{n:Nat}{tb:yA}(hW:DataW.Whole enc P fn.params.toList s.vars apart W args.toList ds gs before)(hv:s.vars=[])(Qh:fn.params.toList.all (flat P n)=ydb)(hc:Calm W W')(mC:s.fn H (ds++gs)={results:=[.lit (.bool ydb)],args:=ds})(zb:fn.resultTypes=#[tb])(mb:P.underlying tb=Gp .bool):
  s.post enc P fn apart fresh handsOn again W args (.bool ydb) W':=by
 have aH:=hW.lt;have hW0:=hW;obtain⟨p,q,hA,hV,hpq,hz,hn⟩:=hW;rw[hv] at hV;have hq:gs=[]/\q=[]:=by
  cases gs with
  | nil=>exact⟨rfl,by simpa only[DataW.TrodVars] using hV⟩
  | cons g gs=>simp[DataW.TrodVars] at hV
 obtain⟨rfl,rfl⟩:=hq;have hbp:before=p:=by simp_all
 subst hbp;have eN:∀sp:Nat->Bool,(∀p∈before,sp p.block=ydb)->DataW.TrodAll enc P W' 0 sp ydb fn.params.toList args.toList ds before:=fun sp h=>aan hc.same Qh hA h
 have agt:∀(b:Nat) (sp:Nat->Bool) (hd:Bool),DataW.TrodAll enc P W' b sp hd fn.resultTypes.toList ((Value.bool ydb).resultList fn.resultTypes.size) [.lit (.bool ydb)] []:=by
  intro b sp hd;rw[zb];refine⟨[],[],⟨1,?_⟩,rfl,rfl⟩;simp[DataW.trod,mb,Value.cells]
 have hold:∀p∈before,(fun b=>decide (b<W.heap.size)) p.block=ydb:=fun p hp=>by simpa using aH p hp
 have agu:∀sp:Nat->Bool,DataW.TrodVars enc P W' sp s.vars ([]:List (wa H)) []:=fun sp=>by rw[hv];rfl
 refine⟨ds,[],before,[],before,[],hW0,by rw[mC];exact agt _ _ _,by rw[mC];exact eN _ hold,by rw[mC];exact agu _,anG hc _,fun _=>?_⟩
 refine⟨?_,[.lit (.bool ydb)]++ds,[],[]++before++[],⟨[]++before,[],trodAll_append (eN _ (fun _ _=>rfl)) (agt _ _ _),agu _,rfl,?_,?_⟩,?_⟩
 .intro j t r h1 h2;rw[zb] at h1 h2
  cases j with
  | zero=>
   simp only[List.getElem?_toArray,ui,yc] at h1;simp only[Value.resultList,List.size_toArray,yF,yN,xP,yd,ui,yc] at h2;subst h1;subst h2;simp[Value.okWide,mb,Cell.okWide,Cell.ok]
  | succ j=>simp at h1
 .intro b off hp;have hp:MemPlace.cell b off∈before:=by grind
  rw[alZ hc (b:=b) (aH _ hp)];exact hz b off hp
 .grind
 .grind
def anH{O:bz}{n k:Nat}{fn:Func}{s:ycy}{apart fresh handsOn again:Bool}{base:Nat}{args:Array yh}{ds gs:List (wa H)}{before:List wN}{tb:yA}(hp:eG O n (Bv O.P k fn.params.toList ds) (.bool ydb))(DN:O.w0=W)(mC:O.P.funcs[O.ae n]? =Gp fn)(hb:fn.body.isSome=ydb)(AQ:fn.name≠ "runtime.NumGoroutine")(aM:∀(j:Nat) t v,fn.params[j]? =Gp t->args[j]? =Gp v->Value.okWide O.P W .any base t v)(hW:DataW.Whole enc O.P fn.params.toList s.vars apart W args.toList ds gs before)(hv:s.vars=[])(Qh:fn.params.toList.all (flat O.P k)=ydb)(hfs:s.fn H (ds++gs)={results:=[.lit (.bool ydb)],args:=ds})(zb:fn.resultTypes=#[tb])(mb:O.P.underlying tb=Gp .bool):
  Calls O.P (O.ae n) args W fun e W'=>∃v,e=.returned v/\s.post enc O.P fn apart fresh handsOn again W args v W':=by
 have hA:=hW;obtain⟨p,q,hA,_⟩:=hA;obtain⟨h1,h2⟩:=ac2 (ae:=O.ae) (m:=fh) (S:=fun b=>b<W.heap.size) (fun b hb=>hb) Qh hA (fun j t v a b=>aM j t v (by simpa using a) (by simpa using b));have hi:=hp W (fun b=>b<W.heap.size) args ⟨fun b _=>by rw[DN],by rw[DN];exact yp _⟩ (fun b hb=>hb) h1 h2
 have key:∀e W',acJ O W (fun b=>b<W.heap.size) (.bool ydb) e W'->∃v,e=.returned v/\s.post enc O.P fn apart fresh handsOn again W args v W':=by
  rintro e W' ⟨u,S',rfl,hc,_,_,_,hr⟩;obtain⟨_,_,hu,_⟩:=hr;subst hu;exact⟨_,rfl,apI hW hv Qh hc hfs zb mb⟩
 rcases hi with ⟨_,hi⟩ | ⟨u,w',hi,_⟩
 .exact callsIn_wide.1 (hi.mono key)
 .rw [GH mC hb AQ] at hi;cases hi
end
end
namespace J1
open Go Go.Proofs
noncomputable def O(W:yk):bz:=⟨Tryz.prog,VE.aJ,BJ lY.ae,VE.prog,Qc lY.bq lY.hd,W⟩
def ab6{w:yk}{k:Nat}{os:Array Go.Obj}:Calm w (Go.Sort.grow (w.drewN k) os):=JR (Lib.below_grow w.heap.size w (yp _) k os)
def ac3{W w:yk}(h:Lib.TabIs Tryz.prog W "internal/strconv.uint64pow10" .u64 Lib.pow10Tab)(hg:C1 (O W) w):Lib.TabIs Tryz.prog w "internal/strconv.uint64pow10" .u64 Lib.pow10Tab:=by
 unfold Lib.TabIs World.var? at h ⊢
 cases hn:Tryz.prog.globalNamed "internal/strconv.uint64pow10" with
 | none=>rw[hn] at h;exact h
 | some g=>
  rw[hn] at h;simp only[wH] at h ⊢;have hb:g<W.heap.size:=by
   cases hq:W.heap[g]? with
   | none=>rw[hq] at h;cases h
   | some o=>exact (xC.1 hq).1
  rw[hg.1 g hb];exact h
def az4:∀args w,(callFunc 120 args).run Tryz.prog w=.ok (.enter 120 args) w:=enters_of Tryz.func120 (by kernel_rfl) rfl
def az5:∀args w,(callFunc 190 args).run Tryz.prog w=.ok (.enter 190 args) w:=enters_of Tryz.func190 (by kernel_rfl) rfl
def az6:∀args w,(callFunc 239 args).run Tryz.prog w=.ok (.enter 239 args) w:=enters_of Tryz.func239 (by kernel_rfl) rfl
def az7:∀args w,(callFunc 241 args).run Tryz.prog w=.ok (.enter 241 args) w:=enters_of Tryz.func241 (by kernel_rfl) rfl
def az8:∀args w,(callFunc 242 args).run Tryz.prog w=.ok (.enter 242 args) w:=enters_of Tryz.func242 (by kernel_rfl) rfl
def az9:∀args w,(callFunc 230 args).run Tryz.prog w=.ok (.enter 230 args) w:=enters_of Tryz.func230 (by kernel_rfl) rfl
def aAa:∀args w,(callFunc 196 args).run Tryz.prog w=.ok (.enter 196 args) w:=enters_of Tryz.func196 (by kernel_rfl) rfl
def aAb:∀args w,(callFunc 197 args).run Tryz.prog w=.ok (.enter 197 args) w:=enters_of Tryz.func197 (by kernel_rfl) rfl
def aAc:∀args w,(callFunc 198 args).run Tryz.prog w=.ok (.enter 198 args) w:=enters_of Tryz.func198 (by kernel_rfl) rfl
def aAd:∀args w,(callFunc 249 args).run Tryz.prog w=.ok (.enter 249 args) w:=enters_of Tryz.func249 (by kernel_rfl) rfl
def aAe:∀args w,(callFunc 266 args).run Tryz.prog w=.ok (.enter 266 args) w:=enters_of Tryz.func266 (by kernel_rfl) rfl
def aAf:∀args w,(callFunc 258 args).run Tryz.prog w=.ok (.enter 258 args) w:=enters_of Tryz.func258 (by kernel_rfl) rfl
def arS(b:Nat)(w:yk):(callFunc 265 #[.float .f64 b]).run Tryz.prog w=.ok (.value (.int .u64 b)) w:=by
 rw[run_callFunc_extern Tryz.func265 (by kernel_rfl) (by kernel_rfl) (by kernel_rfl) (e:=Extern.MathFloatBits.float64bits) (by kernel_rfl)];rfl
def al0(b:Nat)(w:yk):(callFunc 264 #[.int .u64 b]).run Tryz.prog w=.ok (.value (.float .f64 b)) w:=by
 rw[run_callFunc_extern Tryz.func264 (by kernel_rfl) (by kernel_rfl) (by kernel_rfl) (e:=Extern.MathFloatBits.float64frombits) (by kernel_rfl)];rfl
def ayt(W:yk)(n:Nat)(sp:List AV->Option AV):Prop:=∀au r,sp au=Gp r->eG (O W) n au r
section
variable {W:yk}{m:Int}(hm:W.cell? ⟨4,0,Gq⟩=Gp (.int .i64 m))(ht:Lib.TabIs Tryz.prog W "internal/strconv.uint64pow10" .u64 Lib.pow10Tab)
include hm ht
theorem ava:ahy.mB (ayt W):=
 (Tr.kU (apz (O:=O W) (f:=198) (by rfl) aAc (fun s z w hl h=>(Tryz.strconv_Atoi s z hl h w).mono fun _ _ ⟨h1,t,h2⟩=>⟨h1,h2▸JR (Lib.bytesWorld_below _ _ _)⟩))
  (Tr.kU (ams (O:=O W) (f:=242) (by rfl) az8 Tryz.strings_Repeat)
  (Tr.kU (apy (O:=O W) (f:=239) (by rfl) az6 (fun z w h0 h1 hg=>(Tryz.strconv_Itoa z h0 h1 w (ac3 ht hg)).mono fun _ _ ⟨h1,k,os,h2⟩=>⟨h1,h2▸ab6⟩))
  (Tr.kU (alk (O:=O W) (f:=190) (by rfl) az5 Tryz.strings_CutPrefix)
  (Tr.kU (arz (O:=O W) (f:=120) (by rfl) az4 (a:=⟨4,0,Gq⟩) (m:=m) hm (fun s sep w hs hc=>Tryz.strings_Cut s sep m w hs hc))
  Tr.kh Tr.kh) Tr.kh) (Tr.kU (alh (O:=O W) (f:=241) (by rfl) az7 (fun z w hz hg=>(Tryz.ak8 z hz w (ac3 ht hg)).mono fun _ _ ⟨h1,k,os,h2⟩=>⟨h1,h2▸ab6⟩))
  Tr.kh Tr.kh)) (Tr.kU (alm (O:=O W) (f:=196) (by rfl) aAa Tryz.strings_HasPrefix)
  (Tr.kU (anx (O:=O W) (f:=230) (by rfl) az9 (fun x y w hx hy=>Tryz.bits_Mul64 x y hx hy w))
  Tr.kh Tr.kh) (Tr.kU (alg (O:=O W) (f:=197) (by rfl) aAb Tryz.strings_TrimPrefix)
  Tr.kh Tr.kh))) (Tr.kU (anB (O:=O W) (f:=263) (by rfl) (fun x y b w h=>Tryz.bits_Sub64 x y b h w))
  (Tr.kU (apA (O:=O W) (f:=266) (by rfl) aAe (fun x w h0 h1=>Tryz.bits_LeadingZeros64 x w h0 h1))
  (Tr.kU (apx (O:=O W) (f:=249) (by rfl) aAd (fun s cs w hs B2 ha=>Tryz.alB s cs w hs B2 ha))
  Tr.kh Tr.kh) (Tr.kU (anA (O:=O W) (f:=261) (by rfl) (fun x y c w h=>Tryz.bits_Add64 x y c h w))
  Tr.kh Tr.kh)) (Tr.kU (alN (O:=O W) (f:=265) (by rfl) arS)
  (Tr.kU (anz (O:=O W) (f:=258) (by rfl) aAf (fun x w h0 h1=>Tryz.bits_Len64 x w h0 h1))
  Tr.kh Tr.kh) (Tr.kU (ald (O:=O W) (f:=264) (by rfl) al0)
  Tr.kh Tr.kh))))
theorem arT:iR (O W) where
 hint n f g h:=Tr.Em (p:=fun f g=>BJ lY.ae g=f) (TJ lY.auq) h
 mixed:=by kernel_rfl
 prog n F h:=Tr.Em lY.arO h
 aJ n sp au r h hs:=Tr.Em (ava hm ht) h au r hs
 Hu n sp hp ct au v an aI h:=by cases h
end
end J1
def b9:List Int->Int
 | []=>0
 | a::r=>if a=0 then b9 r else a
def Tz{l:List Int}{i:Nat}(h:i<l.length):b9 (l.drop i)=if l[i]=0 then b9 (l.drop (i+1)) else l[i]:=by
 rw[yR h,b9]
def oJ(lo hi:Int):List Int->Bool
 | []=>ydc
 | a::r=>if a<lo\/hi<a then ydb else oJ lo hi r
def agv(n:Nat)(lo hi:Int):List (List Int)->Int
 | []=>0
 | r::s=>if r.length≠n then 2 else if oJ lo hi r=ydb then 3 else agv n lo hi s
def anI(s:List (List Int)):Int:=if s.length=0 then 12 else if 16<s.length then 5 else agv s.length (-1000) 1000 s
def ac4{lo hi:Int}{l:List Int}(h:oJ lo hi l=ydc):∀i (cZ:i<l.length),lo<=l[i]/\l[i]<=hi:=by
 induction l with
 | nil=>intro i cZ;exact absurd cZ (Nat.not_lt_zero _)
 | cons a r ih=>
  simp only[oJ] at h
  grind
def anJ{lo hi:Int}{l:List Int}(h:oJ lo hi l=ydc):∀i,oJ lo hi (l.take i)=ydc:=by
 induction l with
 | nil=>intro i;simp[oJ]
 | cons a r ih=>
  intro i;simp only[oJ] at h
  split at h
  .grind
  .rename_i hc
   cases i with
   | zero=>simp[oJ]
   | succ i=>simp only[List.take_succ_cons,oJ,hc,xz,ih h i]
section
variable {x:Int}{a b l:List Int}
def dv:List Int->Nat
 | []=>0
 | a::r=>a.toNat+1000000000*dv r
def ns:∀(a b:List Int),dv (a++b)=dv a+1000000000^a.length*dv b
 | [],b=>by simp[dv]
 | x::a,b=>by
  simp only[yj,dv,ns a b,yF,xn,xK]
  grind
def q8(i:Nat):dv (l.take (i+1))=dv (l.take i)+1000000000^i*(l.getD i 0).toNat:=by
 by_cases h:i<l.length
 .rw [xi h,ns,yQ,xB (by lia)];simp[dv,xc,xv h]
 .rw [yE (by lia),yE (by lia)]
  grind
abbrev dg(l:List Int):Prop:=oJ 0 999999999 l=ydc
def iO:dg (a++b)↔dg a/\dg b:=by
 induction a with
 | nil=>simp[dg,oJ]
 | cons x a ih=>
  simp only[dg,yj,oJ] at ih ⊢
  grind
def mo:dg [x]↔0<=x/\x<1000000000:=by
 simp only[dg,oJ]
 grind
def jn(h:dg l)(i:Nat):0<=l.getD i 0/\l.getD i 0<1000000000:=by
 by_cases hi:i<l.length
 .have:=ac4 h i hi
  grind
 .grind
def Er(h:dg l)(i:Nat):dg (l.take i):=anJ h i
def kW:∀{l:List Int},dg l->dv l<1000000000^l.length
 | [],_=>by simp[dv]
 | x::l,h=>by
  have h':dg ([x]++l):=h;have⟨h1,h2⟩:=iO.1 h';have h1:=mo.1 h1
  have:=kW h2
  simp only[dv,yF,xn]
  lia
def et:List Int->List Int
 | []=>[]
 | a::r=>match et r with | []=>if a=0 then [] else [a] | t::q=>a::t::q
def JT:∀l:List Int,et (l++[0])=et l
 | []=>rfl
 | a::l=>by simp only[yj,et,JT l]
def Oi{a:Int}(h:a≠0):∀l:List Int,et (l++[a])=l++[a]
 | []=>by simp[et,h]
 | b::l=>by
  simp only[yj,et,Oi h l]
  cases hq:l++[a] with
  | nil=>simp at hq
  | cons t q=>rfl
def Bk:∀l:List Int,dv (et l)=dv l
 | []=>rfl
 | a::l=>by
  have ih:=Bk l;simp only[et,dv]
  split
  .rename_i h;rw[h] at ih
   split
   .rename_i h0;subst h0;simp[dv,<-ih]
   .simp [dv,<-ih]
  .rename_i t q h;rw[h] at ih;simp only[dv] at ih ⊢
   lia
def Cy:∀{l:List Int},dg l->dg (et l)
 | [],_=>rfl
 | a::l,h=>by
  have h':dg ([a]++l):=h;have⟨h1,h2⟩:=iO.1 h';have ih:=Cy h2;simp only[et]
  split
  .grind
  .rename_i t q hq;rw[hq] at ih
   exact (iO (a:=[a]) (b:=t::q)).2 ⟨h1,ih⟩
def OC:∀l:List Int,(et l).length<=l.length
 | []=>yp _
 | a::l=>by
  have ih:=OC l;simp only[et]
  grind
def snoc{α:Type}(l:List α):l=[]\/∃m a,l=m++[a]:=by
 rcases List.eq_nil_or_concat l with h | ⟨m,a,h⟩
 .grind
 .grind
def al1:∀(n:Nat) (l:List Int),l.length=n->et (et l)=et l:=by
 intro n
 induction n with
 | zero=>intro l h;rw[yK h];rfl
 | succ n ih=>
  intro l h;rcases snoc l with rfl | ⟨m,a,rfl⟩
  .rfl
  .by_cases h0:a=0
   .subst h0;rw[JT]
    grind
   .rw [Oi h0,Oi h0]
def amv(l:List Int):et (et l)=et l:=al1 _ l rfl
abbrev nz(l:List Int):Prop:=et l=l
def GM(l:List Int):nz (et l):=amv l
def Qi(h:nz l)(hd:dg l)(h0:l≠[]):1000000000^(l.length-1)<=dv l:=by
 rcases snoc l with rfl | ⟨m,a,rfl⟩
 .grind
 .by_cases ha:a=0
  .subst ha
   have:=OC m
   have e:=congrArg xT h;rw[JT] at e
   grind
  .rw [ns]
   have:=mo.1 (iO.1 hd).2
   simp only[dv,yJ,tA,uS,xG,yX];have h1:1<=a.toNat:=by lia
   have:=yV (1000000000^m.length) h1
   lia
def aed(h:nz l)(hd:dg l)(h0:dv l=0):l=[]:=by
 by_cases hl:l=[]
 .grind
 .have:=Qi h hd hl
  grind
def VJ(ha:dg a)(hb:nz b)(bJ:dg b)(h:a.length<b.length):dv a<dv b:=by
 have h1:=kW ha;have h2:=Qi hb bJ (fun e=>by subst e;simp at h);have h3:1000000000^a.length<=1000000000^(b.length-1):=xa (by decide) (by lia)
 lia
def dY(m n:Nat):Int:=if m<n then -1 else if n<m then 1 else 0
def aeY{i:Nat}(h:i<l.length):dv l=dv (l.take i)+1000000000^i*(l[i].toNat+1000000000*dv (l.drop (i+1))):=by
 have e:l=l.take i++l[i]::l.drop (i+1):=by simp_all
 have:dv l=dv (l.take i++l[i]::l.drop (i+1)):=congrArg dv e
 rw[this,ns,yQ,xB (by lia)];rfl
def aee{i:Nat}(ha:dg a)(hb:dg b)(h1:i<a.length)(h2:i<b.length)(he:a.drop (i+1)=b.drop (i+1))(h:a[i]<b[i]):dv a<dv b:=by
 rw[aeY h1,aeY h2,he];have hl:=kW (Er ha i);have g1:=ac4 ha i h1;have h3:a[i].toNat+1000000000*dv (b.drop (i+1))+1<=b[i].toNat+1000000000*dv (b.drop (i+1)):=by lia
 have:=yV (1000000000^i) h3
 grind
def VK:∀{l:List Int} {j:Nat} {x:Int},j<l.length->dv (l.set j x)+1000000000^j*(l.getD j 0).toNat=dv l+1000000000^j*x.toNat
 | [],j,x,h=>by simp at h
 | a::l,0,x,_=>by simp[dv];lia
 | a::l,j+1,x,h=>by
  have ih:=VK (l:=l) (j:=j) (x:=x) (by simpa using h);simp only[ybi,dv,yaZ,xn]
  grind
def PL(h:dg l){j:Nat}(hx:0<=x/\x<1000000000):dg (l.set j x):=by
 by_cases hj:j<l.length
 .rw [vI,yC hj];have e:l=l.take (j+1)++l.drop (j+1):=(wj _ _).symm;have hd:dg (l.drop (j+1)):=by rw[e] at h;exact (iO.1 h).2
  exact iO.2 ⟨Er h j,(iO (a:=[x]) (b:=l.drop (j+1))).2 ⟨mo.2 hx,hd⟩⟩
 .rw [List.set_eq_of_length_le (by lia)];exact h
def ac5{j m:Nat}(h:m≠j):(l.set j x).getD m 0=l.getD m 0:=by grind
def apJ{V0 V V' p q A X Y o c s:Nat}(hs:s=o+A*X+c)(aU:V'+p*q*o=V+p*q*(s%1000000000))(hv:V+p*q*c=V0+p*(A*Y)):
  V'+p*(q*1000000000)*(s/1000000000)=V0+p*(A*(Y+q*X)):=by
 have e:=uk s 1000000000;have e2:p*q*s=p*q*(s%1000000000)+p*(q*1000000000)*(s/1000000000):=by
  conv=>lhs;rw[<-e]
  rw[xK,<-xj (p*q),<-xj p q]
 have e3:p*q*s=p*q*o+p*q*(A*X)+p*q*c:=by rw[hs,xK,xK]
 have e4:p*(A*(Y+q*X))=p*(A*Y)+p*q*(A*X):=by
  rw[xK,xK,xj p q,<-xj A q X,xt A q,xj q A X]
 lia
def ac6(n:Nat):dv (yz n 0)=0:=by
 induction n with
 | zero=>rfl
 | succ n ih=>simp[wP,dv,ih]
def ac7(n:Nat):dg (yz n 0):=by
 induction n with
 | zero=>rfl
 | succ n ih=>exact (iO (a:=[0]) (b:=yz n 0)).2 ⟨by decide,ih⟩
end
section
variable {l m:List Nat}{U V i p u0 u1 u2 ur v1 v2 vr x:Nat}
def bv(b:Nat):List Nat->Nat
 | []=>0
 | a::r=>a+b*bv b r
def lo(b:Nat)(l:List Nat):Prop:=∀x,x∈l->x<b
section
variable {b:Nat}
def CT(a:Nat):bv b [a]=a:=by simp[bv]
def zT:∀(l m:List Nat),bv b (l++m)=bv b l+b^l.length*bv b m
 | [],m=>by simp[bv]
 | x::l,m=>by
  simp only[yj,bv,zT l m,yF,xn,xK]
  grind
def gd(h:i<l.length):l[i]=l.getD i 0:=by simp_all
def VL(h:l.length<=i):l.getD i 0=0:=by simp_all
def kK(i:Nat):bv b (l.take (i+1))=bv b (l.take i)+b^i*l.getD i 0:=by
 by_cases h:i<l.length
 .rw [xi h,zT,yQ,xB (by lia),CT,gd h]
 .rw [yE (by lia),yE (by lia),VL (by lia),xG,yX]
def PM:lo b []:=fun _ h=>by simp at h
def OD:lo b (l++m)↔lo b l/\lo b m:=by
 constructor
 .intro h;exact⟨fun x hx=>h x (by simp[hx]),fun x hx=>h x (by simp[hx])⟩
 .rintro ⟨h1,h2⟩ x hx;rcases xF.1 hx with h | h
  .exact h1 x h
  .exact h2 x h
def He:lo b [x]↔x<b:=by simp[lo]
def iS(hb:0<b)(h:lo b l)(i:Nat):l.getD i 0<b:=by
 by_cases hi:i<l.length
 .rw [<-gd hi];exact h _ (List.getElem_mem hi)
 .grind
def CH(h:lo b l)(i:Nat):lo b (l.take i):=fun x hx=>h x (List.mem_of_mem_take hx)
def aef(h:lo b l)(i:Nat):lo b (l.drop i):=fun x hx=>h x (List.mem_of_mem_drop hx)
def nF(h:lo b l)(hx:x<b):lo b (l.set i x):=fun y hy=>by
 rcases List.mem_or_eq_of_mem_set hy with h1 | h1
 .exact h y h1
 .lia
def Hf(hb:0<b)(n:Nat):lo b (yz n 0):=fun x hx=>by
 grind
def Hg(n:Nat):bv b (yz n 0)=0:=by
 induction n with
 | zero=>rfl
 | succ n ih=>simp[wP,bv,ih]
def Es(n m:Nat):(yz n (0:Nat)).getD m 0=0:=by grind
def nH:∀{l:List Nat},lo b l->bv b l<b^l.length
 | [],_=>by simp[bv]
 | x::l,h=>by
  have h1:=h x (by simp);have h2:=nH (l:=l) (fun y hy=>h y (by simp[hy]));simp only[bv,yF,xn,xt _ b]
  have:=yV b (show bv b l+1<=b^l.length from h2)
  grind
def pK:∀{l:List Nat} {i x:Nat},i<l.length->bv b (l.set i x)+b^i*l.getD i 0=bv b l+b^i*x
 | [],i,x,h=>by simp at h
 | a::l,0,x,_=>by simp[bv];lia
 | a::l,i+1,x,h=>by
  have ih:=pK (l:=l) (i:=i) (x:=x) (by simpa using h)
  have:=congrArg (fun t=>b*t) ih
  simp only[xK] at this;simp only[ybi,bv,yaZ,xn,xt _ b,xj] at this ⊢
  lia
def q9{m:Nat}(h:i≠m):(l.set i x).getD m 0=l.getD m 0:=by simp_all
def amw(h:i<l.length):(l.set i x).getD i 0=x:=by simp_all
def Kb(l:List Nat)(i:Nat)(h:i<=l.length):bv b l=bv b (l.take i)+b^i*bv b (l.drop i):=by
 have:=zT (b:=b) (l.take i) (l.drop i)
 simp_all
def ew:List Nat->List Nat
 | []=>[]
 | a::r=>match ew r with | []=>if a=0 then [] else [a] | t::q=>a::t::q
def Oj:∀l:List Nat,ew (l++[0])=ew l
 | []=>rfl
 | a::l=>by simp only[yj,ew,Oj l]
def Gw{a:Nat}(h:a≠0):∀l:List Nat,ew (l++[a])=l++[a]
 | []=>by simp[ew,h]
 | b::l=>by
  simp only[yj,ew,Gw h l]
  cases hq:l++[a] with
  | nil=>simp at hq
  | cons t q=>rfl
abbrev iJ(l:List Nat):Prop:=ew l=l
def amx:∀(n:Nat) (l:List Nat),l.length=n->∃i,i<=n/\ew l=l.take i/\iJ (l.take i)/\bv b (l.take i)=bv b l:=by
 intro n
 induction n with
 | zero=>intro l h;rw[yK h];exact⟨0,yp _,rfl,rfl,rfl⟩
 | succ n ih=>
  intro l h;rcases snoc l with rfl | ⟨m,a,rfl⟩
  .grind
  .have hm:m.length=n:=by simp_all
   by_cases h0:a=0
   .subst h0;have⟨i,h1,h2,h3,h4⟩:=ih m hm;have e:(m++[0]).take i=m.take i:=by grind
    refine⟨i,by lia,by rw[Oj,h2,e],by rw[e];exact h3,?_⟩
    rw[e,h4,zT];simp[bv]
   .have e:(m++[a]).take (n+1)=m++[a]:=yE (by simp[hm]);exact⟨n+1,yp _,by rw[e,Gw h0],by rw[e];exact Gw h0 m,by rw[e]⟩
def OE(l:List Nat):∃i,i<=l.length/\ew l=l.take i/\iJ (ew l)/\bv b (ew l)=bv b l:=by
 have⟨i,h1,h2,h3,h4⟩:=amx (b:=b) l.length l rfl
 grind
def Cz(l:List Nat):bv b (ew l)=bv b l:=by
 have⟨_,_,_,_,h⟩:=OE (b:=b) l;exact h
def CA(l:List Nat):iJ (ew l):=by
 have⟨_,_,_,h,_⟩:=OE (b:=2) l;exact h
def CB(h:lo b l):lo b (ew l):=by
 have⟨i,_,h2,_⟩:=OE (b:=b) l;rw[h2];exact CH h i
def anK(l:List Nat):(ew l).length<=l.length:=by
 have⟨i,_,h2,_⟩:=OE (b:=2) l
 grind
def OT(h:iJ l)(h0:l≠[]):l.getD (l.length-1) 0≠0:=by
 rcases snoc l with rfl | ⟨m,a,rfl⟩
 .grind
 .intro ha
  have:a=0:=by
   grind
  subst this;have e:=congrArg xT h;rw[Oj] at e
  have:=anK m
  grind
def VM(hb:0<b)(h:iJ l)(h0:l≠[]):b^(l.length-1)<=bv b l:=by
 rcases snoc l with rfl | ⟨m,a,rfl⟩
 .grind
 .have ha:=OT h h0;simp[xc] at ha;rw[zT,CT];simp only[yJ,tA,uS]
  have:=yV (b^m.length) (show 1<=a by lia)
  lia
def Pg(hb:1<b)(hl:lo b l)(hm:iJ m)(h:l.length<m.length):bv b l<bv b m:=by
 have h1:=nH hl;have h2:=VM (b:=b) (by lia) hm (fun e=>by subst e;simp at h);have h3:b^l.length<=b^(m.length-1):=xa (by lia) (by lia)
 lia
def aeg(hl:lo b l)(h1:i<l.length)(h2:i<m.length)(he:l.drop (i+1)=m.drop (i+1))(h:l.getD i 0<m.getD i 0):bv b l<bv b m:=by
 rw[Kb l (i+1) (by lia),Kb m (i+1) (by lia),he,kK,kK]
 have:=nH (CH hl i)
 have:=yV (b^i) (show l.getD i 0+1<=m.getD i 0 from h)
 grind
def anL(hb:1<b){k:Nat}(h:iJ l)(hk:bv b l<b^k):l.length<=k:=by
 by_cases h0:l=[]
 .grind
 .have h1:=VM (b:=b) (by lia) h h0;have h2:b^(l.length-1)<b^k:=wo h1 hk
  have:=(uh hb).1 h2
  lia
def abg{t r:Nat}(hV:V=(v1*b+v2)*p+vr)(hU:U=((u0*b+u1)*b+u2)*p+ur)(hur:ur<p)(ht:t*v1+r=u0*b+u1)(h:r*b+u2<t*v2):U/V<=t-1:=by
 have h1:U<t*V:=by
  have e:t*((v1*b+v2)*p)=((t*v1)*b+t*v2)*p:=by
   grind
  have h2:((u0*b+u1)*b+u2)+1<=(t*v1)*b+t*v2:=by rw[<-ht,xR];lia
  have h3:=yO p h2;rw[hV,hU,xK,e]
  grind
 have zD:0<V:=by
  grind
 have:=(xE zD).2 h1
 lia
def ab7{t r:Nat}(hb:0<b)(hV:V=(v1*b+v2)*p+vr)(Np:vr<p)(hU:U=((u0*b+u1)*b+u2)*p+ur)(fj:0<v1)(cW:v2<b)(mb:t<b)(ht:t*v1+r=u0*b+u1)(h:b<=r\/t*v2<=r*b+u2):t<=U/V+1:=by
 have h2:t*v2<=r*b+u2:=by
  rcases h with h | h
  .have:=xf (uM mb) (uM cW)
   have:=yO b h
   lia
  .exact h
 have h3:t*(v1*b+v2)<=(u0*b+u1)*b+u2:=by
  rw[xK,<-xj,<-ht,xR];lia
 have hp:0<p:=by lia
 have aGc:b<=v1*b:=Nat.le_mul_of_pos_left b fj;have zD:0<V:=by
  have:=wU (show 0<v1*b+v2 by lia) hp
  lia
 rcases xq t with h0 | h0
 .grind
 .obtain ⟨s,rfl⟩:∃s,t=s+1:=⟨t-1,by lia⟩;have h4:s*V<=U:=by
   have h5:V<=(v1*b+v2+1)*p:=by grind
   have h6:=yV s h5;have h7:s*(v1*b+v2+1)<=(s+1)*(v1*b+v2):=by
    grind
   have h8:=yO p (xo h7 h3)
   grind
  exact Nat.succ_le_succ ((tF zD).2 h4)
def TA(hV:V=(v1*b+v2)*p+vr)(hU:U=((u0*b+u1)*b+u2)*p+ur)(hur:ur<p)(Cb:u2<b)(fj:0<v1):U/V<=(u0*b+u1)/v1:=by
 by_cases zD:V=0
 .grind
 .refine (tF fj).2 ?_;have h1:=Nat.div_mul_le_self U V;generalize U/V=q at h1 ⊢;have h2:q*v1*(b*p)<=q*V:=by
   rw[hV,xj]
   grind
  have h3:U<(u0*b+u1+1)*(b*p):=by
   have:(u0*b+u1)*b+u2+1<=(u0*b+u1+1)*b:=by grind
   have:=yO p this
   grind
  have h4:q*v1*(b*p)<(u0*b+u1+1)*(b*p):=by lia
  have:=uT h4
  lia
def ab8(hV:V=(v1*b+v2)*p+vr)(hU:U=((u0*b+u1)*b+u2)*p+ur)(Np:vr<p)(cW:v2<b)(h:U<b*V):u0<=v1:=by
 refine Nat.le_of_lt_succ ?_;have h1:V<(v1+1)*(b*p):=by
  have:v1*b+v2+1<=(v1+1)*b:=by grind
  have:=yO p this
  grind
 have h2:u0*(b*(b*p))<=U:=by
  grind
 have h3:=yV b (uM h1);have e:b*((v1+1)*(b*p))=(v1+1)*(b*(b*p)):=by grind
 rw[e] at h3;have h4:u0*(b*(b*p))<(v1+1)*(b*(b*p)):=wo h2 (yG h h3);exact uT h4
end
end
section
variable {P:aE}{L:Lib}{f:cx}{F:Nat->cx}
def DO(f:cx)(F:Nat->cx):Prop:=∀c s r,f c s=Gp r->∃n,F n c s=Gp r
def Mon(F:Nat->cx):Prop:=∀n m,n<=m->Le (F n) (F m)
def NV(h:DO f F)(n:Nat)(au:List AV)(r:AV)(hr:bO P L f n au=Gp r):∃k,bO P L (F k) n au=Gp r:=by
 unfold bO at hr ⊢
 cases hL:L.pure n with
 | some sp=>exact⟨0,by simpa only[hL] using hr⟩
 | none=>
  simp only[hL] at hr ⊢
  cases hP:P n with
  | none=>simp[hP] at hr
  | some G=>
   simp only[hP] at hr ⊢
   cases hf:f G.body ⟨fA 0 au,[],0,0⟩ with
   | none=>simp[hf] at hr
   | some q=>
    have⟨k,hk⟩:=h _ _ _ hf
    grind
def TK(h:DO f F)(hp:Hp)(ct:Nat)(n:Nat)(au:List AV)(r:AV×Hp×Nat)(hr:iQ P L f hp ct n au=Gp r):∃k,iQ P L (F k) hp ct n au=Gp r:=by
 unfold iQ at hr ⊢
 cases hL:L.heap n with
 | some sp=>exact⟨0,by simpa only[hL] using hr⟩
 | none=>
  simp only[hL] at hr ⊢
  cases hP:P n with
  | none=>simp[hP] at hr
  | some G=>
   simp only[hP] at hr ⊢
   cases hf:f G.body ⟨fA 0 au,hp,ct,ct⟩ with
   | none=>simp[hf] at hr
   | some q=>
    have⟨k,hk⟩:=h _ _ _ hf
    grind
def aaM(h:DO f F)(hm:Mon F)(hp:Hp)(ct:Nat)(l:Nat)(xs:List AV)(r:AV×Hp×Nat)(hr:gF f hp ct l xs=Gp r):∃k,gF (F k) hp ct l xs=Gp r:=by
 have key:∃k,∀g,Le (F k) g->gF g hp ct l xs=Gp r:=by
  unfold gF at hr
  cases hl:ai hp l with
  | none=>simp[hl] at hr
  | some o=>
   split at hr
   .rename_i tm ps as_ body pe qB
    cases hb:ri tm ps xs with
    | none=>simp[hb] at hr
    | some tm'=>
     simp only[hb] at hr
     cases h1:f as_ ⟨tm',hp,ct,ct⟩ with
     | none=>simp[h1] at hr
     | some q=>
      have⟨k1,fZ⟩:=h _ _ _ h1
      split at hr
      .rename_i s1 az2
       split at hr
       .rename_i gO qc Dx EW nQ az3
        cases h2:f body ⟨s1.tm,aU s1.hp l (.lp gO qc Dx EW 1 nQ),s1.ct,s1.ct⟩ with
        | none=>simp[h2] at hr
        | some q2=>
         have⟨k2,zq⟩:=h _ _ _ h2;refine⟨max k1 k2,fun g hg=>?_⟩;have e1:=hg _ _ _ (hm k1 _ (uH k1 k2) _ _ _ fZ);have e2:=hg _ _ _ (hm k2 _ (uy k1 k2) _ _ _ zq);unfold gF
         grind
       .simp at hr
      .simp at hr
   .simp at hr
 have⟨k,hk⟩:=key;exact⟨k,hk _ (fun _ _ _ h=>h)⟩
def abh(h:DO f F)(hm:Mon F)(hp:Hp)(ct:Nat)(m:Md)(fv:AV)(xs:List AV)(r:AV×Hp×Nat)(hr:eL P L f hp ct m fv xs=Gp r):∃k,eL P L (F k) hp ct m fv xs=Gp r:=by
 unfold eL at hr ⊢
 split at hr
 .rename_i n first cap
  cases m with
  | pure=>
   cases hz:cB deep hp (first++(xs++cap)) with
   | none=>simp[hz] at hr
   | some q=>
    simp only[hz] at hr ⊢
    cases hc:bO P L f n q.1 with
    | none=>simp[hc] at hr
    | some u=>
     have⟨k,hk⟩:=NV h n q.1 u hc
     grind
  | own=>
   cases hz:cB deep hp (first++(xs++cap)) with
   | none=>simp[hz] at hr
   | some q=>
    simp only[hz] at hr ⊢
    cases hc:bO P L f n q.1 with
    | none=>simp[hc] at hr
    | some u=>
     have⟨k,hk⟩:=NV h n q.1 u hc
     grind
  | heap=>exact TK h _ _ _ _ _ hr
  | dyn=>
   cases hz:aF (first++(xs++cap)) with
   | true=>
    simp only[hz,yu] at hr ⊢
    cases hc:bO P L f n (first++(xs++cap)) with
    | none=>simp[hc] at hr
    | some u=>
     have⟨k,hk⟩:=NV h n _ u hc
     grind
   | false=>
    simp only[hz,yP] at hr ⊢;exact TK h _ _ _ _ _ hr
 .split at hr
  .exact aaM h hm _ _ _ _ _ hr
  .exact aaM h hm _ _ _ _ _ hr
  .simp at hr
 .simp at hr
def apK(h:DO f F)(hm:Mon F)(tm:Env)(hp:Hp)(ct:Nat)(o:Op)(r:AV×Hp×Nat)(hr:aZ P L f tm hp ct o=Gp r):∃k,aZ P L (F k) tm hp ct o=Gp r:=by
 unfold aZ at hr ⊢
 split at hr
 .exact abh h hm _ _ _ _ _ _ hr
 .rename_i rs fv xs
  cases hc:eL P L f hp ct .dyn (ay tm fv) (dN tm xs) with
  | none=>simp[hc] at hr
  | some q=>
   have⟨k,hk⟩:=abh h hm _ _ _ _ _ _ hc
   grind
 all_goals exact⟨0,by simpa only using hr⟩
def Uh(h:DO f F)(hm:Mon F):∀(ops:List aS) (s s':St),de P L f ops s=Gp s'->∃k,de P L (F k) ops s=Gp s'
 | [],s,s',hr=>⟨0,by simpa only[de] using hr⟩
 | ⟨d,gd,o⟩::r,s,s',hr=>by
  simp only[de] at hr ⊢
  split at hr
  .rename_i hw
   cases ho:aZ P L f s.tm s.hp s.ct o with
   | none=>simp[ho] at hr
   | some q=>
    have⟨k1,fZ⟩:=apK h hm _ _ _ _ _ ho;simp only[ho] at hr;have⟨k2,zq⟩:=Uh h hm r _ _ hr;refine⟨max k1 k2,?_⟩;rw[ab0 (hm k1 _ (uH k1 k2)) _ _ _ _ _ fZ];exact Oe (hm k2 _ (uy k1 k2)) r _ _ zq
  .rename_i hw;exact Uh h hm r _ _ hr
  .simp at hr
def Ek(h:DO f F)(hm:Mon F):∀(c:VC) (s:St) (r:Ex×St),bE P L f c s=Gp r->∃k,bE P L (F k) c s=Gp r
 | .skip,s,r,hr=>⟨0,by simpa only[bE] using hr⟩
 | .oO ops,s,r,hr=>by
  simp only[bE] at hr ⊢
  cases ho:de P L f ops s with
  | none=>simp[ho] at hr
  | some s'=>
   have⟨k,hk⟩:=Uh h hm _ _ _ ho
   grind
 | .seq a b,s,r,hr=>by
  simp only[bE] at hr ⊢
  cases ha:bE P L f a s with
  | none=>simp[ha] at hr
  | some q=>
   have⟨k1,fZ⟩:=Ek h hm a s q ha;have⟨ex,s1⟩:=q
   cases ex with
   | normal=>
    simp only[ha] at hr;have⟨k2,zq⟩:=Ek h hm b s1 r hr;refine⟨max k1 k2,?_⟩;rw[sG (hm k1 _ (uH k1 k2)) a s _ fZ];exact sG (hm k2 _ (uy k1 k2)) b s1 r zq
   | ret=>exact⟨k1,by rw[fZ];simpa only[ha] using hr⟩
   | exit id=>exact⟨k1,by rw[fZ];simpa only[ha] using hr⟩
 | .cond x a b,s,r,hr=>by
  simp only[bE] at hr ⊢
  split at hr
  .rename_i t ht
   cases t with
   | true=>simp only[yu] at hr ⊢;exact Ek h hm a s r hr
   | false=>simp only[yP] at hr ⊢;exact Ek h hm b s r hr
  .simp at hr
 | .eb id a,s,r,hr=>by
  simp only[bE] at hr ⊢
  cases ha:bE P L f a s with
  | none=>simp[ha] at hr
  | some q=>
   have⟨k,hk⟩:=Ek h hm a s q ha
   grind
 | .kp live,s,r,hr=>⟨0,by simpa only[bE] using hr⟩
 | .fz ts,s,r,hr=>⟨0,by simpa only[bE] using hr⟩
 | .loop live a,s,r,hr=>by
  simp only[bE] at hr ⊢
  cases ha:bE P L f a (bn live s) with
  | none=>simp[ha] at hr
  | some q=>
   have⟨k1,fZ⟩:=Ek h hm a _ q ha;have⟨ex,s1⟩:=q
   cases ex with
   | normal=>
    simp only[ha] at hr;have⟨k2,zq⟩:=h _ _ _ hr;refine⟨max k1 k2,?_⟩;rw[sG (hm k1 _ (uH k1 k2)) a _ _ fZ];exact hm k2 _ (uy k1 k2) _ _ _ zq
   | ret=>exact⟨k1,by rw[fZ];simpa only[ha] using hr⟩
   | exit id=>exact⟨k1,by rw[fZ];simpa only[ha] using hr⟩
 | .rf fv ps as_ body,s,r,hr=>by
  simp only[bE] at hr ⊢
  split at hr
  .rename_i n first cap hx
   split at hr
   .grind
   .rename_i hL
    cases hc:iQ P L f ((s.ct,.lp s.tm ps as_ body 0 .none)::s.hp) (s.ct+1) n (first++(.fn (.y s.ct) [] []::cap)) with
    | none=>simp[hc] at hr
    | some q=>
     have⟨k,hk⟩:=TK h _ _ _ _ _ hc
     grind
  .simp at hr
 | .exit id,s,r,hr=>⟨0,by simpa only[bE] using hr⟩
 | .ret,s,r,hr=>⟨0,by simpa only[bE] using hr⟩
end
section
variable (P:aE)(L:Lib)
noncomputable def D:cx:=fun c s=>@dite _ (∃r n,ev P L n c s=Gp r) (Classical.propDecidable _) (fun h=>Gp h.choose) (fun _=>Gq)
variable {P L}
def ahA{c:VC}{s:St}{r:Ex×St}{n:Nat}(h:ev P L n c s=Gp r):D P L c s=Gp r:=by
 have hx:∃r n,ev P L n c s=Gp r:=⟨r,n,h⟩;unfold D;have⟨m,hm⟩:=hx.choose_spec;have e1:=Vf P L (uH n m) _ _ _ h;have e2:=Vf P L (uy n m) _ _ _ hm
 grind
def Xr{c:VC}{s:St}{r:Ex×St}(h:D P L c s=Gp r):∃n,ev P L n c s=Gp r:=by
 unfold D at h;by_cases hx:∃r n,ev P L n c s=Gp r
 .grind
 .grind
def aAg(n:Nat):Le (ev P L n) (D P L):=fun _ _ _ h=>ahA h
def agw:DO (D P L) (ev P L):=fun _ _ _ h=>Xr h
def avb:Mon (ev P L):=fun _ _ h=>Vf P L h
def lM(c:VC)(s:St):D P L c s=bE P L (D P L) c s:=by
 cases h:D P L c s with
 | some r=>
  have⟨n,hn⟩:=Xr h
  cases n with
  | zero=>rw[Ko] at hn;cases hn
  | succ n=>rw[Pf] at hn;exact (sG (aAg n) c s r hn).symm
 | none=>
  cases hs:bE P L (D P L) c s with
  | none=>rfl
  | some r=>
   have⟨n,hn⟩:=Ek agw avb c s r hs;rw[<-Pf] at hn;rw[ahA hn] at h;cases h
def aeZ{f:Nat}{au:List AV}{r:AV}(h:bO P L (D P L) f au=Gp r):∃n,YF P L n f au=Gp r:=NV agw f au r h
end
section
open Go (IntKind BinOp UnOp)
structure Has(P:aE)(L:Lib)(n:Nat)(F:az):Prop where
 pure:L.pure n=Gq
 heap:L.heap n=Gq
 code:P n=Gp F
noncomputable def rA(P:aE)(L:Lib)(r:Option (Ex×St))(b:VC):Option (Ex×St):=match r with | some (.normal,s)=>D P L b s | r=>r
def By(id:Nat)(r:Option (Ex×St)):Option (Ex×St):=match r with | some (.exit j,s)=>bif yq j id then Gp (.normal,s) else Gp (.exit j,s) | r=>r
noncomputable def LA(P:aE)(L:Lib)(live:List Nat)(a:VC)(r:Option (Ex×St)):Option (Ex×St):=match r with | some (.normal,s)=>D P L (.loop live a) s | r=>r
def norm(r:Option St):Option (Ex×St):=match r with | some s=>Gp (.normal,s) | none=>Gq
noncomputable def Qj(P:aE)(L:Lib)(v:AV)(a b:VC)(s:St):Option (Ex×St):=match v with | .bool t=>bif t then D P L a s else D P L b s | _=>Gq
def avc(s:St):D P L .skip s=Gp (.normal,s):=by rw[lM];rfl
def avd(id:Nat)(s:St):D P L (.exit id) s=Gp (.exit id,s):=by rw[lM];rfl
def ayu(s:St):D P L .ret s=Gp (.ret,s):=by rw[lM];rfl
def ahB(live:List Nat)(s:St):D P L (.kp live) s=Gp (.normal,bn live s):=by rw[lM];rfl
def aAh(ts:List Nat)(s:St):D P L (.fz ts) s=norm (rq ts s):=by rw[lM];rfl
def ayv(ops:List aS)(s:St):D P L (.oO ops) s=norm (de P L (D P L) ops s):=by rw[lM];rfl
def nI(a b:VC)(s:St):D P L (.seq a b) s=rA P L (D P L a s) b:=by
 rw[lM,lM a];simp only[bE,rA]
 cases bE P L (D P L) a s with
 | none=>rfl
 | some q=>
  have⟨e,s1⟩:=q
  cases e with
  | normal=>exact (lM b s1).symm
  | ret=>rfl
  | exit id=>rfl
def ave(x:X)(a b:VC)(s:St):D P L (.cond x a b) s=Qj P L (ay s.tm x) a b s:=by
 rw[lM];simp only[bE,Qj]
 cases ay s.tm x with
 | bool t=>
  cases t with
  | true=>exact (lM a s).symm
  | false=>exact (lM b s).symm
 | _=>rfl
def ayw(id:Nat)(a:VC)(s:St):D P L (.eb id a) s=By id (D P L a s):=by
 rw[lM,lM a];simp only[bE,By]
 cases bE P L (D P L) a s with
 | none=>rfl
 | some q=>have⟨e,s1⟩:=q;cases e<;>rfl
def PN(live:List Nat)(a:VC)(s:St):D P L (.loop live a) s=LA P L live a (D P L a (bn live s)):=by
 rw[lM,lM a];simp only[bE,LA]
 cases bE P L (D P L) a (bn live s) with
 | none=>rfl
 | some q=>have⟨e,s1⟩:=q;cases e<;>rfl
def jk(s:St)(b:VC):rA P L (Gp (.normal,s)) b=D P L b s:=rfl
def arU(s:St)(b:VC):rA P L (Gp (.ret,s)) b=Gp (.ret,s):=rfl
def arV(id:Nat)(s:St)(b:VC):rA P L (Gp (.exit id,s)) b=Gp (.exit id,s):=rfl
def aeh(live:List Nat)(a:VC)(s:St):LA P L live a (Gp (.normal,s))=D P L (.loop live a) s:=rfl
def arW(live:List Nat)(a:VC)(s:St):LA P L live a (Gp (.ret,s))=Gp (.ret,s):=rfl
def arX(live:List Nat)(a:VC)(id:Nat)(s:St):LA P L live a (Gp (.exit id,s))=Gp (.exit id,s):=rfl
def arY(id:Nat)(s:St):By id (Gp (.normal,s))=Gp (.normal,s):=rfl
def arZ(id:Nat)(s:St):By id (Gp (.ret,s))=Gp (.ret,s):=rfl
def aei(id:Nat)(s:St):By id (Gp (.exit id,s))=Gp (.normal,s):=by simp only[By,wQ,yu]
def ar0{id j:Nat}(s:St)(h:j≠id):By id (Gp (.exit j,s))=Gp (.exit j,s):=by
 have:yq j id=ydc:=by
  cases hq:yq j id with
  | false=>rfl
  | true=>exact absurd (yg hq) h
 simp only[By,this,yP]
def avf(s:St):norm (Gp s)=Gp (.normal,s):=rfl
def avg:norm Gq=Gq:=rfl
def ar1(a b:VC)(s:St):Qj P L (.bool ydb) a b s=D P L a s:=rfl
def ar2(a b:VC)(s:St):Qj P L (.bool ydc) a b s=D P L b s:=rfl
noncomputable def Wr(P:aE)(L:Lib)(d:Option Nat)(r:List aS)(tm:Env)(base:Nat)(q:iH):Option St:=
 match q with | some (v,hp,ct)=>de P L (D P L) r ⟨put d v tm,hp,ct,base⟩ | none=>Gq
noncomputable def EM(P:aE)(L:Lib)(v:AV)(b:Bool)(d:Option Nat)(o:Op)(r:List aS)(s:St):Option St:=
 match v with
 | .bool c=>bif c==b then de P L (D P L) (⟨d,Gq,o⟩::r) s else de P L (D P L) r ⟨put d (.av []) s.tm,s.hp,s.ct,s.base⟩
 | .av []=>de P L (D P L) r ⟨put d (.av []) s.tm,s.hp,s.ct,s.base⟩
 | _=>Gq
def ar3(s:St):de P L (D P L) [] s=Gp s:=rfl
def apL(d:Option Nat)(o:Op)(r:List aS)(tm:Env)(hp:Hp)(ct base:Nat):
  de P L (D P L) (⟨d,Gq,o⟩::r) ⟨tm,hp,ct,base⟩=Wr P L d r tm base (aZ P L (D P L) tm hp ct o):=by
 simp only[de,Wr]
 grind
def anM(d:Option Nat)(t:Nat)(b:Bool)(o:Op)(r:List aS)(tm:Env)(hp:Hp)(ct base:Nat):
  de P L (D P L) (⟨d,Gp (t,b),o⟩::r) ⟨tm,hp,ct,base⟩=EM P L (ak tm t) b d o r ⟨tm,hp,ct,base⟩:=by
 simp only[de,EM]
 cases ak tm t with
 | bool c=>
  simp only
  cases hc:(c==b) with
  | true=>simp only[yu]
  | false=>simp only[yP]
 | av vs=>cases vs<;>rfl
 | _=>rfl
def ar4(d:Option Nat)(r:List aS)(tm:Env)(base:Nat)(v:AV)(hp:Hp)(ct:Nat):Wr P L d r tm base (Gp (v,hp,ct))=de P L (D P L) r ⟨put d v tm,hp,ct,base⟩:=rfl
def ayx(i:Nat)(v:AV)(tm:Env):put (Gp i) v tm=(i,v)::tm:=rfl
def ayy(v:AV)(tm:Env):put Gq v tm=tm:=rfl
def apM(d:Option Nat)(o:Op)(r:List aS)(s:St):EM P L (.bool ydb) ydb d o r s=de P L (D P L) (⟨d,Gq,o⟩::r) s:=rfl
def apN(d:Option Nat)(o:Op)(r:List aS)(s:St):EM P L (.bool ydc) ydc d o r s=de P L (D P L) (⟨d,Gq,o⟩::r) s:=rfl
def apO(d:Option Nat)(o:Op)(r:List aS)(tm:Env)(hp:Hp)(ct base:Nat):EM P L (.bool ydb) ydc d o r ⟨tm,hp,ct,base⟩=de P L (D P L) r ⟨put d (.av []) tm,hp,ct,base⟩:=rfl
def apP(d:Option Nat)(o:Op)(r:List aS)(tm:Env)(hp:Hp)(ct base:Nat):EM P L (.bool ydc) ydb d o r ⟨tm,hp,ct,base⟩=de P L (D P L) r ⟨put d (.av []) tm,hp,ct,base⟩:=rfl
def ar5(b:Bool)(d:Option Nat)(o:Op)(r:List aS)(tm:Env)(hp:Hp)(ct base:Nat):EM P L (.av []) b d o r ⟨tm,hp,ct,base⟩=de P L (D P L) r ⟨put d (.av []) tm,hp,ct,base⟩:=rfl
def gU{j i:Nat}(h:j≠i):yq j i=ydc:=by
 cases hq:yq j i with
 | false=>rfl
 | true=>exact absurd (yg hq) h
def avh(tm:Env)(i:Nat):ay tm (.t i)=ak tm i:=rfl
def avi(tm:Env)(v:AV):ay tm (.c v)=v:=rfl
def anN(tm:Env):dN tm []=[]:=rfl
def amy(tm:Env)(x:X)(r:List X):dN tm (x::r)=ay tm x::dN tm r:=rfl
def apQ(i:Nat)(v:AV)(r:Env):ak ((i,v)::r) i=v:=by simp only[ak,wQ,yu]
def anO{j i:Nat}(v:AV)(r:Env)(h:j≠i):ak ((j,v)::r) i=ak r i:=by simp only[ak,gU h,yP]
def iP(i:Nat)(o:Obj)(r:Hp):ai ((i,o)::r) i=Gp o:=by simp only[ai,wQ,yu]
def dW{j i:Nat}(o:Obj)(r:Hp)(h:j≠i):ai ((j,o)::r) i=ai r i:=by simp only[ai,gU h,yP]
def ac8(i:Nat)(o u:Obj)(r:Hp):aU ((i,o)::r) i u=(i,u)::r:=by simp only[aU,wQ,yu]
def ab9{j i:Nat}(o u:Obj)(r:Hp)(h:j≠i):aU ((j,o)::r) i u=(j,o)::aU r i u:=by simp only[aU,gU h,yP]
def apR(i:Nat):cE [] i=[]:=rfl
def Kc(i:Nat)(o:Obj)(r:Hp):cE ((i,o)::r) i=cE r i:=by simp only[cE,wQ,yu]
def Cv{j i:Nat}(o:Obj)(r:Hp)(h:j≠i):cE ((j,o)::r) i=(j,o)::cE r i:=by simp only[cE,gU h,yP]
def rd(hp:Hp)(ct:Nat)(q:Option AV):iH:=match q with | some v=>Gp (v,hp,ct) | none=>Gq
def mk(hp:Hp)(ct:Nat)(q:Option (AV×Obj)):iH:=match q with | some (v,b)=>Gp (v,(ct,b)::hp,ct+1) | none=>Gq
def aAi(hp:Hp)(ct:Nat)(v:AV):rd hp ct (Gp v)=Gp (v,hp,ct):=rfl
def aAj(hp:Hp)(ct:Nat)(v:AV)(b:Obj):mk hp ct (Gp (v,b))=Gp (v,(ct,b)::hp,ct+1):=rfl
def Ws(c a b:AV):Option AV:=match c with | .bool t=>Gp (bif t then a else b) | _=>Gq
def Nq(k:Nat->Option AV)(n:Option Nat):Option AV:=match n with | some i=>k i | none=>Gq
def agx(r:Option (List AV)):Option AV:=match r with | some cs=>Gp (.agg cs) | none=>Gq
def HN(ne:Bool)(r:Option Bool):Option AV:=match r with | some b=>Gp (.bool (ne !=b)) | none=>Gq
def aAk:AV->Option AV
 | .ptr id o=>Gp (.ptr id o)
 | .bC cs=>Gp (.bC cs)
 | .fn f a b=>Gp (.fn f a b)
 | _=>Gq
def Mn(i:Nat):AV->Option AV | .av vs=>vs[i]? | _=>Gq
section
variable {f:cx}{tm:Env}{hp:Hp}{ct:Nat}
def avj(x:X):aZ P L f tm hp ct (.rR x)=Gp (ay tm x,hp,ct):=rfl
def ar6(c a b:X):aZ P L f tm hp ct (.pick c a b)=rd hp ct (Ws (ay tm c) (ay tm a) (ay tm b)):=by
 rfl
def apS(z:List AV)(ps:List (Nat×Nat×X)):aZ P L f tm hp ct (.ER z ps)=rd hp ct (agx (fill tm z ps)):=by
 rfl
def ayz(sz:Nat)(ag:Bool)(x:X):aZ P L f tm hp ct (.ld sz ag x)=rd hp ct (gn hp sz ag (ay tm x)):=rfl
def ar7(x:X):aZ P L f tm hp ct (.LK x)=rd hp ct (aAk (ay tm x)):=by
 rfl
def avk(op:BinOp)(x y:X):aZ P L f tm hp ct (.bin op x y)=rd hp ct (binOp op (ay tm x) (ay tm y)):=rfl
def ayA(ne:Bool)(k:Sl)(x y:X):aZ P L f tm hp ct (.eq ne k x y)=rd hp ct (HN ne (km k (ay tm x) (ay tm y))):=by
 rfl
def ayB(op:UnOp)(x:X):aZ P L f tm hp ct (.un op x)=rd hp ct (unOp op (ay tm x)):=rfl
def ayC(k:Conv)(x:X):aZ P L f tm hp ct (.cv k x)=rd hp ct (mu k (ay tm x)):=rfl
def avl(g:Fr)(a b:List X):aZ P L f tm hp ct (.H8 g a b)=Gp (.fn g (dN tm a) (dN tm b),hp,ct):=rfl
def avm(k:Cut)(x:X)(lo hi:Option X):aZ P L f tm hp ct (.rS k x lo hi)=rd hp ct (fC hp k (ay tm x) tm lo hi):=rfl
def avn(k:Nat)(x:X):aZ P L f tm hp ct (.off k x)=rd hp ct (CY k (ay tm x)):=rfl
def avo(o sz:Nat)(ag:Bool)(x:X):aZ P L f tm hp ct (.MQ o sz ag x)=rd hp ct (P5 o sz ag (ay tm x)):=rfl
def avp(sz:Nat)(x i:X):aZ P L f tm hp ct (.bk sz x i)=rd hp ct (Nq (fun j=>gH sz j (ay tm x)) (dd (ay tm i))):=by
 rfl
def avq(n sz:Nat)(x i:X):aZ P L f tm hp ct (.H9 n sz x i)=rd hp ct (Nq (fun j=>P6 n sz j (ay tm x)) (dd (ay tm i))):=by
 rfl
def avr(x i:X):aZ P L f tm hp ct (.Ia x i)=rd hp ct (Nq (fun j=>oD j (ay tm x)) (dd (ay tm i))):=by
 rfl
def avt(n sz:Nat)(ag:Bool)(x i:X):aZ P L f tm hp ct (.Ib n sz ag x i)=rd hp ct (Nq (fun j=>P7 n sz ag j (ay tm x)) (dd (ay tm i))):=by
 rfl
def avu(i:Nat)(x:X):aZ P L f tm hp ct (.ext i x)=rd hp ct (Mn i (ay tm x)):=by
 rfl
def avv(k:Nat)(x:X):aZ P L f tm hp ct (.len k x)=rd hp ct (jo hp k (ay tm x)):=rfl
def avw(sz:Nat)(x:X):aZ P L f tm hp ct (.box sz x)=mk hp ct (cI tm hp ct (.box sz x)):=rfl
def ar8(n sz:Nat)(z:List AV)(ps:List (Nat×Nat×X)):aZ P L f tm hp ct (.kj n sz z ps)=mk hp ct (cI tm hp ct (.kj n sz z ps)):=rfl
def avx(sz by':Nat)(z:List AV)(l c:X):aZ P L f tm hp ct (.p8 sz by' z l c)=mk hp ct (cI tm hp ct (.p8 sz by' z l c)):=rfl
def avy:aZ P L f tm hp ct .BY=Gp (.map ct,(ct,.mp ydb [] [])::hp,ct+1):=rfl
def avz(x:X):aZ P L f tm hp ct (.rU x)=mk hp ct (cI tm hp ct (.rU x)):=rfl
def ayD(sz:Nat)(x v:X):aZ P L f tm hp ct (.st sz x v)=cu tm hp ct (.st sz x v):=rfl
def avA(sz by':Nat)(s x:X):aZ P L f tm hp ct (.di sz by' s x)=cu tm hp ct (.di sz by' s x):=rfl
def Qk(hp:Hp)(ct:Nat)(r:Option AV):iH:=match r with | some v=>Gp (shut v,hp,ct) | none=>Gq
def RH(hp:Hp)(ct:Nat)(r:Option AV):iH:=match r with | some v=>Gp (own hp ct v) | none=>Gq
def Wt(P:aE)(L:Lib)(f:cx)(ct n:Nat)(q:Option (List AV×Hp)):iH:=match q with | some (au,hp)=>Qk hp ct (bO P L f n au) | none=>Gq
def Wu(P:aE)(L:Lib)(f:cx)(ct n:Nat)(q:Option (List AV×Hp)):iH:=match q with | some (au,hp)=>RH hp ct (bO P L f n au) | none=>Gq
def Wv(P:aE)(L:Lib)(f:cx)(hp:Hp)(ct:Nat)(fv:AV)(xs:List AV):iH:=eL P L f hp ct .pure fv xs
def Ww(P:aE)(L:Lib)(f:cx)(hp:Hp)(ct:Nat)(fv:AV)(xs:List AV):iH:=eL P L f hp ct .own fv xs
def apT(g:X)(xs:List X):aZ P L f tm hp ct (.call .pure g xs)=Wv P L f hp ct (ay tm g) (dN tm xs):=rfl
def apU(g:X)(xs:List X):aZ P L f tm hp ct (.call .own g xs)=Ww P L f hp ct (ay tm g) (dN tm xs):=rfl
def apV(g:X)(xs:List X):aZ P L f tm hp ct (.call .heap g xs)=eL P L f hp ct .heap (ay tm g) (dN tm xs):=rfl
def ar9(n:Nat)(first cap xs:List AV):Wv P L f hp ct (.fn (.f n) first cap) xs=Wt P L f ct n (cB deep hp (first++(xs++cap))):=by
 simp only[Wv,eL,Wt,Qk]
 cases cB deep hp (first++(xs++cap)) with
 | none=>rfl
 | some q=>cases bO P L f n q.1<;>rfl
def asa(n:Nat)(first cap xs:List AV):Ww P L f hp ct (.fn (.f n) first cap) xs=Wu P L f ct n (cB deep hp (first++(xs++cap))):=by
 simp only[Ww,eL,Wu,RH]
 cases cB deep hp (first++(xs++cap)) with
 | none=>rfl
 | some q=>cases bO P L f n q.1<;>rfl
def asb(n:Nat)(au:List AV):Wt P L f ct n (Gp (au,hp))=Qk hp ct (bO P L f n au):=rfl
def asd(n:Nat)(au:List AV):Wu P L f ct n (Gp (au,hp))=RH hp ct (bO P L f n au):=rfl
def ase(v:AV):Qk hp ct (Gp v)=Gp (shut v,hp,ct):=rfl
def avB(v:AV):RH hp ct (Gp v)=Gp (own hp ct v):=rfl
def RI(hp:Hp)(r:Option AV):Option AV:=match r with | some v=>result hp v | none=>Gq
def gM(rs:List RV)(q:Option (Ex×St)):Option AV:=
 match q with
 | some (.normal,s) | some (.ret,s)=>RI s.hp (jA s rs)
 | _=>Gq
def aD{n:Nat}{F:az}(h:Has P L n F)(au:List AV):bO P L f n au=gM F.dR (f F.body ⟨fA 0 au,[],0,0⟩):=by
 simp only[bO,h.pure,h.code]
 cases hq:f F.body ⟨fA 0 au,[],0,0⟩ with
 | none=>rfl
 | some q=>
  have⟨e,s⟩:=q
  cases e with
  | normal=>rfl
  | ret=>rfl
  | exit id=>rfl
def avC(rs:List RV)(s:St):gM rs (Gp (.normal,s))=RI s.hp (jA s rs):=rfl
def avD(rs:List RV)(s:St):gM rs (Gp (.ret,s))=RI s.hp (jA s rs):=rfl
def avE(v:AV):RI hp (Gp v)=result hp v:=rfl
def Xs(r:RV)(s:St):jA s [r]=results1 s r:=by
 simp only[jA,mI];cases results1 s r<;>rfl
def ahC(r:Option (List AV)):Option AV:=match r with | some vs=>Gp (.av vs) | none=>Gq
def aAl(r q:RV)(l:List RV)(s:St):jA s (r::q::l)=ahC (mI s (r::q::l)):=by
 simp only[jA,mI];cases results1 s r<;>cases results1 s q<;>cases mI s l<;>rfl
def agy(r:Option AV)(l:Option (List AV)):Option (List AV):=match r,l with | some v,Gp vs=>Gp (v::vs) | _,_=>Gq
def apW(s:St):mI s []=Gp []:=rfl
def anP(r:RV)(l:List RV)(s:St):mI s (r::l)=agy (results1 s r) (mI s l):=rfl
def asf(v:AV)(vs:List AV):agy (Gp v) (Gp vs)=Gp (v::vs):=rfl
def avF(vs:List AV):ahC (Gp vs)=Gp (.av vs):=rfl
def Wx(i:Nat)(s:St):results1 s (.t i)=Gp (ak s.tm i):=rfl
def ayE(a:AV):fA 0 [a]=[(0,a)]:=rfl
def ayF(a b:AV):fA 0 [a,b]=[(0,a),(1,b)]:=rfl
def ayG(a b c:AV):fA 0 [a,b,c]=[(0,a),(1,b),(2,c)]:=rfl
def ayH(a b c d:AV):fA 0 [a,b,c,d]=[(0,a),(1,b),(2,c),(3,d)]:=rfl
def ayI(a b c d e:AV):fA 0 [a,b,c,d,e]=[(0,a),(1,b),(2,c),(3,d),(4,e)]:=rfl
def amz(k:xe)(n:Int):result hp (.int k n)=Gp (.int k n):=rfl
def al2(b:Bool):result hp (.bool b)=Gp (.bool b):=rfl
def amA(s:List Nat):result hp (.str s)=Gp (.str s):=rfl
def al3:result hp .ah=Gp .ah:=rfl
def amB(e:Bool)(n:Nat)(cs:List AV):result hp (.ap e n cs)=Gp (.ap e n cs):=rfl
def shut_int(k:xe)(n:Int):shut (.int k n)=.int k n:=rfl
def shut_bool(b:Bool):shut (.bool b)=.bool b:=rfl
def apX(s:List Nat):shut (.str s)=.str s:=rfl
def anQ:shut .ah=.ah:=rfl
def apY(e:Bool)(n:Nat)(cs:List AV):shut (.ap e n cs)=.ap e n cs:=rfl
def apZ(e:Bool)(sz n:Nat)(cs:List AV):shut (.cF e sz n cs)=.ap e n cs:=rfl
def bw(cs:List AV):shut (.agg cs)=.agg cs:=rfl
def asg(g:Fr)(a b:List AV):shut (.fn g a b)=.fn g a b:=rfl
def UN(vs:List AV):shut (.av vs)=.av (ES vs):=rfl
def Ui:ES []=[]:=rfl
def TL(v:AV)(r:List AV):ES (v::r)=bI v::ES r:=rfl
def anR(k:xe)(n:Int):bI (.int k n)=.int k n:=rfl
def amC(b:Bool):bI (.bool b)=.bool b:=rfl
def anS(s:List Nat):bI (.str s)=.str s:=rfl
def amD:bI .ah=.ah:=rfl
def anT(e:Bool)(n:Nat)(cs:List AV):bI (.ap e n cs)=.ap e n cs:=rfl
def anU(e:Bool)(sz n:Nat)(cs:List AV):bI (.cF e sz n cs)=.ap e n cs:=rfl
def Cw(cs:List AV):bI (.agg cs)=.agg cs:=rfl
def Xt(n:Nat)(r:List AV)(q:Option (AV×Hp)):Option (List AV×Hp):=match q with | some (v,hp)=>(match cB n hp r with | some (vs,jP)=>Gp (v::vs,jP) | none=>Gq) | none=>Gq
def ahD(v:AV)(q:Option (List AV×Hp)):Option (List AV×Hp):=match q with | some (vs,hp)=>Gp (v::vs,hp) | none=>Gq
def ap0(n:Nat):cB (n+1) hp []=Gp ([],hp):=rfl
def aca(n:Nat)(v:AV)(r:List AV):cB (n+1) hp (v::r)=Xt n r (freeze n hp v):=by
 simp only[cB,Xt];cases freeze n hp v<;>rfl
def ae0(n:Nat)(r:List AV)(v:AV):Xt n r (Gp (v,hp))=ahD v (cB n hp r):=by
 rfl
def ae1(v:AV)(vs:List AV):ahD v (Gp (vs,hp))=Gp (v::vs,hp):=rfl
def ash(n:Nat)(k:xe)(a:Int):freeze (n+1) hp (.int k a)=Gp (.int k a,hp):=rfl
def ap1(n:Nat)(b:Bool):freeze (n+1) hp (.bool b)=Gp (.bool b,hp):=rfl
def asi(n:Nat)(s:List Nat):freeze (n+1) hp (.str s)=Gp (.str s,hp):=rfl
def ap2(n:Nat):freeze (n+1) hp .ah=Gp (.ah,hp):=rfl
def asj(n:Nat)(e:Bool)(k:Nat)(cs:List AV):freeze (n+1) hp (.ap e k cs)=Gp (.ap e k cs,hp):=rfl
def ap3(n:Nat)(cs:List AV):freeze (n+1) hp (.bC cs)=Gp (.bC cs,hp):=rfl
end
section
variable {hp:Hp}
def avG(a b:AV):Ws (.bool ydb) a b=Gp a:=rfl
def avH(a b:AV):Ws (.bool ydc) a b=Gp b:=rfl
def ayJ(k:Nat->Option AV)(n:Nat):Nq k (Gp n)=k n:=rfl
def amE(k:xe)(n:Nat):dd (.int k (n:Int))=Gp n:=rfl
def avI(k:xe):dd (.int k 0)=Gp 0:=rfl
def avJ(k:xe):dd (.int k 1)=Gp 1:=rfl
def avK(k:xe):dd (.int k 2)=Gp 2:=rfl
def avL(k:xe):dd (.int k 3)=Gp 3:=rfl
def avM(k:xe):dd (.int k 4)=Gp 4:=rfl
def avN(k:xe):dd (.int k 5)=Gp 5:=rfl
def avO(k:xe):dd (.int k 6)=Gp 6:=rfl
def avP(k:xe):dd (.int k 7)=Gp 7:=rfl
def avQ(k:xe):dd (.int k 8)=Gp 8:=rfl
def avR(k:xe):dd (.int k 9)=Gp 9:=rfl
def asl(cs:List AV):agx (Gp cs)=Gp (.agg cs):=rfl
def aej(k:xe)(a b:Int):binOp .add (.int k a) (.int k b)=Gp (.int k (k.wrap (a+b))):=by simp[binOp,mP]
def Ph(k:xe)(a b:Int):binOp .sub (.int k a) (.int k b)=Gp (.int k (k.wrap (a-b))):=by simp[binOp,mP]
def aek(k:xe)(a b:Int):binOp .mul (.int k a) (.int k b)=Gp (.int k (k.wrap (a*b))):=by simp[binOp,mP]
def eX(k:xe)(a b:Int)(h:b≠0):binOp .quo (.int k a) (.int k b)=Gp (.int k (k.wrap (a.tdiv b))):=by simp[binOp,mP,h]
def fH(k:xe)(a b:Int)(h:b≠0):binOp .rem (.int k a) (.int k b)=Gp (.int k (a.tmod b)):=by simp[binOp,mP,h]
def asm(k:xe)(a b:Int):binOp .eql (.int k a) (.int k b)=Gp (.bool (decide (a=b))):=by
 simp[binOp,mP,intCmp,BEq.beq]
def aso(k:xe)(a b:Int):binOp .neq (.int k a) (.int k b)=Gp (.bool (!decide (a=b))):=by
 simp[binOp,mP,intCmp,bne,BEq.beq]
def asp(k:xe)(a b:Int):binOp .lss (.int k a) (.int k b)=Gp (.bool (decide (a<b))):=by simp[binOp,mP,intCmp]
def asq(k:xe)(a b:Int):binOp .leq (.int k a) (.int k b)=Gp (.bool (decide (a<=b))):=by simp[binOp,mP,intCmp]
def ass(k:xe)(a b:Int):binOp .gtr (.int k a) (.int k b)=Gp (.bool (decide (b<a))):=by simp[binOp,mP,intCmp]
def ast(k:xe)(a b:Int):binOp .geq (.int k a) (.int k b)=Gp (.bool (decide (b<=a))):=by simp[binOp,mP,intCmp]
def avS(k:xe)(a:Int):unOp .neg (.int k a)=Gp (.int k (k.wrap (0-a))):=rfl
def avT(b:Bool):unOp .not (.bool b)=Gp (.bool !b):=rfl
def ap4:jo hp 1 .ah=Gp (.int .i64 0):=rfl
def asu(e:Bool)(n:Nat)(cs:List AV):jo hp 1 (.ap e n cs)=Gp (.int .i64 n):=rfl
def asv(id o n:Nat):jo hp 1 (.aq id o n)=Gp (.int .i64 n):=rfl
def Kq(s:List Nat):jo hp 0 (.str s)=Gp (.int .i64 s.length):=rfl
def Pj{sz i n:Nat}(e:Bool)(cs:List AV)(h:i<n):gH sz i (.ap e n cs)=Gp (.bC (cs.drop (i*sz))):=by
 have hb:yL i n=ydb:=yv h;simp only[gH]
 grind
def cV{sz i n:Nat}(id o:Nat)(h:i<n):gH sz i (.aq id o n)=Gp (.ptr id (o+i*sz)):=by
 have hb:yL i n=ydb:=yv h;simp only[gH]
 grind
def ap5(v:AV)(cs:List AV):gn hp 1 ydc (.bC (v::cs))=Gp v:=rfl
def SO(sz:Nat)(ag:Bool)(o:Nat)(q:Option Obj):Option AV:=match q with | some (.cells _ _ _ _ cs)=>ie sz ag (cs.drop o) | _=>Gq
def ae2(sz:Nat)(ag:Bool)(id o:Nat):gn hp sz ag (.ptr id o)=SO sz ag o (ai hp id):=by
 rfl
def agz(sz:Nat)(ag:Bool)(o:Nat)(rw pu ex:Bool)(z:Nat)(cs:List AV):SO sz ag o (Gp (.cells rw pu ex z cs))=ie sz ag (cs.drop o):=rfl
def agA(sz:Nat)(v:AV)(cs:List AV):ie sz ydc (v::cs)=Gp v:=rfl
def aAm(a:AV)(l:List AV):Mn 0 (.av (a::l))=Gp a:=rfl
def ext1(a b:AV)(l:List AV):Mn 1 (.av (a::b::l))=Gp b:=rfl
def aAn(a b c:AV)(l:List AV):Mn 2 (.av (a::b::c::l))=Gp c:=rfl
def aAo(a b c d:AV)(l:List AV):Mn 3 (.av (a::b::c::d::l))=Gp d:=rfl
end
def pO:Env->Bool
 | []=>ydb
 | (_,v)::r=>aW v&&pO r
mutual
def eW:∀{v:AV},aW v=ydb->refs v=[]
 | .int _ _,_ | .bool _,_ | .aw _ _,_ | .dh _ _ _,_ | .str _,_ | .kN,_ | .bC _,_ | .ah,_ | .ap _ _ _,_ | .iE,_ | .jF,_ | .jG _ _,_ | .undef,_=>rfl
 | .ptr _ _,h | .aq _ _ _,h | .map _,h | .it _,h | .cF _ _ _ _,h=>by simp[aW] at h
 | .fn (.y _) _ _,h=>by simp[aW] at h
 | .fn (.f _) first cap,h=>by
  simp only[aW,ye] at h;simp only[refs,zQ h.1,zQ h.2,xU]
 | .agg cs,h=>by simp only[aW] at h;simp only[refs,zQ h]
 | .av cs,h=>by simp only[aW] at h;simp only[refs,zQ h]
def zQ:∀{vs:List AV},aF vs=ydb->eZ vs=[]
 | [],_=>rfl
 | v::r,h=>by
  simp only[aF,ye] at h;simp only[eZ,eW h.1,zQ h.2,xU]
end
mutual
def jB(f:Nat->Option Nat):∀{v:AV},aW v=ydb->bq f v=v
 | .int _ _,_ | .bool _,_ | .aw _ _,_ | .dh _ _ _,_ | .str _,_ | .kN,_ | .bC _,_ | .ah,_ | .ap _ _ _,_ | .iE,_ | .jF,_ | .jG _ _,_ | .undef,_=>rfl
 | .ptr _ _,h | .aq _ _ _,h | .map _,h | .it _,h | .cF _ _ _ _,h=>by simp[aW] at h
 | .fn (.y _) _ _,h=>by simp[aW] at h
 | .fn (.f _) first cap,h=>by
  simp only[aW,ye] at h;simp only[bq,Bg f h.1,Bg f h.2]
 | .agg cs,h=>by simp only[aW] at h;simp only[bq,Bg f h]
 | .av cs,h=>by simp only[aW] at h;simp only[bq,Bg f h]
def Bg(f:Nat->Option Nat):∀{vs:List AV},aF vs=ydb->dO f vs=vs
 | [],_=>rfl
 | v::r,h=>by
  simp only[aF,ye] at h;simp only[dO,jB f h.1,Bg f h.2]
end
def TN:∀{tm:Env},pO tm=ydb->cJ tm=[]
 | [],_=>rfl
 | (i,v)::r,h=>by
  simp only[pO,ye] at h;simp only[cJ,eW h.1,TN h.2,xU]
def acb(f:Nat->Option Nat):∀{tm:Env},pO tm=ydb->dw f tm=tm
 | [],_=>rfl
 | (i,v)::r,h=>by
  simp only[pO,ye] at h;simp only[dw,jB f h.1,acb f h.2]
def NW{live:List Nat}{tm:Env}{ct:Nat}(h:pO (bc tm live)=ydb):bn live ⟨tm,[],ct,0⟩=⟨bc tm live,[],0,0⟩:=by
 simp only[bn,TN h,b7,xU];simp only[reach,eF,fT,acb _ h,yN,yX]
def al4{tm:Env}{ct:Nat}:bn [] ⟨tm,[],ct,0⟩=⟨[],[],0,0⟩:=rfl
def OU{P:aE}{L:Lib}{live:List Nat}{a:VC}(I:Nat->St->Prop)(Q:Ex->St->Prop)(step:∀k s,I k s->(∃s' k',D P L a (bn live s)=Gp (.normal,s')/\k'<k/\I k' s')\/(∃ex s',D P L a (bn live s)=Gp (ex,s')/\ex≠.normal/\Q ex s')):
  ∀k s,I k s->∃ex s',D P L (.loop live a) s=Gp (ex,s')/\Q ex s':=by
 intro k
 induction k using vP with
 | _ k ih=>
  intro s hI;rw[PN];rcases step k s hI with ⟨s',k',h1,h2,h3⟩ | ⟨ex,s',h1,h2,h3⟩
  .rw [h1,aeh];exact ih k' h2 s' h3
  .rw [h1]
   cases ex with
   | normal=>exact absurd rfl h2
   | ret=>exact⟨.ret,s',rfl,h3⟩
   | exit id=>exact⟨.exit id,s',rfl,h3⟩
def OV{P:aE}{L:Lib}{live:List Nat}{a:VC}(I:Nat->St->Prop)(Q:Ex->St->Prop)(step:∀k s,I k s->(∃s' k',D P L a s=Gp (.normal,s')/\k'<k/\I k' (bn live s'))\/(∃ex s',D P L a s=Gp (ex,s')/\ex≠.normal/\Q ex s')):
  ∀k s,I k (bn live s)->∃ex s',D P L (.loop live a) s=Gp (ex,s')/\Q ex s':=
 OU (fun k s=>I k (bn live s)) Q (fun k s h=>step k _ h)
def c6(P:aE)(L:Lib)(live:List Nat)(a:VC)(I:Nat->St->Prop)(Q:Ex->St->Prop):Prop:=∀k s,I k (bn live s)->∃ex s',D P L (.loop live a) s=Gp (ex,s')/\Q ex s'
def c9{P:aE}{L:Lib}{live:List Nat}{a:VC}{I:Nat->St->Prop}{Q:Ex->St->Prop}(step:∀k s,I k s->(∃s' k',D P L a s=Gp (.normal,s')/\k'<k/\I k' (bn live s'))\/(∃ex s',D P L a s=Gp (ex,s')/\ex≠.normal/\Q ex s')):c6 P L live a I Q:=OV I Q step
def avU{P:aE}{L:Lib}{live:List Nat}{a:VC}{I:Nat->St->Prop}{Q:Ex->St->Prop}(step:∀k s,I k s->(∃s' k',D P L a s=Gp (.normal,s')/\k'<k/\I k' (bn live s'))\/(∃ex s',D P L a s=Gp (ex,s')/\ex≠.normal/\Q ex s')):
  ∀k s s0,bn live s=s0->I k s0->∃ex s',D P L (.loop live a) s=Gp (ex,s')/\Q ex s':=fun k s s0 h hi=>OV I Q step k s (h▸hi)
def aG{v:AV}(h:aW v=ydb):refs v=[]/\∀f,bq f v=v:=⟨eW h,fun f=>jB f h⟩
def gV(P:aE)(L:Lib)(live:List Nat)(a:VC)(I:Nat->St->Prop)(Q:Ex->St->Prop)(step:∀k s,I k s->(∃s' k',D P L a s=Gp (.normal,s')/\k'<k/\I k' (bn live s'))\/(∃ex s',D P L a s=Gp (ex,s')/\ex≠.normal/\Q ex s')):
  ∀k s,I k (bn live s)->∃ex s',D P L (.loop live a) s=Gp (ex,s')/\Q ex s':=OV I Q step
def bL{P:aE}{L:Lib}{c:VC}{s:St}{q:Option (Ex×St)}{I:St->Prop}{Q:Ex->St->Prop}(hq:D P L c s=q)(key:∀s,I s->∃ex s',D P L c s=Gp (ex,s')/\Q ex s')(hI:I s):
  ∃ex s',q=Gp (ex,s')/\Q ex s':=by
 rw[<-hq];exact key s hI
def ap6(tm:Env):bc tm []=[]:=rfl
def anV(tm:Env)(i:Nat)(r:List Nat):bc tm (i::r)=(i,ak tm i)::bc tm r:=rfl
def anW:pO []=ydb:=rfl
def amF(i:Nat)(v:AV)(r:Env):pO ((i,v)::r)=(aW v&&pO r):=rfl
def ae3(k:xe)(n:Int):aW (.int k n)=ydb:=(rfl)
def asw(b:Bool):aW (.bool b)=ydb:=(rfl)
def avV(s:List Nat):aW (.str s)=ydb:=(rfl)
def asx:aW .ah=ydb:=(rfl)
def avW(e:Bool)(n:Nat)(cs:List AV):aW (.ap e n cs)=ydb:=(rfl)
def asy(cs:List AV):aW (.bC cs)=ydb:=(rfl)
def ap7:aW .undef=ydb:=(rfl)
attribute [go_sem] deep al4 ap6 anV anW amF ae3 asw avV asx avW asy ap7 vL wS
attribute [go_sem] avc avd ayu ahB aAh ayv nI ave ayw jk arU arV aeh arW arX arY arZ aei ar0 avf avg ar1 ar2
 ar3 apL anM ar4 ayx ayy apM apN apO apP ar5 avh avi anN amy apQ anO iP dW ac8 ab9 apR Kc Cv
 aAi aAj avj ar6 apS ayz ar7 avk ayA ayB ayC avl avm avn avo avp avq avr avt avu avv avw ar8 avx avy avz ayD avA apT apU apV
 ar9 asa asb asd ase avB avC avD avE Xs aAl apW anP asf avF Wx ayE ayF ayG ayH ayI
 amz al2 amA al3 amB shut_int shut_bool apX anQ apY apZ bw asg UN Ui TL anR amC anS amD anT anU Cw
 ap0 aca ae0 ae1 ash ap1 asi ap2 asj ap3
 avG avH ayJ amE avI avJ avK avL avM avN avO avP avQ avR asl aej Ph aek asm aso asp asq ass ast avS avT ap4 asu asv Kq ap5 ae2 agz agA aAm ext1 aAn aAo
 yy xU yj yI yM Bool.not_true Bool.not_false ne_eq ycX
end
abbrev aa(n:Int):AV:=.int .i64 n
def cp(v:AV)(cs:List AV):Prop:=(v=.ah/\cs=[])\/∃e,v=.ap e cs.length cs
section
variable {v:AV}{cs:List AV}{hp:Hp}
def cp.len(h:cp v cs){hp:Hp}:jo hp 1 v=Gp (.int .i64 (cs.length:Nat)):=by
 rcases h with ⟨rfl,rfl⟩ | ⟨e,rfl⟩<;>rfl
def cp.pu(h:cp v cs):aW v=ydb:=by
 rcases h with ⟨rfl,rfl⟩ | ⟨e,rfl⟩<;>rfl
def cp.aj(h:cp v cs)(n:Nat){hp:Hp}:freeze (n+1) hp v=Gp (v,hp):=by
 rcases h with ⟨rfl,rfl⟩ | ⟨e,rfl⟩<;>rfl
def cp.shut(h:cp v cs):shut v=v:=by
 rcases h with ⟨rfl,rfl⟩ | ⟨e,rfl⟩<;>rfl
def cp.bI(h:cp v cs):bI v=v:=by
 rcases h with ⟨rfl,rfl⟩ | ⟨e,rfl⟩<;>rfl
def cp.dR(h:cp v cs){hp:Hp}:result hp v=Gp v:=by
 rcases h with ⟨rfl,rfl⟩ | ⟨e,rfl⟩<;>rfl
def cp.bk(h:cp v cs){i:Nat}(hi:i<cs.length):gH 1 i v=Gp (.bC (cs[i]::cs.drop (i+1))):=by
 rcases h with ⟨rfl,rfl⟩ | ⟨e,rfl⟩
 .grind
 .rw [Pj e _ hi,ym,yR hi]
def cp.one(h:cp v cs):db v=ydb:=by
 rcases h with ⟨rfl,rfl⟩ | ⟨e,rfl⟩<;>rfl
def cp.cells(h:cp v cs):cellsOf v=[v]:=by
 rcases h with ⟨rfl,rfl⟩ | ⟨e,rfl⟩<;>rfl
def Kr(e:Bool)(cs:List AV):cp (.ap e cs.length cs) cs:=.inr ⟨e,rfl⟩
def po:cp .ah []:=.inl ⟨rfl,rfl⟩
end
def bA(v:AV)(l:List Int):Prop:=cp v (l.map aa)
section
variable {v:AV}{l:List Int}
def bA.len(h:bA v l){hp:Hp}:jo hp 1 v=Gp (.int .i64 (l.length:Nat)):=by
 have:=cp.len (hp:=hp) h
 grind
def bA.pu(h:bA v l):aW v=ydb:=cp.pu h
def bA.aj(h:bA v l)(n:Nat){hp:Hp}:freeze (n+1) hp v=Gp (v,hp):=cp.aj h n
def bA.shut(h:bA v l):VE.shut v=v:=cp.shut h
def bA.bI(h:bA v l):VE.bI v=v:=cp.bI h
def bA.dR(h:bA v l){hp:Hp}:result hp v=Gp v:=cp.dR h
def bA.one(h:bA v l):db v=ydb:=cp.one h
def bA.cells(h:bA v l):cellsOf v=[v]:=cp.cells h
def bA.bk(h:bA v l){i:Nat}(hi:i<l.length):gH 1 i v=Gp (.bC (.int .i64 l[i]::(l.map aa).drop (i+1))):=by
 have:=cp.bk h (i:=i) (by simpa using hi)
 grind
def jY(e:Bool)(l:List Int):bA (.ap e l.length (l.map aa)) l:=by
 have:=Kr e (l.map aa)
 rwa[yS] at this
end
def jr{α β:Type}(p:α->β->Prop):List α->List β->Prop
 | [],[]=>True
 | a::r,b::s=>p a b/\jr p r s
 | _,_=>False
section
variable {α β:Type}{p:α->β->Prop}
def jr.len:∀{l:List α} {m:List β},jr p l m->l.length=m.length
 | [],[],_=>rfl
 | _::_,_::_,h=>by rw[yF,yF,h.2.len]
def jr.get:∀{l:List α} {m:List β} (_:jr p l m) {i:Nat} (h1:i<l.length) (h2:i<m.length),p l[i] m[i]
 | a::r,b::s,h,0,_,_=>h.1
 | a::r,b::s,h,i+1,h1,h2=>by
  exact h.2.get (by simpa using h1) (by simpa using h2)
end
def IsS(v:AV)(s:List (List Int)):Prop:=∃rows,cp v rows/\jr bA rows s
def wrap64{n:Int}(h1: -9223372036854775808<=n)(h2:n<9223372036854775808):IntKind.wrap .i64 n=n:=by
 simp only[IntKind.wrap,IntKind.bits,IntKind.signed,wS]
 grind
def wrapN{n:Nat}(h:n<9223372036854775808):IntKind.wrap .i64 (n:Int)=n:=wrap64 (by lia) (by lia)
abbrev ab(P:aE)(L:Lib)(f:Nat)(au:List AV)(r:AV):Prop:=bO P L (D P L) f au=Gp r
section
variable {v:AV}{ex pu:Bool}{cs new:List AV}{by' n o sz:Nat}
section
variable {P:aE}{L:Lib}{f:cx}{tm:Env}{hp:Hp}{ct:Nat}
def anX(k:xe)(n:Int):cellsOf (.int k n)=[.int k n]:=(rfl)
def amG(b:Bool):cellsOf (.bool b)=[.bool b]:=(rfl)
def anY(s:List Nat):cellsOf (.str s)=[.str s]:=(rfl)
def amH:cellsOf .ah=[.ah]:=(rfl)
def anZ(e:Bool)(n:Nat)(cs:List AV):cellsOf (.ap e n cs)=[.ap e n cs]:=(rfl)
def an0(id o n:Nat):cellsOf (.aq id o n)=[.aq id o n]:=(rfl)
def an1(id o:Nat):cellsOf (.ptr id o)=[.ptr id o]:=(rfl)
def ap8(g:Fr)(a b:List AV):cellsOf (.fn g a b)=[.fn g a b]:=(rfl)
def an2(cs:List AV):cellsOf (.agg cs)=cs:=(rfl)
def ael(k:xe)(n:Int):db (.int k n)=ydb:=(rfl)
def ap9(b:Bool):db (.bool b)=ydb:=(rfl)
def asz(s:List Nat):db (.str s)=ydb:=(rfl)
def aqa:db .ah=ydb:=(rfl)
def asA(e:Bool)(n:Nat)(cs:List AV):db (.ap e n cs)=ydb:=(rfl)
def asB(id o n:Nat):db (.aq id o n)=ydb:=(rfl)
def asC(id o:Nat):db (.ptr id o)=ydb:=(rfl)
def avX(g:Fr)(a b:List AV):db (.fn g a b)=ydb:=(rfl)
def aqb:cd []=ydb:=(rfl)
def acd(v:AV)(r:List AV):cd (v::r)=(db v&&cd r):=(rfl)
def an3:aF []=ydb:=(rfl)
def amI(v:AV)(r:List AV):aF (v::r)=(aW v&&aF r):=(rfl)
def avY(id o:Nat):aW (.ptr id o)=ydc:=(rfl)
def avZ(id o n:Nat):aW (.aq id o n)=ydc:=(rfl)
def ayK(g:Nat)(a b:List AV):aW (.fn (.f g) a b)=(aF a&&aF b):=(rfl)
def aAp(l:Nat)(a b:List AV):aW (.fn (.y l) a b)=ydc:=(rfl)
def av0(cs:List AV):aW (.agg cs)=aF cs:=(rfl)
def av1(cs:List AV):aW (.av cs)=aF cs:=(rfl)
def zc(ct sz:Nat)(cs:List AV):Option (AV×Obj):=bif yq cs.length sz&&cd cs then Gp (.ptr ct 0,.cells ydb (aF cs) ydb sz cs) else Gq
def av2(sz:Nat)(x:X):cI tm hp ct (.box sz x)=zc ct sz (cellsOf (ay tm x)):=rfl
def ayL(h:db v=ydb):zc ct 1 [v]=Gp (.ptr ct 0,.cells ydb (aW v&&ydb) ydb 1 [v]):=by
 simp[zc,cd,aF,h]
def aQ(hn:cs.length=n)(h:cd cs=ydb):zc ct n cs=Gp (.ptr ct 0,.cells ydb (aF cs) ydb n cs):=by
 subst hn;simp[zc,h]
def gD(hp:Hp)(ct id o sz:Nat)(new:List AV)(q:Option Obj):iH:=
 match q with
 | some (.cells ydb pu ex z cs)=>bif yq new.length sz&&yB (o+sz) cs.length&&cd new then Gp (.av [],aU hp id (.cells ydb (pu&&aF new) ex z (over o new cs)),ct) else Gq
 | _=>Gq
def stV(hp:Hp)(ct sz:Nat)(p:AV)(new:List AV):iH:=match p with | .ptr id o=>gD hp ct id o sz new (ai hp id) | _=>Gq
def ac9(sz:Nat)(x v:X):cu tm hp ct (.st sz x v)=stV hp ct sz (ay tm x) (cellsOf (ay tm v)):=rfl
def agB(sz id o:Nat)(new:List AV):stV hp ct sz (.ptr id o) new=gD hp ct id o sz new (ai hp id):=rfl
def oK{u:AV}{id z:Nat}(h:db v=ydb):gD hp ct id 0 1 [v] (Gp (.cells ydb pu ex z [u]))=Gp (.av [],aU hp id (.cells ydb (pu&&(aW v&&ydb)) ex z [v]),ct):=by
 simp[gD,cd,aF,h,over];rfl
def sT{id z:Nat}(h1:new.length=sz)(h2:o+sz<=cs.length)(h:cd new=ydb):
  gD hp ct id o sz new (Gp (.cells ydb pu ex z cs))=Gp (.av [],aU hp id (.cells ydb (pu&&aF new) ex z (over o new cs)),ct):=by
 subst h1;simp[gD,h,yv h2]
def Ql(ct n sz:Nat)(q:Option (List AV)):Option (AV×Obj):=match q with | some cs=>bif yq cs.length (n*sz) then Gp (.aq ct 0 n,.cells ydb (aF cs) ydb sz cs) else Gq | none=>Gq
def asD(n sz:Nat)(z:List AV)(ps:List (Nat×Nat×X)):cI tm hp ct (.kj n sz z ps)=Ql ct n sz (fill tm z ps):=by
 simp only[cI,Ql];cases fill tm z ps<;>rfl
def iB(h:cs.length=n*sz):Ql ct n sz (Gp cs)=Gp (.aq ct 0 n,.cells ydb (aF cs) ydb sz cs):=by
 simp[Ql,h]
def kX(tm:Env)(cs:List AV)(o sz:Nat)(new:List AV)(r:List (Nat×Nat×X)):Option (List AV):=
 bif yq new.length sz&&yB (o+sz) cs.length&&cd new then fill tm (over o new cs) r else Gq
def aqc(cs:List AV):fill tm cs []=Gp cs:=rfl
def an4(cs:List AV)(o sz:Nat)(x:X)(r:List (Nat×Nat×X)):fill tm cs ((o,sz,x)::r)=kX tm cs o sz (cellsOf (ay tm x)) r:=rfl
def Pk{r:List (Nat×Nat×X)}(h1:o+1<=cs.length)(h2:db v=ydb):kX tm cs o 1 [v] r=fill tm (over o [v] cs) r:=by
 simp[kX,cd,h2,yv h1]
def CI{r:List (Nat×Nat×X)}(h0:new.length=sz)(h1:o+sz<=cs.length)(h2:cd new=ydb):kX tm cs o sz new r=fill tm (over o new cs) r:=by
 subst h0;simp[kX,h2,yv h1]
def ayM(v u:AV)(r:List AV):over 0 [v] (u::r)=v::r:=rfl
def ayN(v a u:AV)(r:List AV):over 1 [v] (a::u::r)=a::v::r:=rfl
def ayO(v a b u:AV)(r:List AV):over 2 [v] (a::b::u::r)=a::b::v::r:=rfl
def ayP(v a b c u:AV)(r:List AV):over 3 [v] (a::b::c::u::r)=a::b::c::v::r:=rfl
def ayQ(v a b c d u:AV)(r:List AV):over 4 [v] (a::b::c::d::u::r)=a::b::c::d::v::r:=rfl
def ayR(v a b c d e u:AV)(r:List AV):over 5 [v] (a::b::c::d::e::u::r)=a::b::c::d::e::v::r:=rfl
def BO(ct sz by':Nat)(zero:List AV)(l c:Option Nat):Option (AV×Obj):=
 match l,c with
 | some l,Gp c=>bif yB l c&&(yB c room&&(yB (c*by') room&&(yq zero.length sz&&cd zero))) then Gp (.aq ct 0 l,.cells ydb (aF zero) (yq l c) sz (yz l zero).flatten) else Gq
 | _,_=>Gq
def av3(sz by':Nat)(z:List AV)(l c:X):cI tm hp ct (.p8 sz by' z l c)=BO ct sz by' z (dd (ay tm l)) (dd (ay tm c)):=by
 simp only[cI,BO]
 grind
def Ld{l:Nat}{z:List AV}(h1:l<=1099511627776)(h2:l*by'<=1099511627776)(h3:z.length=sz)(h4:cd z=ydb):
  BO ct sz by' z (Gp l) (Gp l)=Gp (.aq ct 0 l,.cells ydb (aF z) ydb sz (yz l z).flatten):=by
 subst h3;simp[BO,h4,yv (show l<=room from h1),yv (show l*by'<=room from h2),yv (yp l)]
def Fv(hp:Hp)(ct sz by':Nat)(s:AV)(src:Option (Nat×List AV)):iH:=
 match src with
 | none=>Gq
 | some (m,new)=>
  match s with
  | .ah=>
   bif yq m 0 then Gp (.ah,hp,ct)
   else bif yB m room&&(yB (m*by') room&&yL 0 sz) then Gp (.aq ct 0 m,(ct,.cells ydb (aF new) ydc sz new)::hp,ct+1) else Gq
  | .ap ydb n cs=>
   bif yq m 0 then Gp (.ap ydb n cs,hp,ct)
   else bif yB (n+m) room&&(yB ((n+m)*by') room&&(yq cs.length (n*sz)&&yL 0 sz)) then Gp (.aq ct 0 (n+m),(ct,.cells ydb (aF cs&&aF new) ydc sz (cs++new))::hp,ct+1) else Gq
  | .aq id o n=>
   match ai hp id with
   | some (.cells ydb pu _ z cs)=>
    bif yq z sz&&(yB (n+m) room&&(yB ((n+m)*by') room&&(yB (o+n*sz) cs.length&&(yL 0 sz&&cd new)))) then
     Gp (.aq ct 0 (n+m),(ct,.cells ydb (pu&&aF new) ydc sz (slice o (n*sz) cs++new))::cE hp id,ct+1)
    else Gq
   | _=>Gq
  | _=>Gq
def an5(sz by':Nat)(s x:X):cu tm hp ct (.di sz by' s x)=Fv hp ct sz by' (ay tm s) (jD hp sz (ay tm x)):=by
 simp only[cu,Fv]
 cases jD hp sz (ay tm x) with
 | none=>rfl
 | some q=>have⟨m,new⟩:=q;cases ay tm s<;>rfl
def Be(sz id o n:Nat):jD hp sz (.aq id o n)=nA hp sz (.aq id o n):=rfl
def amJ(sz:Nat)(e:Bool)(n:Nat)(cs:List AV):jD hp sz (.ap e n cs)=nA hp sz (.ap e n cs):=rfl
def al5(sz:Nat):jD hp sz .ah=Gp (0,[]):=rfl
def DP(o n sz:Nat)(q:Option Obj):Option (Nat×List AV):=match q with | some (.cells _ _ _ _ cs)=>bif yB (o+n*sz) cs.length then Gp (n,slice o (n*sz) cs) else Gq | _=>Gq
def A9(sz id o n:Nat):nA hp sz (.aq id o n)=DP o n sz (ai hp id):=rfl
def ayS(rw pu ex:Bool)(z:Nat)(v:AV):DP 0 1 1 (Gp (.cells rw pu ex z [v]))=Gp (1,[v]):=rfl
def iA{m:Nat}(hm:0<m)(h1:m<=1099511627776)(h2:m*by'<=1099511627776)(hs:0<sz):
  Fv hp ct sz by' .ah (Gp (m,new))=Gp (.aq ct 0 m,(ct,.cells ydb (aF new) ydc sz new)::hp,ct+1):=by
 have e1:yq m 0=ydc:=gU (by lia);have e2:yL 0 sz=ydb:=yv hs;simp[Fv,e1,e2,yv (show m<=room from h1),yv (show m*by'<=room from h2)]
def gG{id m:Nat}(hg:ai hp id=Gp (.cells ydb pu ex sz cs))(hl:cs.length=n*sz)(h1:n+m<=1099511627776)(h2:(n+m)*by'<=1099511627776)(hs:0<sz)(ho:cd new=ydb):
  Fv hp ct sz by' (.aq id 0 n) (Gp (m,new))=Gp (.aq ct 0 (n+m),(ct,.cells ydb (pu&&aF new) ydc sz (cs++new))::cE hp id,ct+1):=by
 have e2:yL 0 sz=ydb:=yv hs;simp only[Fv,hg];simp[e2,ho,yv (show n+m<=room from h1),yv (show (n+m)*by'<=room from h2),<-hl,slice,yv (yp cs.length)]
def ahE(n:Nat)(g:Nat)(cap:List AV)(q:Option (List AV×Hp)):Option (AV×Hp):=match q with | some (first,hp)=>(match cB n hp cap with | some (QD,jP)=>Gp (.fn (.f g) first QD,jP) | none=>Gq) | none=>Gq
def ahF(g:Nat)(first:List AV)(q:Option (List AV×Hp)):Option (AV×Hp):=match q with | some (cap,hp)=>Gp (.fn (.f g) first cap,hp) | none=>Gq
def Lf(n g:Nat)(first cap:List AV):freeze (n+1) hp (.fn (.f g) first cap)=ahE n g cap (cB n hp first):=rfl
def Lg(n g:Nat)(first cap:List AV):ahE n g cap (Gp (first,hp))=ahF g first (cB n hp cap):=rfl
def Lh(g:Nat)(first cap:List AV):ahF g first (Gp (cap,hp))=Gp (.fn (.f g) first cap,hp):=rfl
def ahG(o:Nat)(q:Option (Bool×Nat×List AV×Hp)):Option (AV×Hp):=match q with | some (_,_,cs,hp)=>Gp (.bC (cs.drop o),hp) | none=>Gq
def asE(n id o:Nat):freeze (n+1) hp (.ptr id o)=ahG o (sJ n hp id):=rfl
def av4(o:Nat)(ex:Bool)(sz:Nat)(cs:List AV):ahG o (Gp (ex,sz,cs,hp))=Gp (.bC (cs.drop o),hp):=rfl
def mW(o k:Nat)(q:Option (Bool×Nat×List AV×Hp)):Option (AV×Hp):=
 match q with
 | some (ex,sz,cs,hp)=>bif yB (o+k*sz) cs.length then Gp (.ap (ex&&yL 0 sz&&yq (o+k*sz) cs.length) k (slice o (k*sz) cs),hp) else Gq
 | none=>Gq
def Ks(n id o k:Nat):freeze (n+1) hp (.aq id o k)=mW o k (sJ n hp id):=rfl
def mj{k:Nat}(ex:Bool)(hl:cs.length=k*sz)(hs:0<sz):mW 0 k (Gp (ex,sz,cs,hp))=Gp (.ap ex k cs,hp):=by
 have e2:yL 0 sz=ydb:=yv hs;simp[mW,<-hl,e2,slice,yv (yp cs.length)]
def Di(n id:Nat)(hp:Hp)(q:Option Obj):Option (Bool×Nat×List AV×Hp):=
 match q with
 | some (.cells rw pu ex sz cs)=>
  bif pu then Gp (ex,sz,cs,bif rw then aU hp id (.cells ydc ydb ex sz cs) else hp)
  else match cB n hp cs with
   | some (dE,an)=>Gp (ex,sz,dE,aU an id (.cells ydc ydc ex sz cs))
   | none=>Gq
 | _=>Gq
def Kt(n id:Nat):sJ (n+1) hp id=Di n id hp (ai hp id):=rfl
def av5(n id:Nat)(ex:Bool)(sz:Nat)(cs:List AV):Di n id hp (Gp (.cells ydb ydb ex sz cs))=Gp (ex,sz,cs,aU hp id (.cells ydc ydb ex sz cs)):=rfl
def av6(n id:Nat)(ex:Bool)(sz:Nat)(cs:List AV):Di n id hp (Gp (.cells ydc ydb ex sz cs))=Gp (ex,sz,cs,hp):=rfl
def b6(n:Nat)(cs:List AV)(h:cB n hp cs=Gp (cs,hp)):freeze (n+1) hp (.agg cs)=Gp (.agg cs,hp):=by
 simp only[freeze,h]
def Ok{id:Nat}(hg:ai hp id=Gp (.cells ydb ydb ex sz cs))(hl:cs.length=n*sz)(hs:0<sz):result hp (.aq id 0 n)=Gp (.cF ex sz n cs):=by
 have e2:yL 0 sz=ydb:=yv hs;simp only[result,mL,hg,yd,<-hl,yv (yp cs.length),yu,e2,vL,slice,yf,xL]
 simp
def an6{k id:Nat}(hg:ai hp id=Gp (.cells ydb ydb ex sz cs))(hl:cs.length=n*sz)(hs:0<sz):mL k hp (.aq id 0 n)=Gp (.cF ex sz n cs,cE hp id):=by
 have e2:yL 0 sz=ydb:=yv hs;simp only[mL,hg,yd,<-hl,yv (yp cs.length),yu,e2,vL,slice,yf,xL]
 simp
def alC{id:Nat}{k:xe}{b:Int}(hg:ai hp id=Gp (.cells ydb ydb ex sz cs))(hl:cs.length=n*sz)(hs:0<sz):result hp (.av [.aq id 0 n,.int k b])=Gp (.av [.cF ex sz n cs,.int k b]):=by
 have h1:Ky [.aq id 0 n,.int k b]=Gp [id]:=rfl;simp only[result,h1,CD,an6 hg hl hs];rfl
def aln(b:Bool):result hp (.av [.ah,.bool b])=Gp (.av [.ah,.bool b]):=rfl
def alo(k:xe)(b:Int):result hp (.av [.ah,.int k b])=Gp (.av [.ah,.int k b]):=rfl
def alp(e:Bool)(n:Nat)(cs:List AV)(k:xe)(b:Int):result hp (.av [.ap e n cs,.int k b])=Gp (.av [.ap e n cs,.int k b]):=rfl
def an7(s:St):rq [] s=Gp s:=rfl
def Zo(t:Nat)(r:List Nat)(tm:Env)(ct base:Nat)(q:Option (AV×Hp)):Option St:=match q with | some (v,hp)=>rq r ⟨(t,v)::tm,hp,ct,base⟩ | none=>Gq
def amK(t:Nat)(r:List Nat)(tm:Env)(hp:Hp)(ct base:Nat):rq (t::r) ⟨tm,hp,ct,base⟩=Zo t r tm ct base (freeze deep hp (ak tm t)):=by
 simp only[rq,Zo];cases freeze deep hp (ak tm t)<;>rfl
def ayT(t:Nat)(r:List Nat)(tm:Env)(ct base:Nat)(v:AV)(hp:Hp):Zo t r tm ct base (Gp (v,hp))=rq r ⟨(t,v)::tm,hp,ct,base⟩:=rfl
end
attribute [go_sem] aln alo alp anX amG anY amH anZ an0 an1 ap8 an2 ael ap9 asz aqa asA asB asC avX aqb acd
 an3 amI avY avZ ayK aAp av0 av1 av2 ayL ac9 agB oK asD aqc an4 ayM ayN ayO ayP ayQ ayR av3
 an5 Be amJ al5 A9 ayS Lf Lg Lh asE av4 Ks mj iB Pk Kt av5 av6 an7 amK ayT
 Bool.and_false wK yf eq_self
end
def ada:∀hp:Hp,b7 0 hp=[]
 | []=>rfl
 | (id,o)::r=>by
  have:yL id 0=ydc:=rfl
  simp only[b7,this,yP,ada r]
def ae4(f:Nat->Option Nat):∀hp:Hp,fT 0 f hp=[]
 | []=>rfl
 | (id,o)::r=>by
  have:yL id 0=ydc:=rfl
  simp only[fT,this,yP,ae4 f r]
def pos(seen:List Nat):Nat->Option Nat:=fun id=>dz id seen 0
def Xu(tm:Env)(hp:Hp)(seen:List Nat):St:=⟨dw (pos seen) tm,eF hp (pos seen) seen 0 [],seen.length,0⟩
def mD(hp:Hp):Nat->List Nat->List Nat->List Nat:=reach hp 0
def ax(live:List Nat)(tm:Env)(hp:Hp)(ct:Nat):bn live ⟨tm,hp,ct,0⟩=Xu (bc tm live) hp (mD hp 100000 (cJ (bc tm live)) []):=by
 have e:∀seen,gW 0 seen=pos seen:=fun seen=>by
  funext id
  have:yL id 0=ydc:=rfl
  simp only[gW,this,yP,pos]
 simp only[bn,ada,xU,e,ae4,Xu,mD,yd]
def an8:cJ []=[]:=rfl
def abi(i:Nat)(v:AV)(r:Env):cJ ((i,v)::r)=refs v++cJ r:=rfl
def aqd(k:xe)(n:Int):refs (.int k n)=[]:=rfl
def an9(b:Bool):refs (.bool b)=[]:=rfl
def aqe(s:List Nat):refs (.str s)=[]:=rfl
def aoa:refs .ah=[]:=rfl
def aqf(e:Bool)(n:Nat)(cs:List AV):refs (.ap e n cs)=[]:=rfl
def aob(cs:List AV):refs (.bC cs)=[]:=rfl
def amL:refs .undef=[]:=rfl
def aqg(id o:Nat):refs (.ptr id o)=[id]:=rfl
def aqh(id o n:Nat):refs (.aq id o n)=[id]:=rfl
def asF(g:Nat)(a b:List AV):refs (.fn (.f g) a b)=eZ a++eZ b:=rfl
def av7(l:Nat)(a b:List AV):refs (.fn (.y l) a b)=[l]:=rfl
def aqi(cs:List AV):refs (.agg cs)=eZ cs:=rfl
def aoc:eZ []=[]:=rfl
def amM(v:AV)(r:List AV):eZ (v::r)=refs v++eZ r:=rfl
def RJ(hp:Hp)(n id:Nat)(cA seen:List Nat)(q:Option Obj):List Nat:=match q with | some o=>mD hp n (iT o++cA) (seen++[id]) | none=>mD hp n cA seen
def RL(hp:Hp)(n id:Nat)(cA seen:List Nat)(b:Bool):List Nat:=bif b then mD hp n cA seen else RJ hp n id cA seen (ai hp id)
def aem(hp:Hp)(n:Nat)(seen:List Nat):mD hp (n+1) [] seen=seen:=rfl
def OW(hp:Hp)(n id:Nat)(cA seen:List Nat):mD hp (n+1) (id::cA) seen=RL hp n id cA seen (jH id seen):=by
 have:yL id 0=ydc:=rfl
 simp only[mD,reach,this,vV,RL,RJ]
 cases jH id seen with
 | true=>rfl
 | false=>simp only[yP];cases ai hp id<;>rfl
def av8(hp:Hp)(n id:Nat)(cA seen:List Nat):RL hp n id cA seen ydb=mD hp n cA seen:=rfl
def PO(hp:Hp)(n id:Nat)(cA seen:List Nat):RL hp n id cA seen ydc=RJ hp n id cA seen (ai hp id):=rfl
def PP(hp:Hp)(n id:Nat)(cA seen:List Nat)(o:Obj):RJ hp n id cA seen (Gp o)=mD hp n (iT o++cA) (seen++[id]):=rfl
def adb(i:Nat):jH i []=ydc:=rfl
def ade(i:Nat)(r:List Nat):jH i (i::r)=ydb:=by simp only[jH,wQ,yu]
def ace{i j:Nat}(r:List Nat)(h:j≠i):jH i (j::r)=jH i r:=by simp only[jH,gU h,yP]
def asG(rw ex:Bool)(sz:Nat)(cs:List AV):iT (.cells rw ydb ex sz cs)=[]:=rfl
def Pm(rw ex:Bool)(sz:Nat)(cs:List AV):iT (.cells rw ydc ex sz cs)=eZ cs:=rfl
def aqj(tm:Env)(ps:List Nat)(a b:VC)(st:Nat)(pe:sY):iT (.lp tm ps a b st pe)=cJ tm:=rfl
def aen(i:Nat)(r:List Nat)(k:Nat):dz i (i::r) k=Gp k:=by simp only[dz,wQ,yu]
def adf{i j:Nat}(r:List Nat)(k:Nat)(h:j≠i):dz i (j::r) k=dz i r (k+1):=by simp only[dz,gU h,yP]
def pos_eq(seen:List Nat)(i:Nat):pos seen i=dz i seen 0:=rfl
def Qm(o:Nat)(q:Option Nat):AV:=match q with | some j=>.ptr j o | none=>.undef
def Qn(o n:Nat)(q:Option Nat):AV:=match q with | some j=>.aq j o n | none=>.undef
def aqk(s:List Nat):dw (pos s) []=[]:=rfl
def aod(s:List Nat)(i:Nat)(v:AV)(r:Env):dw (pos s) ((i,v)::r)=(i,bq (pos s) v)::dw (pos s) r:=rfl
def asH(s:List Nat)(k:xe)(n:Int):bq (pos s) (.int k n)=.int k n:=rfl
def aql(s:List Nat)(b:Bool):bq (pos s) (.bool b)=.bool b:=rfl
def asI(s:List Nat)(t:List Nat):bq (pos s) (.str t)=.str t:=rfl
def aqm(s:List Nat):bq (pos s) .ah=.ah:=rfl
def asJ(s:List Nat)(e:Bool)(n:Nat)(cs:List AV):bq (pos s) (.ap e n cs)=.ap e n cs:=rfl
def aqn(s:List Nat)(cs:List AV):bq (pos s) (.bC cs)=.bC cs:=rfl
def aoe(s:List Nat):bq (pos s) .undef=.undef:=rfl
def asK(s:List Nat)(id o:Nat):bq (pos s) (.ptr id o)=Qm o (dz id s 0):=rfl
def asL(s:List Nat)(id o n:Nat):bq (pos s) (.aq id o n)=Qn o n (dz id s 0):=rfl
def av9(s:List Nat)(g:Nat)(a b:List AV):bq (pos s) (.fn (.f g) a b)=.fn (.f g) (dO (pos s) a) (dO (pos s) b):=rfl
def asM(s:List Nat)(cs:List AV):bq (pos s) (.agg cs)=.agg (dO (pos s) cs):=rfl
def aqo(s:List Nat):dO (pos s) []=[]:=rfl
def aof(s:List Nat)(v:AV)(r:List AV):dO (pos s) (v::r)=bq (pos s) v::dO (pos s) r:=rfl
def asN(o j:Nat):Qm o (Gp j)=.ptr j o:=rfl
def asP(o n j:Nat):Qn o n (Gp j)=.aq j o n:=rfl
def Xv(hp:Hp)(f:Nat->Option Nat)(r:List Nat)(k:Nat)(acc:Hp)(q:Option Obj):Hp:=match q with | some o=>eF hp f r (k+1) ((k,gL f o)::acc) | none=>eF hp f r (k+1) acc
def aog(hp:Hp)(s:List Nat)(k:Nat)(acc:Hp):eF hp (pos s) [] k acc=acc:=rfl
def amN(hp:Hp)(s:List Nat)(id:Nat)(r:List Nat)(k:Nat)(acc:Hp):eF hp (pos s) (id::r) k acc=Xv hp (pos s) r k acc (ai hp id):=by
 simp only[eF,Xv];cases ai hp id<;>rfl
def awa(hp:Hp)(s r:List Nat)(k:Nat)(acc:Hp)(o:Obj):Xv hp (pos s) r k acc (Gp o)=eF hp (pos s) r (k+1) ((k,gL (pos s) o)::acc):=rfl
def EN(f:Nat->Option Nat)(rw ex:Bool)(sz:Nat)(cs:List AV):gL f (.cells rw ydb ex sz cs)=.cells rw ydb ex sz cs:=rfl
def VN(f:Nat->Option Nat)(rw ex:Bool)(sz:Nat)(cs:List AV):gL f (.cells rw ydc ex sz cs)=.cells rw ydc ex sz (dO f cs):=rfl
def asQ(f:Nat->Option Nat)(tm:Env)(ps:List Nat)(a b:VC)(st:Nat)(pe:sY):gL f (.lp tm ps a b st pe)=.lp (dw f tm) ps a b st pe:=rfl
def Vi(tm:Env)(hp:Hp)(seen:List Nat):Xu tm hp seen=⟨dw (pos seen) tm,eF hp (pos seen) seen 0 [],seen.length,0⟩:=rfl
attribute [go_sem] an8 abi aqd an9 aqe aoa aqf aob amL aqg aqh asF av7 aqi aoc amM aem OW av8 PO PP
 adb ade ace asG Pm aqj aen adf aqk aod asH aql asI aqm asJ aqn aoe asK asL av9 asM aqo aof asN asP
 aog amN awa EN VN asQ Vi yF yN
def UO{α:Type}{p:α->Bool}{l:List α}{i:Nat}(h:i<l.length):(l.drop i).any p=(p l[i]||(l.drop (i+1)).any p):=by
 rw[yR h,List.any_cons]
def RM(f:Nat->Int):Nat->Int
 | 0=>0
 | n+1=>RM f n+f n
def acf{k:xe}{n:Int}(h:0<=n):dd (.int k n)=Gp n.toNat:=by
 cases n with
 | ofNat n=>rfl
 | negSucc n=>exact absurd h (by simp)
def aY(k id o:Nat):CY k (.ptr id o)=Gp (.ptr id (o+k)):=rfl
def df{α:Type}(a:α)(l:List α):um 1 (a::l)=l:=rfl
def ayU{α:Type}(a b:α)(l:List α):um 2 (a::b::l)=l:=rfl
def agC{α:Type}(a b c:α)(l:List α):um 3 (a::b::c::l)=l:=rfl
abbrev Nm(n:Int):AV:=.agg [aa n,.ah]
def Ab(hp:Hp)(ct id:Nat)(a:Int)(x y:AV):gD hp ct id 0 2 [.int .i64 a,.ah] (Gp (.cells ydb ydb ydb 2 [x,y]))=Gp (.av [],aU hp id (.cells ydb ydb ydb 2 [.int .i64 a,.ah]),ct):=rfl
def eM(b:Bool):HN ydc (Gp b)=Gp (.bool b):=by cases b<;>rfl
def ae5(f:cx)(tm:Env)(hp:Hp)(ct:Nat)(x y:X):aZ P L f tm hp ct (.mn [x,y])=rd hp ct (min2 (ay tm x) (ay tm y)):=by
 simp only[aZ,rd,bj,dN,CX]
 grind
def EO(f:cx)(tm:Env)(hp:Hp)(ct:Nat)(x y:X):aZ P L f tm hp ct (.mx [x,y])=rd hp ct (max2 (ay tm x) (ay tm y)):=by
 simp only[aZ,rd,bj,dN,CX]
 grind
def adg(k k':xe)(x y:Int):min2 (.int k x) (.int k' y)=Gp (.int k (if y<x then y else x)):=rfl
def Kd(k k':xe)(x y:Int):max2 (.int k x) (.int k' y)=Gp (.int k (if y>x then y else x)):=rfl
def bW(n:Int):Int:=if n<0 then -1 else if n=0 then 0 else 1
def awb(n:Int):(if (if n<1 then n else 1)> -1 then (if n<1 then n else 1) else -1)=bW n:=by
 unfold bW
 grind
def n117(h:Has P L 117 QP)(n:Int):ab P L 117 [aa n] (Nm n):=by
 unfold ab;rw[aD h];simp only[go_sem,ya,yb,yi,QP,aQ,yd,Ab];rfl
def rC(hp:Hp)(p q:Bool):km .b (.bool p) (.bool q)=Gp (p==q):=rfl
def kJ{n:Nat}{sp:List AV->Option AV}(h:L.pure n=Gp sp){f:cx}(au:List AV):bO P L f n au=sp au:=by simp only[bO,h]
abbrev U64(n:Int):AV:=.int .u64 n
def ayV{n:Int}(h1:0<=n)(h2:n<18446744073709551616):IntKind.wrap .u64 n=n:=by
 simp only[IntKind.wrap,IntKind.signed,IntKind.bits]
 grind
def ae6(n:Int):mu (.toInt .u64) (aa n)=Gp (U64 (IntKind.wrap .u64 n)):=rfl
def PQ(n:Int):mu (.toInt .i64) (U64 n)=Gp (aa (IntKind.wrap .i64 n)):=rfl
def Li(b:Bool):HN ydb (Gp b)=Gp (.bool (!b)):=by cases b<;>rfl
def bV(a b:AV)(r:List AV):ie 2 ydb (a::b::r)=Gp (.agg [a,b]):=rfl
def gY(a b c d:AV)(r:List AV):ie 4 ydb (a::b::c::d::r)=Gp (.agg [a,b,c,d]):=rfl
def aoh{a b:Int}(hb:0<b):(a.tmod b<0->a/b=a.tdiv b-1/\a%b=a.tmod b+b)/\(¬a.tmod b<0->a/b=a.tdiv b/\a%b=a.tmod b):=by
 have h1:=Int.mul_tdiv_add_tmod a b;have h2:a.tmod b<b:=Int.tmod_lt_of_pos a hb;have h3: -b<a.tmod b:=Int.lt_tmod_of_pos a hb;refine⟨fun h=>(yaf hb).2 ⟨?_,?_,?_⟩,fun h=>(yaf hb).2 ⟨?_,?_,?_⟩⟩
 .grind
 .lia
 .lia
 .lia
 .lia
 .lia
def aqp(a b:Nat)(hb:b≠0):wM b (a%b)=wM a b:=by
 rw[tU b,<-ycL,tU]
def dC(a b:Int):Int:=a/(vv a b:Nat)
def dP(a b:Int):Int:=b/(vv a b:Nat)
def Pn{a b:Int}(hb:0<b):(0:Int)<(vv a b:Nat):=by
 have:=Int.gcd_pos_of_ne_zero_right a (show b≠0 by lia)
 lia
def awc(a b:Int):a=(vv a b:Nat)*dC a b:=(yba (yaj a b)).symm
def awd(a b:Int):b=(vv a b:Nat)*dP a b:=(yba (yaa a b)).symm
def Ke{a b:Int}(hb:0<b):0<dP a b:=by
 have h1:=Pn (a:=a) hb;have h2:=awd a b;rcases Int.lt_trichotomy (dP a b) 0 with h | h | h
 .have:=Int.mul_neg_of_pos_of_neg h1 h;lia
 .grind
 .exact h
def adh(a b:Int):(dC a b).natAbs<=a.natAbs:=by
 unfold dC;rw[uY (yaj a b)];exact vG _ _
def adi(a b:Int):(dP a b).natAbs<=b.natAbs:=by
 unfold dP;rw[uY (yaa a b)];exact vG _ _
def rG(a b:Int):List Nat:=if dP a b=1 then aV (dC a b) else aV (dC a b)++[47]++aV (dP a b)
section
variable {s:List Nat}{n:Nat}
def agD{a b:Nat}(h:¬a<b):yL a b=ydc:=by
 cases hb:yL a b with
 | false=>rfl
 | true=>exact absurd (yt hb) (by lia)
def Vj:∀(f n:Nat) (acc:List Nat),n<f->od f n acc=od f n []++acc
 | 0,_,_,h=>by lia
 | f+1,n,acc,h=>by
  simp only[od];by_cases h1:n<10
  .rw [show yL n 10=ydb from yv h1];rfl
  .rw [show yL n 10=ydc from agD (by lia)];rw[Vj f (n/10) _ (by lia),Vj f (n/10) [48+n%10] (by lia)]
   simp
def Uj{f:Nat}(h:n<10):od (f+1) n []=[48+n]:=by
 simp only[od];rw[show yL n 10=ydb from yv h];rfl
def Vk{f:Nat}(h:¬n<10)(hf:n<=f):od (f+1) n []=od f (n/10) []++[48+n%10]:=by
 rw[<-Vj f (n/10) _ (by lia)];simp only[od];rw[show yL n 10=ydc from agD (by lia)];rfl
def aqq:∀(n f:Nat),n<f->od f n []=aB n:=by
 intro n
 induction n using vP with
 | _ n ih=>
  intro f hf;obtain⟨g,rfl⟩:∃g,f=g+1:=⟨f-1,by lia⟩;by_cases h:n<10
  .rw [Uj h];unfold aB;rw[Uj h]
  .rw [Vk h (by lia),ih (n/10) (by lia) g (by lia)];unfold aB;rw[Vk h (yp n),ih (n/10) (by lia) n (by lia)];rfl
def qR(h:n<10):aB n=[48+n]:=Uj h
def sM(h:¬n<10):aB n=aB (n/10)++[48+n%10]:=by
 rw[show aB n=od (n+1) n [] from rfl,Vk h (yp n),aqq (n/10) n (by lia)]
def zU:∀{k n:Nat},n<10^(k+1)->(aB n).length<=k+1
 | 0,n,h=>by rw[qR (by simpa using h)];simp
 | k+1,n,h=>by
  by_cases h1:n<10
  .rw [qR h1];simp
  .rw [sM h1,yJ]
   have:n/10<10^(k+1):=by
    grind
   have:=zU this
   grind
def Ol(h:n<18446744073709551616):(aB n).length<=20:=zU (k:=19) (by lia)
def nt(n:Nat):aV (n:Int)=aB n:=rfl
def pC{n:Int}(h:n<0):aV n=45::aB n.natAbs:=by
 cases n with
 | ofNat n=>exact absurd h (by simp)
 | negSucc n=>rfl
def bT:List Nat->Nat
 | []=>0
 | b::r=>if b=47 then 0 else bT r+1
def al6{i:Nat}(h:i<s.length):bT (s.drop i)=if s[i]=47 then 0 else bT (s.drop (i+1))+1:=by
 rw[yR h];rfl
def J5:∀s:List Nat,bT s<=s.length
 | []=>yp _
 | b::r=>by
  unfold bT
  have:=J5 r
  grind
def dn:List Nat->Bool
 | []=>ydb
 | b::r=>yB 48 b&&yB b 57&&dn r
def NZ:∀(a b:List Nat),dn (a++b)=(dn a&&dn b)
 | [],b=>by simp[dn]
 | x::a,b=>by simp[dn,NZ a b,Bool.and_assoc]
def J6(n:Nat):dn (aB n)=ydb:=by
 induction n using vP with
 | _ n ih=>
  by_cases h:n<10
  .rw [qR h];simp[dn];lia
  .rw [sM h,NZ,ih (n/10) (by lia)];simp[dn];lia
def N1:∀{s:List Nat} (r:List Nat),dn s=ydb->bT (s++r)=s.length+bT r
 | [],r,_=>by simp
 | b::s,r,h=>by
  simp only[dn,ye] at h;have h1:=yt h.1.1;simp only[yj,bT,yF];rw[yr (by lia),N1 r h.2]
  lia
def N3:∀(l:List Nat) (a d:Nat),d<10->cL (l++[48+d]) a=(cL l a).map (fun v=>10*v+d)
 | [],a,d,h=>by
  simp only[yy,cL];rw[show yB 48 (48+d)=ydb from yv (by lia),show yB (48+d) 57=ydb from yv (by lia)]
  simp
 | b::l,a,d,h=>by
  simp only[yj,cL]
  cases (yB 48 b&&yB b 57) with
  | true=>exact N3 l _ d h
  | false=>rfl
def GA(n:Nat):cL (aB n) 0=Gp n:=by
 induction n using vP with
 | _ n ih=>
  by_cases h:n<10
  .rw [qR h]
   have:=N3 [] 0 n h
   simpa[cL] using this
  .rw [sM h,N3 _ _ _ (by lia),ih (n/10) (by lia)]
   simp;lia
def aoi{i a v:Nat}(h:i<s.length)(hv:cL (s.drop i) a=Gp v):48<=s[i]/\s[i]<=57/\cL (s.drop (i+1)) (10*a+(s[i]-48))=Gp v:=by
 rw[yR h] at hv;simp only[cL] at hv
 cases hb:(yB 48 s[i]&&yB s[i] 57) with
 | false=>rw[hb] at hv;cases hv
 | true=>
  simp_all
def jK:Nat->Nat->List Nat
 | 0,_=>[]
 | k+1,n=>jK k (n/10)++[48+n%10]
def UP:∀k n,(jK k n).length=k
 | 0,_=>rfl
 | k+1,n=>by simp[jK,UP k]
def OX:∀(k m r:Nat),0<m->r<10^k->aB (m*10^k+r)=aB m++jK k r
 | 0,m,r,_,h=>by simp at h;subst h;simp[jK]
 | k+1,m,r,hm,h=>by
  have h1:m*10^(k+1)+r=(m*10^k)*10+r:=by grind
  have hp:0<m*10^k:=wU hm (ybO (by decide));have e1:(m*10^(k+1)+r)/10=m*10^k+r/10:=by lia
  have e2:(m*10^(k+1)+r)%10=r%10:=by lia
  rw[sM (by lia),e1,e2,OX k m (r/10) hm (by rw[xn] at h;lia)]
  simp[jK]
def adj:∀(k r a:Nat),r<10^k->cL (jK k r) a=Gp (a*10^k+r)
 | 0,r,a,h=>by simp at h;subst h;simp[jK,cL]
 | k+1,r,a,h=>by
  rw[jK,N3 _ _ _ (xJ _ (by decide)),adj k (r/10) a (by lia)];simp only[wO,yc,xn]
  grind
def aqr{m:Nat}(h:1000000000<=m):aB m=aB (m/1000000000)++jK 9 (m%1000000000):=by
 have:=OX 9 (m/1000000000) (m%1000000000) (by lia) (by lia)
 grind
end
def js(s:List Nat)(l h:Option Nat):Option AV:=
 match l,h with
 | some l,Gp h=>bif yB l h&&yB h s.length then Gp (.str ((s.take h).drop l)) else Gq
 | _,_=>Gq
def eY(hp:Hp)(s:List Nat)(tm:Env)(lo hi:Option X):fC hp .str (.str s) tm lo hi=js s (cU tm 0 lo) (cU tm s.length hi):=by
 unfold js;simp only[fC]
 grind
def fm(tm:Env)(d:Nat):cU tm d Gq=Gp d:=rfl
def dT(tm:Env)(d:Nat)(x:X):cU tm d (Gp x)=dd (ay tm x):=rfl
def mK{s:List Nat}{l h:Nat}(h1:l<=h)(h2:h<=s.length):js s (Gp l) (Gp h)=Gp (.str ((s.take h).drop l)):=by
 simp[js,yv h1,yv h2]
def iC{a b:List Nat}(h:a.length+b.length<=9223372036854775807):binOp .add (.str a) (.str b)=Gp (.str (a++b)):=by
 show Lm .add a b=_
 simp only[Lm,yv h,yu]
def asR(k:xe)(n:Int):mu (.toInt .i64) (.int k n)=Gp (aa (IntKind.wrap .i64 n)):=rfl
def nB(a b:List Nat):binOp .eql (.str a) (.str b)=Gp (.bool (cK a b)):=rfl
def sO{s:List Nat}{i:Nat}(h:i<s.length):oD i (.str s)=Gp (.int .u8 (s[i]:Nat)):=by
 simp only[oD,xv h]
def abj{r:Nat}(h:r<10):js [48,49,50,51,52,53,54,55,56,57] (Gp r) (Gp (r+1))=Gp (.str [48+r]):=by
 have:r=0\/r=1\/r=2\/r=3\/r=4\/r=5\/r=6\/r=7\/r=8\/r=9:=by lia
 rcases this with rfl | rfl | rfl | rfl | rfl | rfl | rfl | rfl | rfl | rfl<;>rfl
def Xw(h:Has P L 292 BL){n:Nat}(hn:n<9223372036854775808):ab P L 292 [aa n,aa 1] (.str (aB n)):=by
 have key:=gV P L [0,1,5] pJ
  (fun k st=>∃(m:Nat) (s:List Nat),st=⟨[(0,aa m),(1,aa 1),(5,.str s)],[],0,0⟩/\m<=n/\m+(1-s.length)=k/\s.length<=20/\((s=[]/\m=n)\/(0<s.length/\(m=0->s=aB n)/\(0<m->aB n=aB m++s))))
  (fun ex st=>∃tm ct,st=⟨tm,[],ct,0⟩/\ex=.exit 0/\ak tm 5=.str (aB n)) ?_
 .unfold ab;rw[aD h];simp only[go_sem,BL];generalize hq:D P L (.loop _ pJ) _=q;obtain⟨ex,st,rfl,tm,ct,rfl,rfl,h2⟩:=bL hq (key (n+1)) ⟨n,[],by simp only[go_sem,ya,ax]<;>rfl,by lia,rfl,by simp,.inl ⟨rfl,rfl⟩⟩
  simp only[go_sem,ax,h2]
 .rintro k st ⟨m,s,rfl,hm,hk,hl,hs⟩;by_cases AW:0<m\/s.length<1
  .left
   have hc:((decide ((0:Int)<m))=ydb)\/((decide ((0:Int)<m))=ydc/\((s.length:Nat):Int)<1):=by
    by_cases h0:0<m
    .exact .inl (xk (by lia))
    .exact .inr ⟨yW (by lia),by lia⟩
   have hr:((m:Int)).tmod 10=((m%10:Nat):Int):=by rw[xV (by lia)];rfl
   have hq:((m:Int)).tdiv 10=((m/10:Nat):Int):=by rw[xW (by lia)];rfl
   have hd:=abj (r:=m%10) (by lia);have fin:∃s' k',D P L pJ ⟨[(0,aa m),(1,aa 1),(5,.str s)],[],0,0⟩=Gp (.normal,s')/\k'<k/\bn [0,1,5] s'=⟨[(0,aa (m/10:Nat)),(1,aa 1),(5,.str ([48+m%10]++s))],[],0,0⟩/\m/10+(1-([48+m%10]++s).length)=k':=by
    rcases hc with hc | ⟨hc,AP⟩
    .have hc:(0:Int)<m:=of_decide_eq_true hc
     simp only[go_sem,ya,yb,pJ,hc,fH _ _ _ (show (10:Int)≠0 by decide),eX _ _ _ (show (10:Int)≠0 by decide),hr,hq,wrapN (n:=m%10+1) (by lia),wrap64 (n:=((m/10:Nat):Int)) (by lia) (by lia),eY,dT,show ((m%10:Nat):Int)+1=((m%10+1:Nat):Int) from rfl,hd,iC (a:=[48+m%10]) (b:=s) (by simp;lia)]
     refine⟨_,_,rfl,?_,by simp only[go_sem,ya,ax],rfl⟩
     simp;lia
    .have hc:¬(0:Int)<m:=of_decide_eq_false hc
     simp only[go_sem,ya,yb,pJ,hc,AP,fH _ _ _ (show (10:Int)≠0 by decide),eX _ _ _ (show (10:Int)≠0 by decide),hr,hq,wrapN (n:=m%10+1) (by lia),wrap64 (n:=((m/10:Nat):Int)) (by lia) (by lia),eY,dT,show ((m%10:Nat):Int)+1=((m%10+1:Nat):Int) from rfl,hd,iC (a:=[48+m%10]) (b:=s) (by simp;lia)]
     refine⟨_,_,rfl,?_,by simp only[go_sem,ya,ax],rfl⟩
     simp;lia
   have⟨s',k',f1,f2,f3,f4⟩:=fin;refine⟨s',k',f1,f2,m/10,[48+m%10]++s,f3,by lia,f4,?_,.inr ⟨by simp,fun h0=>?_,fun h0=>?_⟩⟩
   .have aGd:=Ol (n:=n) (by lia);rcases hs with ⟨rfl,rfl⟩ | ⟨h1,h2,h3⟩
    .simp
    .by_cases h0:0<m
     .have e:=congrArg xT (h3 h0);have e2:0<(aB m).length:=by
       by_cases h9:m<10
       .rw [qR h9];simp
       .rw [sM h9];simp
      simp only[yJ] at e
      simp;lia
     .lia
   .have h9:m<10:=by lia
    rcases hs with ⟨rfl,rfl⟩ | ⟨h1,h2,h3⟩
    .rw [qR h9,yT h9];rfl
    .have:0<m:=by lia
     rw[h3 this,qR h9,yT h9]
   .have h9:¬m<10:=by lia
    rcases hs with ⟨rfl,rfl⟩ | ⟨h1,h2,h3⟩
    .rw [sM h9];simp
    .rw [h3 (by lia),sM h9];simp
  .right
   simp only[go_sem,ya,pJ,show ¬(0:Int)<m by lia,show ¬((s.length:Nat):Int)<1 by lia];refine⟨_,_,rfl,by simp,_,_,rfl,rfl,?_⟩;simp only[go_sem,ya];rcases hs with ⟨rfl,rfl⟩ | ⟨h1,h2,h3⟩
   .simp at AW
   .rw [h2 (by lia)]
def aAq(h:Has P L 291 L9){a b:Nat}(ha:a<9223372036854775808)(hb:b<9223372036854775808):ab P L 291 [aa a,aa b] (aa (wM a b)):=by
 have key:=gV P L [0,1] KW
  (fun k st=>∃x y:Nat,st=⟨[(0,aa x),(1,aa y)],[],0,0⟩/\y=k/\wM x y=wM a b)
  (fun ex st=>∃tm ct,st=⟨tm,[],ct,0⟩/\ex=.exit 0/\ak tm 0=aa (wM a b)) ?_
 .unfold ab;rw[aD h];simp only[go_sem,L9];generalize hq:D P L (.loop _ KW) _=q;obtain⟨ex,st,rfl,tm,ct,rfl,rfl,h2⟩:=bL hq (key b) ⟨a,b,by simp only[go_sem,ya,ax]<;>rfl,rfl,rfl⟩
  simp only[go_sem,ax,h2]
 .rintro k st ⟨x,y,rfl,rfl,hg⟩;by_cases hy:y=0
  .right
   subst hy;simp only[go_sem,ya,KW,show ¬(0:Int)<((0:Nat):Int) by lia];refine⟨_,_,rfl,by simp,_,_,rfl,rfl,?_⟩;simp only[go_sem,ya];rw[<-hg,Nat.gcd_zero_right]
  .left
   have hr:((x:Int)).tmod y=((x%y:Nat):Int):=by rw[xV (by lia)];rfl
   simp only[go_sem,ya,KW,show (0:Int)<y by lia,fH _ _ _ (show (y:Int)≠0 by lia),hr];refine⟨_,x%y,rfl,xJ _ (by lia),y,x%y,by simp only[go_sem,ya,ax],rfl,?_⟩;rw[<-hg,tU y,<-ycL,tU]
def HO(h:Has P L 272 L6){s:List Nat}(hl:s.length<9223372036854775808):ab P L 272 [.str s] (aa (bT s)):=by
 have key:=gV P L [0,3] G3
  (fun k st=>∃i:Nat,st=⟨[(0,.str s),(3,aa i)],[],0,0⟩/\i+k=s.length/\i+bT (s.drop i)=bT s)
  (fun ex st=>∃tm ct,st=⟨tm,[],ct,0⟩/\((ex=.ret/\ak tm 2=aa (bT s))\/(ex=.exit 0/\ak tm 0=.str s/\bT s=s.length))) ?_
 .unfold ab;rw[aD h];simp only[go_sem,L6];generalize hq:D P L (.loop _ G3) _=q;obtain⟨ex,st,rfl,tm,ct,rfl,h2⟩:=bL hq (key s.length) ⟨0,by simp only[go_sem,ya,ax]<;>rfl,by lia,by simp⟩
  rcases h2 with ⟨rfl,h2⟩ | ⟨rfl,h2,h3⟩
  .simp only [go_sem,h2]
  .simp only [go_sem,ax,h2,h3]
 .rintro k st ⟨i,rfl,hk,hs⟩;by_cases hi:i<s.length
  .rw [al6 hi] at hs;by_cases h7:s[i]=47
   .right
    rw[yC h7] at hs;simp only[go_sem,ya,G3,show (i:Int)<s.length by lia,sO hi,show ((s[i]:Nat):Int)=47 by lia];refine⟨_,_,rfl,by simp,_,_,rfl,.inl ⟨rfl,?_⟩⟩;simp only[go_sem];rw[<-hs];rfl
   .left
    rw[yr h7] at hs;simp only[go_sem,ya,G3,show (i:Int)<s.length by lia,sO hi,show ¬((s[i]:Nat):Int)=47 by lia];refine⟨_,k-1,rfl,by lia,i+1,?_,by lia,by lia⟩;rw[wrap64 (by lia) (by lia)];simp only[go_sem,ya,ax]<;>rfl
  .right
   simp only[go_sem,ya,G3,show ¬(i:Int)<s.length by lia];refine⟨_,_,rfl,by simp,_,_,rfl,.inr ⟨rfl,rfl,?_⟩⟩;rw[xd (by lia)] at hs;simp only[bT] at hs
   lia
def Mq(h:Has P L 290 HF){s:List Nat}{v:Nat}(hl:s.length<=18)(hv:cL s 0=Gp v):ab P L 290 [.str s] (aa v):=by
 have key:=gV P L [0,3,4] KV
  (fun k st=>∃i a:Nat,st=⟨[(0,.str s),(3,aa a),(4,aa i)],[],0,0⟩/\i+k=s.length/\a<10^i/\cL (s.drop i) a=Gp v)
  (fun ex st=>∃tm ct,st=⟨tm,[],ct,0⟩/\ex=.exit 0/\ak tm 3=aa v) ?_
 .unfold ab;rw[aD h];simp only[go_sem,HF];generalize hq:D P L (.loop _ KV) _=q;obtain⟨ex,st,rfl,tm,ct,rfl,rfl,h2⟩:=bL hq (key s.length) ⟨0,0,by simp only[go_sem,ya,ax]<;>rfl,by lia,by simp,hv⟩
  simp only[go_sem,ax,h2]
 .rintro k st ⟨i,a,rfl,hk,ha,hs⟩;by_cases hi:i<s.length
  .left
   have⟨h1,h2,h3⟩:=aoi hi hs;have hp:10^i<=10^17:=xa (by decide) (by lia);have hb:IntKind.wrap .i64 ((s[i]:Nat):Int)=((s[i]:Nat):Int):=wrap64 (by lia) (by lia)
   simp only[go_sem,ya,KV,show (i:Int)<s.length by lia,sO hi,asR,hb,wrap64 (n:=10*(a:Int)) (by lia) (by lia),wrap64 (n:=10*(a:Int)+(s[i]:Nat)) (by lia) (by lia),wrap64 (n:=10*(a:Int)+(s[i]:Nat)-48) (by lia) (by lia)];refine⟨_,k-1,rfl,by lia,i+1,10*a+(s[i]-48),?_,by lia,?_,h3⟩
   .rw [wrap64 (by lia) (by lia),show 10*(a:Int)+(s[i]:Nat)-48=((10*a+(s[i]-48):Nat):Int) by lia];simp only[go_sem,ya,ax]<;>rfl
   .rw [xn];lia
  .right
   simp only[go_sem,ya,KV,show ¬(i:Int)<s.length by lia];refine⟨_,_,rfl,by simp,_,_,rfl,rfl,?_⟩;rw[xd (by lia)] at hs;simp only[cL,yc] at hs;subst hs;simp only[go_sem,ya]
def Po(a:Int):(if 0-a>a then 0-a else a)=(a.natAbs:Int):=by lia
def OY(a b:Int):a.tdiv (vv a b:Nat)=dC a b:=yaK (yaj a b)
def OZ(a b:Int):b.tdiv (vv a b:Nat)=dP a b:=yaK (yaa a b)
def pk(n:Int):(if n<0 then [45] else [])++aB n.natAbs=aV n:=by
 split
 .rename_i h;rw[pC h];rfl
 .rename_i h;obtain⟨m,rfl⟩:∃m:Nat,n=m:=⟨n.toNat,by lia⟩;rfl
def aqs{n:Int}(h:n.natAbs<18446744073709551616):(aV n).length<=21:=by
 rw[<-pk]
 have:=Ol h
 grind
def asS{a b:Int}(hb:0<b):rG a b=(if 1<dP a b then (aV (dC a b)++[47])++aB (dP a b).natAbs else aV (dC a b)):=by
 have h:=Ke (a:=a) hb;unfold rG;by_cases h1:dP a b=1
 .grind
 .rw [yr h1,yC (by lia)];obtain⟨m,hm⟩:∃m:Nat,dP a b=m:=⟨(dP a b).toNat,by lia⟩;rw[hm];rfl
def aAr(h:Has P L 277 Fk)(Xx:Has P L 291 L9)(rH:Has P L 292 BL){a b:Int}(ha: -4000000000000000000<=a/\a<=4000000000000000000)(hb:0<b/\b<=4000000000000000000):
  ab P L 277 [aa a,aa b] (.str (rG a b)):=by
 have hn:=adh a b;have hd:=adi a b;have hp:=Ke (a:=a) hb.1;have e1:=aAq Xx (a:=a.natAbs) (b:=b.natAbs) (by lia) (by lia);have e2:=Xw rH (n:=(dC a b).natAbs) (by lia);have e3:=Xw rH (n:=(dP a b).natAbs) (by lia);have hg:=Pn (a:=a) hb.1;rw[show ((b.natAbs:Nat):Int)=b by lia,show wM a.natAbs b.natAbs=vv a b from rfl] at e1;rw[show (((dP a b).natAbs:Nat):Int)=dP a b by lia] at e3;have qh:=aqs (n:=dC a b) (by lia);have B1:=Ol (n:=(dC a b).natAbs) (by lia);have hl3:=Ol (n:=(dP a b).natAbs) (by lia);have hT:=asS (a:=a) hb.1;have hS:=pk (dC a b);unfold ab at e1 e2 e3 ⊢;rw[aD h];by_cases h0:dC a b<0
 .rw [yC h0] at hS;by_cases h1:1<dP a b
  .rw [yC h1] at hT
   simp only[go_sem,ya,Fk,show ¬a< -4000000000000000000 by lia,show ¬4000000000000000000<a by lia,show ¬b< -4000000000000000000 by lia,show ¬4000000000000000000<b by lia,show ¬b<0 by lia,wrap64 (n:=0-a) (by lia) (by lia),EO,Kd,Po,e1,eX _ _ _ (show ((vv a b:Nat):Int)≠0 by lia),OY,OZ,wrap64 (n:=dC a b) (by lia) (by lia),wrap64 (n:=dP a b) (by lia) (by lia),h0,wrap64 (n:=0-dC a b) (by lia) (by lia),e2,iC (a:=[45]) (b:=aB (dC a b).natAbs) (by simp;lia),hS,h1,iC (a:=aV (dC a b)) (b:=[47]) (by simp;lia),e3,iC (a:=aV (dC a b)++[47]) (b:=aB (dP a b).natAbs) (by simp;lia),hT]
  .rw [yr h1] at hT
   simp only[go_sem,ya,Fk,show ¬a< -4000000000000000000 by lia,show ¬4000000000000000000<a by lia,show ¬b< -4000000000000000000 by lia,show ¬4000000000000000000<b by lia,show ¬b<0 by lia,wrap64 (n:=0-a) (by lia) (by lia),EO,Kd,Po,e1,eX _ _ _ (show ((vv a b:Nat):Int)≠0 by lia),OY,OZ,wrap64 (n:=dC a b) (by lia) (by lia),wrap64 (n:=dP a b) (by lia) (by lia),h0,wrap64 (n:=0-dC a b) (by lia) (by lia),e2,iC (a:=[45]) (b:=aB (dC a b).natAbs) (by simp;lia),hS,h1,hT]
 .rw [yr h0] at hS;by_cases h1:1<dP a b
  .rw [yC h1] at hT
   simp only[go_sem,ya,Fk,show ¬a< -4000000000000000000 by lia,show ¬4000000000000000000<a by lia,show ¬b< -4000000000000000000 by lia,show ¬4000000000000000000<b by lia,show ¬b<0 by lia,wrap64 (n:=0-a) (by lia) (by lia),EO,Kd,Po,e1,eX _ _ _ (show ((vv a b:Nat):Int)≠0 by lia),OY,OZ,wrap64 (n:=dC a b) (by lia) (by lia),wrap64 (n:=dP a b) (by lia) (by lia),h0,wrap64 (n:=0-dC a b) (by lia) (by lia),e2,iC (a:=[]) (b:=aB (dC a b).natAbs) (by simp;lia),hS,h1,iC (a:=aV (dC a b)) (b:=[47]) (by simp;lia),e3,iC (a:=aV (dC a b)++[47]) (b:=aB (dP a b).natAbs) (by simp;lia),hT]
  .rw [yr h1] at hT
   simp only[go_sem,ya,Fk,show ¬a< -4000000000000000000 by lia,show ¬4000000000000000000<a by lia,show ¬b< -4000000000000000000 by lia,show ¬4000000000000000000<b by lia,show ¬b<0 by lia,wrap64 (n:=0-a) (by lia) (by lia),EO,Kd,Po,e1,eX _ _ _ (show ((vv a b:Nat):Int)≠0 by lia),OY,OZ,wrap64 (n:=dC a b) (by lia) (by lia),wrap64 (n:=dP a b) (by lia) (by lia),h0,wrap64 (n:=0-dC a b) (by lia) (by lia),e2,iC (a:=[]) (b:=aB (dC a b).natAbs) (by simp;lia),hS,h1,hT]
def TT(n:Int)(d:Nat):List Nat:=aV n++(if d=1 then [] else 47::aB d)
def asT{a b:Int}(hb:0<b):rG a b=TT (dC a b) (dP a b).toNat:=by
 have h:=Ke (a:=a) hb;unfold rG TT;by_cases h1:dP a b=1
 .grind
 .rw [yr h1,yr (by lia)];obtain⟨m,hm⟩:∃m:Nat,dP a b=m:=⟨(dP a b).toNat,by lia⟩;rw[hm,xD];rfl
def CC(n:Nat):0<(aB n).length:=by
 by_cases h:n<10
 .rw [qR h];simp
 .rw [sM h];simp
def Ku:∀(n:Nat),n<10^(aB n).length:=by
 intro n
 induction n using vP with
 | _ n ih=>
  by_cases h:n<10
  .rw [qR h];simpa using h
  .have:=ih (n/10) (by lia)
   rw[sM h,yJ,tA,xn]
   lia
def adk{n:Nat}(h:(aB n).length<=9):n<1000000000:=
 yG (Ku n) (by simpa using xa (show 0<10 by decide) h)
def GB(n:Nat):∃b r,aB n=b::r/\48<=b/\b<=57:=by
 cases hq:aB n with
 | nil=>have:=CC n;rw[hq] at this;simp at this
 | cons b r=>
  have:=J6 n
  rw[hq] at this;simp only[dn,ye] at this
  simp_all
def Fw(s:List Nat):oD 0 (.str (45::s))=Gp (.int .u8 45):=rfl
def VO(q:Bool)(n:Int)(d:Nat):AV:=if q=ydb then .av [aa n,aa d,.bool ydb] else .av [aa 0,aa 0,.bool ydc]
def Bz(d:Nat):List Nat:=if d=1 then [] else 47::aB d
def amO(d:Nat):bT (Bz d)=0:=by unfold Bz;split<;>rfl
def aAs(h:Has P L 276 rF)(Dj:Has P L 272 L6)(BP:Has P L 290 HF){n:Int}{d:Nat}(hl:(TT n d).length<=20000000000):
  ∃q:Bool,ab P L 276 [.str (TT n d)] (VO q n d)/\(q=ydb->n.natAbs<1000000000/\d<1000000000):=by
 generalize hs:TT n d=s at hl;by_cases oS:20<s.length
 .refine ⟨ydc,?_,fun h=>by cases h⟩;unfold ab;rw[aD h];simp only[go_sem,ya,rF,show (20:Int)<s.length by lia];rfl
 .have hu:∃u,u=aB n.natAbs++Bz d:=⟨_,rfl⟩;have⟨u,hu⟩:=hu;have hK:∃K,K=(aB n.natAbs).length:=⟨_,rfl⟩;have⟨K,hK⟩:=hK;have Ik:bT u=K:=by rw[hu,N1 _ (J6 _),amO,hK];rfl
  have hlen:u.length=K+(Bz d).length:=by rw[hu,hK,yJ]
  have hp:=CC n.natAbs;have⟨b,r,hb,ej,cQ⟩:=GB n.natAbs;have qD:(n<0/\s=45::u)\/(¬n<0/\s=u):=by
   by_cases h0:n<0
   .left;refine⟨h0,?_⟩;rw[<-hs,hu,TT,pC h0];rfl
   .right;refine⟨h0,?_⟩;rw[<-hs,hu,TT,<-pk,yr h0];rfl
  have hul:u.length<=s.length:=by rcases qD with ⟨_,e⟩ | ⟨_,e⟩<;>rw[e]<;>simp
  have DQ:0<u.length:=by lia
  have zA:u[0]=b:=by
   have:u=b::(r++Bz d):=by rw[hu,hb];rfl
   simp[this]
  have e1:=HO Dj (s:=u) (by lia);rw[Ik] at e1;have eJ:js u (Gp 0) (Gp K)=Gp (.str (aB n.natAbs)):=by
   rw[mK (by lia) (by lia),yf,hu,hK,List.take_left]
  unfold ab at e1;by_cases h9:9<K
  .refine ⟨ydc,?_,fun h=>by cases h⟩;unfold ab;rw[aD h];rcases qD with ⟨h0,e⟩ | ⟨h0,e⟩
   .have oS:¬20<u.length+1:=by rw[e] at oS;exact oS
    have lz:js (45::u) (Gp 1) (Gp (u.length+1))=Gp (.str u):=by rw[mK (s:=45::u) (l:=1) (h:=u.length+1) (by lia) (by simp)];simp
    rw[e];simp only[go_sem,ya,rF,show ¬(20:Int)<((u.length+1:Nat):Int) by lia,show (0:Int)<((u.length+1:Nat):Int) by lia,Fw,eY,fm,dT,lz,e1,show (9:Int)<(K:Int) by lia];rfl
   .rw [e];simp only[go_sem,ya,rF,show ¬(20:Int)<(u.length:Nat) by lia,show (0:Int)<(u.length:Nat) by lia,sO DQ,zA,show ¬((b:Nat):Int)=45 by lia,e1,show (9:Int)<(K:Int) by lia];rfl
  .by_cases jf:10<(Bz d).length
   .refine ⟨ydc,?_,fun h=>by cases h⟩;unfold ab;rw[aD h];rcases qD with ⟨h0,e⟩ | ⟨h0,e⟩
    .have oS:¬20<u.length+1:=by rw[e] at oS;exact oS
     have lz:js (45::u) (Gp 1) (Gp (u.length+1))=Gp (.str u):=by rw[mK (s:=45::u) (l:=1) (h:=u.length+1) (by lia) (by simp)];simp
     rw[e]
     simp only[go_sem,ya,rF,show ¬(20:Int)<((u.length+1:Nat):Int) by lia,show (0:Int)<((u.length+1:Nat):Int) by lia,Fw,eY,fm,dT,lz,e1,show ¬(9:Int)<(K:Int) by lia,wrap64 (n:=(u.length:Int)-(K:Int)) (by lia) (by lia),show (10:Int)<(u.length:Int)-(K:Int) by lia];rfl
    .rw [e]
     simp only[go_sem,ya,rF,show ¬(20:Int)<(u.length:Nat) by lia,show (0:Int)<(u.length:Nat) by lia,sO DQ,zA,show ¬((b:Nat):Int)=45 by lia,e1,show ¬(9:Int)<(K:Int) by lia,wrap64 (n:=(u.length:Int)-(K:Int)) (by lia) (by lia),show (10:Int)<(u.length:Int)-(K:Int) by lia];rfl
   .have e2:=Mq BP (s:=aB n.natAbs) (by lia) (GA n.natAbs);unfold ab at e2;have hm:=adk (n:=n.natAbs) (by lia);by_cases hd:d=1
    .subst hd;have mA:Bz 1=[]:=rfl;refine⟨ydb,?_,fun _=>⟨hm,by decide⟩⟩;rw[mA] at hlen;simp only[yN,yX] at hlen;unfold ab;rw[aD h];rcases qD with ⟨h0,e⟩ | ⟨h0,e⟩
     .have oS:¬20<u.length+1:=by rw[e] at oS;exact oS
      have lz:js (45::u) (Gp 1) (Gp (u.length+1))=Gp (.str u):=by rw[mK (s:=45::u) (l:=1) (h:=u.length+1) (by lia) (by simp)];simp
      rw[e]
      simp only[go_sem,ya,rF,show ¬(20:Int)<((u.length+1:Nat):Int) by lia,show (0:Int)<((u.length+1:Nat):Int) by lia,Fw,eY,fm,dT,lz,e1,show ¬(9:Int)<(K:Int) by lia,wrap64 (n:=(u.length:Int)-(K:Int)) (by lia) (by lia),show ¬(10:Int)<(u.length:Int)-(K:Int) by lia,eJ,e2,show ¬(K:Int)<(u.length:Int) by lia,wrap64 (n:=0-(n.natAbs:Int)) (by lia) (by lia)];rw[show 0-(n.natAbs:Int)=n by lia];rfl
     .rw [e]
      simp only[go_sem,ya,rF,show ¬(20:Int)<(u.length:Nat) by lia,show (0:Int)<(u.length:Nat) by lia,sO DQ,zA,show ¬((b:Nat):Int)=45 by lia,eY,fm,dT,e1,show ¬(9:Int)<(K:Int) by lia,wrap64 (n:=(u.length:Int)-(K:Int)) (by lia) (by lia),show ¬(10:Int)<(u.length:Int)-(K:Int) by lia,eJ,e2,show ¬(K:Int)<(u.length:Int) by lia];rw[show (n.natAbs:Int)=n by lia];rfl
    .have mA:Bz d=47::aB d:=yr hd;have Iu:(Bz d).length=(aB d).length+1:=by rw[mA];rfl
     have hpd:=CC d;have hd9:=adk (n:=d) (by lia);have e3:=Mq BP (s:=aB d) (by lia) (GA d);unfold ab at e3;have AP:js u (Gp (K+1)) (Gp u.length)=Gp (.str (aB d)):=by
      rw[mK (by lia) (yp _),xL,hu,mA,hK,show (aB n.natAbs).length+1=(aB n.natAbs++[47]).length by simp,show aB n.natAbs++47::aB d=(aB n.natAbs++[47])++aB d by simp,List.drop_left]
     refine⟨ydb,?_,fun _=>⟨hm,hd9⟩⟩;unfold ab;rw[aD h];rcases qD with ⟨h0,e⟩ | ⟨h0,e⟩
     .have oS:¬20<u.length+1:=by rw[e] at oS;exact oS
      have lz:js (45::u) (Gp 1) (Gp (u.length+1))=Gp (.str u):=by rw[mK (s:=45::u) (l:=1) (h:=u.length+1) (by lia) (by simp)];simp
      rw[e]
      simp only[go_sem,ya,rF,show ¬(20:Int)<((u.length+1:Nat):Int) by lia,show (0:Int)<((u.length+1:Nat):Int) by lia,Fw,eY,fm,dT,lz,e1,show ¬(9:Int)<(K:Int) by lia,wrap64 (n:=(u.length:Int)-(K:Int)) (by lia) (by lia),show ¬(10:Int)<(u.length:Int)-(K:Int) by lia,eJ,e2,show (K:Int)<(u.length:Int) by lia,wrapN (n:=K+1) (by lia),show (K:Int)+1=((K+1:Nat):Int) from rfl,AP,e3,wrap64 (n:=0-(n.natAbs:Int)) (by lia) (by lia)];rw[show 0-(n.natAbs:Int)=n by lia];rfl
     .rw [e]
      simp only[go_sem,ya,rF,show ¬(20:Int)<(u.length:Nat) by lia,show (0:Int)<(u.length:Nat) by lia,sO DQ,zA,show ¬((b:Nat):Int)=45 by lia,eY,fm,dT,e1,show ¬(9:Int)<(K:Int) by lia,wrap64 (n:=(u.length:Int)-(K:Int)) (by lia) (by lia),show ¬(10:Int)<(u.length:Int)-(K:Int) by lia,eJ,e2,show (K:Int)<(u.length:Int) by lia,wrapN (n:=K+1) (by lia),show (K:Int)+1=((K+1:Nat):Int) from rfl,AP,e3];rw[show (n.natAbs:Int)=n by lia];rfl
def Xy(h:Has P L 302 Au){v:AV}{l:List Int}(hv:bA v l)(i:Nat):ab P L 302 [v,aa i] (aa (l.getD i 0)):=by
 unfold ab;rw[aD h];by_cases hi:i<l.length
 .simp only [go_sem,ya,Au,hv.len,show (i:Int)<l.length by lia,hv.bk hi];simp[xc,xv hi]
 .simp only [go_sem,ya,Au,hv.len,show ¬(i:Int)<l.length by lia];simp[xc,List.getElem?_eq_none (Nat.le_of_not_lt hi)]
def aeo{hp:Hp}{e:Bool}{n:Nat}{cs:List AV}{tm:Env}{h:Nat}{x:X}(hx:cU tm n (Gp x)=Gp h)(hh:h<=n):
  fC hp (.sl 1) (.ap e n cs) tm Gq (Gp x)=Gp (.ap (e&&yq h n) h (cs.take h)):=by
 simp only[fC,hx,fm];simp[yv hh,slice];rw[show yB 0 h=ydb from yv (tk _)];rfl
def Dk(h:Has P L 300 mV){v:AV}{l:List Int}(hv:bA v l)(hl:l.length<=20000000000):∃r,ab P L 300 [v] r/\bA r (et l)/\shut r=r:=by
 rcases hv with ⟨rfl,h0⟩ | ⟨e,rfl⟩
 .have:l=[]:=by simpa using h0
  subst this;refine⟨.ah,?_,po,rfl⟩;unfold ab;rw[aD h];simp only[go_sem,ya,mV,PN,EI,ax,show ¬(0:Int)<0 by decide]
 .have key:=gV P L [0] EI
   (fun k st=>∃(i:Nat) (e:Bool),st=⟨[(0,.ap e i ((l.take i).map aa))],[],0,0⟩/\i<=l.length/\i=k/\et (l.take i)=et l)
   (fun ex st=>∃tm ct,st=⟨tm,[],ct,0⟩/\ex=.exit 0/\∃i e,ak tm 0=.ap e i ((l.take i).map aa)/\i<=l.length/\l.take i=et l) ?_
  .have hlen:(l.map aa).length=l.length:=by simp
   rw[hlen];have kw:∃i e',ab P L 300 [.ap e l.length (l.map aa)] (.ap e' i ((l.take i).map aa))/\i<=l.length/\l.take i=et l:=by
    unfold ab;rw[aD h];simp only[go_sem,mV];generalize hq:D P L (.loop _ EI) _=q;obtain⟨ex,st,rfl,tm,ct,rfl,rfl,i,e',h2,h3,h4⟩:=bL hq (key l.length) ⟨l.length,e,by simp only[go_sem,ya,ax,xL],yp _,rfl,by rw[xL]⟩;simp only[go_sem,ax,h2];exact⟨i,e',rfl,h3,h4⟩
   have⟨i,e',g1,g2,g3⟩:=kw;refine⟨_,g1,?_,rfl⟩;rw[<-g3]
   have:=jY e' (l.take i)
   rwa[yQ,xB g2] at this
  .rintro k st ⟨i,e,rfl,hi,rfl,ht⟩
   cases i with
   | zero=>
    right
    simp only[go_sem,ya,EI,show ¬(0:Int)<((0:Nat):Int) by lia];exact⟨_,_,rfl,by simp,_,_,rfl,rfl,0,e,rfl,tk _,by simpa[et] using ht⟩
   | succ i=>
    have qF:i<l.length:=by lia
    have fg:l.take (i+1)=l.take i++[l[i]]:=xi qF;have kD:um i ((l.take (i+1)).map aa)=[AV.int .i64 l[i]]:=by
     rw[fg,xg,tq (by simp;lia)];rfl
    have me:gH 1 i (.ap e (i+1) ((l.take (i+1)).map aa))=Gp (.bC [AV.int .i64 l[i]]):=by
     rw[Pj e _ (by lia),ym,kD]
    by_cases h0:l[i]=0
    .left
     have lO:∀tm x,cU tm (i+1) (Gp x)=Gp i->fC [] (.sl 1) (.ap e (i+1) ((l.take (i+1)).map aa)) tm Gq (Gp x)=Gp (.ap (e&&yq i (i+1)) i ((l.take i).map aa)):=fun tm x hx=>by
      rw[aeo hx (by lia),<-yax,List.take_take,xB (by lia)]
     simp only[go_sem,ya,EI,show (0:Int)<((i+1:Nat):Int) by lia,show ((i+1:Nat):Int)-1=(i:Int) by lia,wrapN (n:=i) (by lia),me,h0,lO,dT];refine⟨_,i,rfl,by lia,i,_,by simp only[go_sem,ax]<;>rfl,by lia,rfl,?_⟩
     rw[<-ht,fg,h0,JT]
    .right
     simp only[go_sem,ya,EI,show (0:Int)<((i+1:Nat):Int) by lia,show ((i+1:Nat):Int)-1=(i:Int) by lia,wrapN (n:=i) (by lia),me,h0];refine⟨_,_,rfl,by simp,_,_,rfl,rfl,i+1,e,rfl,by lia,?_⟩;rw[<-ht,fg,Oi h0]
section
variable {hp:Hp}{l:List Nat}{n x y:Nat}
def Aw:(2^64)^(n+1)=(2^64)^n*2^64:=xn ..
open Go (IntKind)
abbrev uc(n:Nat):AV:=.int .u64 (n:Int)
def bQ(v:AV)(l:List Nat):Prop:=cp v (l.map uc)
section
variable {v:AV}{l:List Nat}
def bQ.len(h:bQ v l):jo hp 1 v=Gp (.int .i64 (l.length:Nat)):=by
 have:=cp.len (hp:=hp) h
 grind
def bQ.pu(h:bQ v l):aW v=ydb:=cp.pu h
def bQ.aj(h:bQ v l)(n:Nat):freeze (n+1) hp v=Gp (v,hp):=cp.aj h n
def bQ.shut(h:bQ v l):VE.shut v=v:=cp.shut h
def bQ.bI(h:bQ v l):VE.bI v=v:=cp.bI h
def bQ.dR(h:bQ v l):result hp v=Gp v:=cp.dR h
def bQ.one(h:bQ v l):db v=ydb:=cp.one h
def bQ.bk(h:bQ v l){i:Nat}(hi:i<l.length):gH 1 i v=Gp (.bC (uc (l.getD i 0)::(l.map uc).drop (i+1))):=by
 have:=cp.bk h (i:=i) (by simpa using hi)
 grind
def oe(e:Bool)(l:List Nat):bQ (.ap e l.length (l.map uc)) l:=by
 have:=Kr e (l.map uc)
 rwa[yS] at this
def zV:bQ .ah []:=po
end
def mf{ct id o:Nat}{v:Nat}{ex:Bool}(h:o<l.length):gD hp ct id o 1 [.int .u64 (v:Int)] (Gp (.cells ydb ydb ex 1 (l.map uc)))=Gp (.av [],aU hp id (.cells ydb ydb ex 1 ((l.set o v).map uc)),ct):=by
 rw[sT (by rfl) (by simp;lia) (by rfl)]
 have:over o [uc v] (l.map uc)=(l.set o v).map uc:=by
  simp only[over,yF,yN,yd];rw[List.map_set,vI,yC (by simpa using h)]
  simp
 rw[this];rfl
def BA{o:Nat}(h:o<l.length):um o (l.map uc)=uc (l.getD o 0)::um (o+1) (l.map uc):=by
 rw[yR (by simpa using h)]
 grind
def asU(n:Nat):(yz n [AV.int .u64 0]).flatten=(yz n 0).map uc:=by simp_all
def Fz(ct:Nat)(h:n<=100000000000):BO ct 1 8 [.int .u64 0] (Gp n) (Gp n)=Gp (.aq ct 0 n,.cells ydb ydb ydb 1 ((yz n 0).map uc)):=by
 rw[Ld (sz:=1) (by lia) (by lia) (by rfl) (by rfl),asU];rfl
def Dl(hp:Hp)(h:l.length=n)(ex:Bool):mW 0 n (Gp (ex,1,l.map uc,hp))=Gp (.ap ex n (l.map uc),hp):=mj ex (by simp[h]) (by decide)
def agE(h:n<2^64):IntKind.wrap .u64 (n:Int)=n:=ayV (by lia) (by lia)
section
variable {P:aE}{L:Lib}{f:cx}
def mr{a b:Nat}(h:a<b):yL a b=ydb:=by simp_all
def EP(h:L.pure 171=Gp pH){c:Nat}(hx:x<2^64)(hy:y<2^64)(hc:c<=1):
  bO P L f 171 [uc x,uc y,uc c]=Gp (.av [uc ((x+y+c)%2^64),uc ((x+y+c)/2^64)]):=by
 rw[kJ h];show (bif yB c 1&&(yL x (2^64)&&yL y (2^64)) then _ else Gq)=_
 rw[yv hc,mr hx,mr hy];rfl
def VP(h:L.pure 173=Gp CO){c:Nat}(hx:x<2^64)(hy:y<2^64)(hc:c<=1):
  bO P L f 173 [uc x,uc y,uc c]=Gp (.av [uc ((x+2^64*2-y-c)%2^64),uc (if y+c<=x then 0 else 1)]):=by
 rw[kJ h];show (bif yB c 1&&(yL x (2^64)&&yL y (2^64)) then _ else Gq)=_
 rw[yv hc,mr hx,mr hy];by_cases hh:y+c<=x
 .rw [yv hh,yC hh];rfl
 .have:yB (y+c) x=ydc:=by
   cases hq:yB (y+c) x with
   | false=>rfl
   | true=>exact absurd (yt hq) hh
  grind
def PR(h:L.pure 143=Gp z7)(hx:x<2^64)(hy:y<2^64):
  bO P L f 143 [uc x,uc y]=Gp (.av [uc (x*y/2^64),uc (x*y%2^64)]):=by
 rw[kJ h];show (bif yL x (2^64)&&yL y (2^64) then _ else Gq)=_
 rw[mr hx,mr hy];rfl
def aqt{tm:Env}{x:X}(hx:cU tm 0 (Gp x)=Gp 0):fC hp (.sl 1) .ah tm Gq (Gp x)=Gp .ah:=by
 simp only[fC,hx,fm]
def Dm(h:Has P L 166 Dc){v:AV}(hv:bQ v l)(hl:l.length<=100000000000):∃r,ab P L 166 [v] r/\bQ r (ew l):=by
 rcases hv with ⟨rfl,h0⟩ | ⟨e,rfl⟩
 .have:l=[]:=by simpa using h0
  subst this;refine⟨.ah,?_,po⟩;unfold ab;rw[aD h];simp only[go_sem,ya,Dc,PN,EF,ax,show ¬(0:Int)<0 by decide,aqt,dT]
 .have key:=gV P L [0,3] EF
   (fun k st=>∃(i:Nat),st=⟨[(0,.ap e l.length (l.map uc)),(3,aa i)],[],0,0⟩/\i<=l.length/\i=k/\ew (l.take i)=ew l)
   (fun ex st=>∃tm ct,st=⟨tm,[],ct,0⟩/\ex=.exit 0/\∃i:Nat,ak tm 0=.ap e l.length (l.map uc)/\ak tm 3=aa i/\i<=l.length/\l.take i=ew l) ?_
  .have hlen:(l.map uc).length=l.length:=by simp
   rw[hlen];have kw:∃i e',ab P L 166 [.ap e l.length (l.map uc)] (.ap e' i ((l.take i).map uc))/\i<=l.length/\l.take i=ew l:=by
    unfold ab;rw[aD h];simp only[go_sem,ya,Dc];generalize hq:D P L (.loop _ EF) _=q;obtain⟨ex,st,rfl,tm,ct,rfl,rfl,i,h2,h3,h4,h5⟩:=bL hq (key l.length) ⟨l.length,by simp only[go_sem,ya,ax],yp _,rfl,by rw[xL]⟩;have lO:∀tm x,cU tm l.length (Gp x)=Gp i->fC [] (.sl 1) (.ap e l.length (l.map uc)) tm Gq (Gp x)=Gp (.ap (e&&yq i l.length) i ((l.map uc).take i)):=fun tm x hx=>aeo hx h4
    simp only[go_sem,ya,ax,h2,h3,lO,dT];exact⟨i,_,by rw[yax],h4,h5⟩
   have⟨i,e',g1,g2,g3⟩:=kw;refine⟨_,g1,?_⟩;rw[<-g3]
   have:=oe e' (l.take i)
   rwa[yQ,xB g2] at this
  .rintro k st ⟨i,rfl,hi,rfl,ht⟩
   cases i with
   | zero=>
    right
    simp only[go_sem,ya,EF,show ¬(0:Int)<((0:Nat):Int) by lia];exact⟨_,_,rfl,by simp,_,_,rfl,rfl,0,rfl,rfl,tk _,by simpa[ew] using ht⟩
   | succ i=>
    have qF:i<l.length:=by lia
    have fg:l.take (i+1)=l.take i++[l[i]]:=xi qF;have me:=(oe e l).bk qF;rw[<-gd qF] at me;by_cases h0:l[i]=0
    .left
     simp only[go_sem,ya,EF,show (0:Int)<((i+1:Nat):Int) by lia,show ((i+1:Nat):Int)-1=(i:Int) by lia,wrapN (n:=i) (by lia),me,show ((l[i]:Nat):Int)=0 by lia];refine⟨_,i,rfl,by lia,i,by simp only[go_sem,ya,ax],by lia,rfl,?_⟩;rw[<-ht,fg,h0,Oj]
    .right
     simp only[go_sem,ya,EF,show (0:Int)<((i+1:Nat):Int) by lia,show ((i+1:Nat):Int)-1=(i:Int) by lia,wrapN (n:=i) (by lia),me,show ¬((l[i]:Nat):Int)=0 by lia];refine⟨_,_,rfl,by simp,_,_,rfl,rfl,i+1,rfl,rfl,by lia,?_⟩;rw[<-ht,fg,Gw h0]
end
end
section
variable {v w:AV}{out x y:List Nat}
def Om(p b s:Nat):p*(s%b)+p*b*(s/b)=p*s:=by
 rw[xj,<-xK,uk]
def aoj{b:Nat}{i c:Nat}(hi:i<out.length)(hz:out.getD i 0=0)(hv:bv b out+b^i*c=bv b (x.take i)+bv b (y.take i)):
  bv b (out.set i ((x.getD i 0+y.getD i 0+c)%b))+b^(i+1)*((x.getD i 0+y.getD i 0+c)/b)=bv b (x.take (i+1))+bv b (y.take (i+1)):=by
 have h1:=pK (b:=b) (x:=(x.getD i 0+y.getD i 0+c)%b) hi;have h2:=Om (b^i) b (x.getD i 0+y.getD i 0+c);rw[hz,xG,yX] at h1;rw[kK,kK,xn,h1]
 grind
def aok{b:Nat}{i c z c':Nat}(hi:i<out.length)(hz:out.getD i 0=0)(hs:z+y.getD i 0+c=x.getD i 0+b*c')(hv:bv b out+bv b (y.take i)=bv b (x.take i)+b^i*c):
  bv b (out.set i z)+bv b (y.take (i+1))=bv b (x.take (i+1))+b^(i+1)*c':=by
 have h1:=pK (b:=b) (x:=z) hi;rw[hz,xG,yX] at h1;rw[kK,kK,xn,h1]
 grind
def ahH(h:Has P L 158 HA)(hv:bQ v x)(hw:bQ w y)(hx:lo (2^64) x)(hy:lo (2^64) y)(nx:iJ x)(ny:iJ y)(lx:x.length<=100000000000)(ly:y.length<=100000000000):
  ab P L 158 [v,w] (aa (dY (bv (2^64) x) (bv (2^64) y))):=by
 unfold ab;rw[aD h];by_cases hlen:x.length=y.length
 .have key:=gV P L [0,1,5] EE
   (fun k st=>∃j:Nat,st=⟨[(0,v),(1,w),(5,aa ((j:Int)-1))],[],0,0⟩/\j<=x.length/\j=k/\x.drop j=y.drop j)
   (fun ex st=>∃tm ct,st=⟨tm,[],ct,0⟩/\((ex=.ret/\ak tm 4=aa (dY (bv (2^64) x) (bv (2^64) y)))\/(ex=.exit 0/\x=y))) ?_
  .simp only [go_sem,ya,HA,hv.len,hw.len,show (x.length:Int)=y.length by lia];generalize hq:D P L (.loop _ EE) _=q;obtain⟨ex,st,rfl,tm,ct,rfl,h2⟩:=bL hq (key x.length) ⟨x.length,by
    rw[wrap64 (by lia) (by lia),hlen]
    simp only[go_sem,ya,ax,aG hv.pu,aG hw.pu]<;>rfl,yp _,rfl,by rw[xd (yp _),xd (by lia)]⟩
   rcases h2 with ⟨rfl,h2⟩ | ⟨rfl,h2⟩
   .simp only [go_sem,h2]
   .simp only [go_sem,ax];subst h2;simp[dY]
  .rintro k st ⟨j,rfl,hj,rfl,he⟩
   cases j with
   | zero=>
    right
    simp only[go_sem,ya,EE,show ¬(0:Int)<=((0:Nat):Int)-1 by lia];exact⟨_,_,rfl,by simp,_,_,rfl,.inr ⟨rfl,by simpa using he⟩⟩
   | succ i=>
    have h1:i<x.length:=by lia
    have h2:i<y.length:=by lia
    have DH:=aeg hx h1 h2 he;have aH:=aeg hy h2 h1 he.symm;by_cases c0:x.getD i 0=y.getD i 0
    .left
     simp only[go_sem,ya,EE,show ((i+1:Nat):Int)-1=(i:Int) by lia,show (0:Int)<=(i:Int) by lia,hv.bk h1,hw.bk h2,c0];refine⟨_,i,rfl,by lia,i,?_,by lia,rfl,?_⟩
     .rw [wrap64 (by lia) (by lia)];simp only[go_sem,ya,ax,aG hv.pu,aG hw.pu]<;>rfl
     .rw [yR h1,yR h2,he,gd h1,gd h2,c0]
    .by_cases c1:x.getD i 0<y.getD i 0
     .right
      simp only[go_sem,ya,EE,show ((i+1:Nat):Int)-1=(i:Int) by lia,show (0:Int)<=(i:Int) by lia,hv.bk h1,hw.bk h2,show ¬((x.getD i 0:Nat):Int)=(y.getD i 0:Nat) by lia,show ((x.getD i 0:Nat):Int)<(y.getD i 0:Nat) by lia];refine⟨_,_,rfl,by simp,_,_,rfl,.inl ⟨rfl,?_⟩⟩;simp only[go_sem];unfold dY;rw[yC (DH c1)]
     .right
      simp only[go_sem,ya,EE,show ((i+1:Nat):Int)-1=(i:Int) by lia,show (0:Int)<=(i:Int) by lia,hv.bk h1,hw.bk h2,show ¬((x.getD i 0:Nat):Int)=(y.getD i 0:Nat) by lia,show ¬((x.getD i 0:Nat):Int)<(y.getD i 0:Nat) by lia];refine⟨_,_,rfl,by simp,_,_,rfl,.inl ⟨rfl,?_⟩⟩;simp only[go_sem];unfold dY;rw[yr (by lia),yC (by lia)]
 .by_cases c1:x.length<y.length
  .have:=Pg (b:=2^64) (by decide) hx ny c1
   simp only[go_sem,ya,HA,hv.len,hw.len,show ¬(x.length:Int)=y.length by lia,show (x.length:Int)<y.length by lia];unfold dY;rw[yC this]
  .have:=Pg (b:=2^64) (by decide) hy nx (show y.length<x.length by lia)
   simp only[go_sem,ya,HA,hv.len,hw.len,show ¬(x.length:Int)=y.length by lia,show ¬(x.length:Int)<y.length by lia];unfold dY;rw[yr (by lia),yC this]
def ae7(iG:L.pure 171=Gp pH)(hv:bQ v x)(hw:bQ w y)(hx:lo (2^64) x)(hy:lo (2^64) y)(lx:x.length<=99999999999)(ly:y.length<=x.length){n:Nat}(hn:n=x.length+1):
  c6 P L [0,1,5,6,21,22] ED (fun k s=>∃(i c:Nat) (out:List Nat),s=⟨[(0,v),(1,w),(5,.aq 0 0 n),(6,uc c),(21,aa x.length),(22,aa i)],[(0,.cells ydb ydb ydb 1 (out.map uc))],1,0⟩/\i+k=x.length/\out.length=n/\c<=1/\lo (2^64) out/\
    bv (2^64) out+(2^64)^i*c=bv (2^64) (x.take i)+bv (2^64) (y.take i)/\(∀m,i<=m->out.getD m 0=0)) (fun ex s'=>∃tm c out,s'=⟨tm,[(0,.cells ydb ydb ydb 1 (out.map uc))],1,0⟩/\ex=.exit 0/\ak tm 0=v/\ak tm 5=.aq 0 0 n/\ak tm 6=uc c/\out.length=n/\c<=1/\lo (2^64) out/\
    bv (2^64) out+(2^64)^x.length*c=bv (2^64) x+bv (2^64) y/\out.getD x.length 0=0):=by
 apply c9;rintro k s ⟨i,c,out,rfl,hk,hlen,hc,bh,aM,ir⟩;by_cases hi:i<x.length
 .left
  have hz:=ir i (yp _);have kY:=aoj (x:=x) (y:=y) (show i<out.length by lia) hz aM;have gx:=iS (show 0<2^64 by decide) hx i;have gy:=iS (show 0<2^64 by decide) hy i;have e1:=EP (P:=P) (f:=D P L) iG gx gy hc;have ex:=hv.bk hi;generalize x.getD i 0=p at*
  by_cases hj:i<y.length
  .have ey:=hw.bk hj;generalize y.getD i 0=q at*
   simp only[go_sem,ya,ym,ED,hw.len,show (i:Int)<x.length by lia,show (i:Int)<y.length by lia,ex,ey,e1,cV 0 0 (show i<n by lia),yd,mf (l:=out) (o:=i) (by lia)]
   refine⟨_,k-1,rfl,by lia,i+1,(p+q+c)/2^64,_,?_,by lia,by simp[hlen],by lia,nF bh (x:=(p+q+c)%2^64) (i:=i) (by lia),kY,fun m hm=>?_⟩
   .rw [wrap64 (by lia) (by lia)];simp only[go_sem,ya,yb,ax,aG hv.pu,aG hw.pu]<;>rfl
   .rw [q9 (by lia)];exact ir m (by lia)
  .have lA:y.getD i 0=0:=VL (by lia);rw[lA] at kY e1;rw[show (uc 0)=AV.int .u64 0 from rfl] at e1
   simp only[go_sem,ya,ym,ED,hw.len,show (i:Int)<x.length by lia,show ¬(i:Int)<y.length by lia,ex,e1,cV 0 0 (show i<n by lia),yd,mf (l:=out) (o:=i) (by lia)]
   refine⟨_,k-1,rfl,by lia,i+1,(p+0+c)/2^64,_,?_,by lia,by simp[hlen],by lia,nF bh (x:=(p+0+c)%2^64) (i:=i) (by lia),kY,fun m hm=>?_⟩
   .rw [wrap64 (by lia) (by lia)];simp only[go_sem,ya,yb,ax,aG hv.pu,aG hw.pu]<;>rfl
   .rw [q9 (by lia)];exact ir m (by lia)
 .right
  have:i=x.length:=by lia
  subst this;rw[xL,yE ly] at aM;simp only[go_sem,ya,ED,show ¬(x.length:Int)<x.length by lia];exact⟨_,_,rfl,by simp,_,c,out,rfl,rfl,rfl,rfl,rfl,hlen,hc,bh,aM,ir _ (yp _)⟩
def aAt(h:Has P L 157 LU)(nN:Has P L 166 Dc)(iG:L.pure 171=Gp pH)(hv:bQ v x)(hw:bQ w y)(hx:lo (2^64) x)(hy:lo (2^64) y)(lx:x.length<=99999999999)(ly:y.length<=99999999999):
  ∃r out,ab P L 157 [v,w] r/\bQ r out/\lo (2^64) out/\iJ out/\bv (2^64) out=bv (2^64) x+bv (2^64) y:=by
 have fin:∀{x y o:List Nat} {n c:Nat},n=x.length+1->x.length<=99999999999->o.length=n->c<=1->lo (2^64) o->bv (2^64) o+(2^64)^x.length*c=bv (2^64) x+bv (2^64) y->o.getD x.length 0=0->
   ∃r,bO P L (D P L) 166 [.ap ydb n ((o.set x.length c).map uc)]=Gp r/\bQ r (ew (o.set x.length c))/\lo (2^64) (ew (o.set x.length c))/\iJ (ew (o.set x.length c))/\bv (2^64) (ew (o.set x.length c))=bv (2^64) x+bv (2^64) y:=by
  intro x y o n c hn lx hlen hc bh aM hz;have aU:=pK (b:=2^64) (l:=o) (i:=x.length) (x:=c) (by lia);rw[hz,xG,yX,aM] at aU;have aAu:lo (2^64) (o.set x.length c):=nF bh (by lia);have hf:=oe ydb (o.set x.length c);rw[List.length_set,hlen] at hf;have⟨r,e1,hr⟩:=Dm nN hf (by simp;lia)
  exact⟨r,e1,hr,CB aAu,CA _,by rw[Cz];exact aU⟩
 by_cases hl:x.length<y.length
 .obtain ⟨n,hn⟩:∃n,n=y.length+1:=⟨_,rfl⟩;unfold ab;rw[aD h]
  simp only[go_sem,ya,yb,LU,hv.len,hw.len,show (x.length:Int)<y.length by lia,wrapN (n:=n) (by lia),show (y.length:Int)+1=((y.length+1:Nat):Int) from rfl,<-hn,Fz (n:=n) _ (by lia)];generalize hq:D P L (.loop _ ED) _=q;obtain⟨ex,s,rfl,tm,c,o,rfl,rfl,t0,t5,t6,hlen,hc,bh,aM,hz⟩:=bL hq (ae7 (P:=P) (L:=L) iG hw hv hy hx ly (by lia) hn y.length)
   ⟨0,0,yz n 0,by simp only[go_sem,ya,yb,ax,aG hv.pu,aG hw.pu]<;>rfl,by lia,by simp,by lia,Hf (by decide) n,by rw[Hg];simp[bv],fun m _=>Es n m⟩
  have⟨r,e1,hr,f1,f2,f3⟩:=fin hn ly hlen hc bh aM hz;refine⟨r,_,?_,hr,f1,f2,by rw[f3];lia⟩
  simp only[go_sem,ya,ym,ax,aG hw.pu,hw.len,t0,t5,t6,cV 0 0 (show y.length<n by lia),yd,mf (l:=o) (o:=y.length) (by lia)]
  simp only[go_sem,Dl _ (n:=n) (l:=o.set y.length c) (by simp[hlen]) ydb,e1,hr.shut,hr.dR]
 .obtain ⟨n,hn⟩:∃n,n=x.length+1:=⟨_,rfl⟩;unfold ab;rw[aD h]
  simp only[go_sem,ya,yb,LU,hv.len,hw.len,show ¬(x.length:Int)<y.length by lia,wrapN (n:=n) (by lia),show (x.length:Int)+1=((x.length+1:Nat):Int) from rfl,<-hn,Fz (n:=n) _ (by lia)];generalize hq:D P L (.loop _ ED) _=q;obtain⟨ex,s,rfl,tm,c,o,rfl,rfl,t0,t5,t6,hlen,hc,bh,aM,hz⟩:=bL hq (ae7 (P:=P) (L:=L) iG hv hw hx hy lx (by lia) hn x.length)
   ⟨0,0,yz n 0,by simp only[go_sem,ya,yb,ax,aG hv.pu,aG hw.pu]<;>rfl,by lia,by simp,by lia,Hf (by decide) n,by rw[Hg];simp[bv],fun m _=>Es n m⟩
  have⟨r,e1,hr,f1,f2,f3⟩:=fin hn lx hlen hc bh aM hz;refine⟨r,_,?_,hr,f1,f2,f3⟩
  simp only[go_sem,ya,ym,ax,aG hv.pu,hv.len,t0,t5,t6,cV 0 0 (show x.length<n by lia),yd,mf (l:=o) (o:=x.length) (by lia)]
  simp only[go_sem,Dl _ (n:=n) (l:=o.set x.length c) (by simp[hlen]) ydb,e1,hr.shut,hr.dR]
end
section
variable {v w:AV}{x y:List Nat}{c n:Nat}
def aol{b:Nat}{out:List Nat}{p j t o x y Y bo ba:Nat}(ho:o=out.getD j 0)(hj:j<out.length)(ht:t=o+x*y+c)(hv:bo+p*c=ba+p*(x*Y))(hb:bo=bv b out)(hp:p=b^j):
  bv b (out.set j (t%b))+p*b*(t/b)=ba+p*(x*(Y+0))+p*(x*y):=by
 have h1:=pK (b:=b) (x:=t%b) hj;have h2:=Om p b t
 grind
def UQ{x y:Nat}(hx:x<2^64)(hy:y<2^64)(hc:c<=1):
  (x+2^64*2-y-c)%2^64+y+c=x+2^64*(if y+c<=x then 0 else 1):=by grind
def awe(Ax:L.pure 173=Gp CO)(hv:bQ v x)(hw:bQ w y)(hx:lo (2^64) x)(hy:lo (2^64) y)(lx:x.length<=99999999999)(ly:y.length<=x.length)(hle:bv (2^64) y<=bv (2^64) x)(hn:n=x.length):
  c6 P L [0,1,5,6,13,14] G0 (fun k s=>∃(i c:Nat) (out:List Nat),s=⟨[(0,v),(1,w),(5,.aq 0 0 n),(6,uc c),(13,aa x.length),(14,aa i)],[(0,.cells ydb ydb ydb 1 (out.map uc))],1,0⟩/\i+k=x.length/\out.length=n/\c<=1/\lo (2^64) out/\
    bv (2^64) out+bv (2^64) (y.take i)=bv (2^64) (x.take i)+(2^64)^i*c/\(∀m,i<=m->out.getD m 0=0)) (fun ex s'=>∃tm out,s'=⟨tm,[(0,.cells ydb ydb ydb 1 (out.map uc))],1,0⟩/\ex=.exit 0/\ak tm 5=.aq 0 0 n/\out.length=n/\lo (2^64) out/\
    bv (2^64) out+bv (2^64) y=bv (2^64) x):=by
 apply c9;rintro k s ⟨i,c,out,rfl,hk,hlen,hc,bh,aM,ir⟩;by_cases hi:i<x.length
 .left
  have hz:=ir i (yp _);have gx:=iS (show 0<2^64 by decide) hx i;have gy:=iS (show 0<2^64 by decide) hy i;have AX:=UQ gx gy hc;have kY:=aok (x:=x) (y:=y) (show i<out.length by lia) hz AX aM;have e1:=VP (P:=P) (f:=D P L) Ax gx gy hc;have ex:=hv.bk hi;generalize x.getD i 0=p at*
  have iv:(if y.getD i 0+c<=p then 0 else 1)<=1:=by split<;>lia
  by_cases hj:i<y.length
  .have ey:=hw.bk hj;generalize y.getD i 0=q at*
   generalize (if q+c<=p then 0 else 1)=c1 at*
   simp only[go_sem,ya,xp,ym,G0,hw.len,show (i:Int)<x.length by lia,show (i:Int)<y.length by lia,ex,ey,e1,cV 0 0 (show i<n by lia),yd,mf (l:=out) (o:=i) (by lia)]
   refine⟨_,k-1,rfl,by lia,i+1,c1,_,?_,by lia,by simp[hlen],iv,nF bh (x:=(p+2^64*2-q-c)%2^64) (i:=i) (by lia),kY,fun m hm=>?_⟩
   .rw [wrap64 (by lia) (by lia)];simp only[go_sem,ya,yb,xp,ax,aG hv.pu,aG hw.pu]<;>rfl
   .rw [q9 (by lia)];exact ir m (by lia)
  .have lA:y.getD i 0=0:=VL (by lia);rw[lA] at kY e1 iv;rw[show (uc 0)=AV.int .u64 0 from rfl] at e1;generalize (if 0+c<=p then 0 else 1)=c1 at*
   simp only[go_sem,ya,xp,ym,G0,hw.len,show (i:Int)<x.length by lia,show ¬(i:Int)<y.length by lia,ex,e1,cV 0 0 (show i<n by lia),yd,mf (l:=out) (o:=i) (by lia)]
   refine⟨_,k-1,rfl,by lia,i+1,c1,_,?_,by lia,by simp[hlen],iv,nF bh (x:=(p+2^64*2-0-c)%2^64) (i:=i) (by lia),kY,fun m hm=>?_⟩
   .rw [wrap64 (by lia) (by lia)];simp only[go_sem,ya,yb,xp,ax,aG hv.pu,aG hw.pu]<;>rfl
   .rw [q9 (by lia)];exact ir m (by lia)
 .right
  have:i=x.length:=by lia
  subst this;rw[xL,yE ly] at aM;have aH:=nH bh;rw[hlen,hn] at aH;simp only[go_sem,ya,G0,show ¬(x.length:Int)<x.length by lia];refine⟨_,_,rfl,by simp,_,out,rfl,rfl,rfl,hlen,bh,?_⟩;rcases (show c=0\/c=1 by lia) with rfl | rfl
  .lia
  .lia
def ahI(h:Has P L 159 QU)(nN:Has P L 166 Dc)(Ax:L.pure 173=Gp CO)(hv:bQ v x)(hw:bQ w y)(hx:lo (2^64) x)(hy:lo (2^64) y)(ny:iJ y)(lx:x.length<=99999999999)(hle:bv (2^64) y<=bv (2^64) x):
  ∃r out,ab P L 159 [v,w] r/\bQ r out/\lo (2^64) out/\iJ out/\bv (2^64) out+bv (2^64) y=bv (2^64) x:=by
 have ly:y.length<=x.length:=by
  by_cases hh:x.length<y.length
  .have:=Pg (b:=2^64) (by decide) hx ny hh
   lia
  .lia
 obtain⟨n,hn⟩:∃n,n=x.length:=⟨_,rfl⟩;unfold ab;rw[aD h]
 simp only[go_sem,ya,yb,QU,hv.len,<-hn,Fz (n:=n) _ (by lia)];generalize hq:D P L (.loop _ G0) _=q;obtain⟨ex,s,rfl,tm,o,rfl,rfl,t5,hlen,bh,aM⟩:=bL hq (awe (P:=P) (L:=L) Ax hv hw hx hy lx ly hle hn x.length)
  ⟨0,0,yz n 0,by rw[hn];simp only[go_sem,ya,yb,ax,aG hv.pu,aG hw.pu]<;>rfl,by lia,by simp,by lia,Hf (by decide) n,by rw[Hg];simp[bv],fun m _=>Es n m⟩
 have hf:=oe ydb o;rw[hlen] at hf;have⟨r,e1,hr⟩:=Dm nN hf (by lia);refine⟨r,_,?_,hr,CB bh,CA _,by rw[Cz];exact aM⟩
 simp only[go_sem,yb,ax,t5,Dl _ (n:=n) (l:=o) hlen ydb,e1,hr.shut,hr.dR]
def aqu{x y o:Nat}(hx:x<2^64)(hy:y<2^64)(ho:o<2^64)(hc:c<2^64):
  o+x*y+c<2^64*2^64/\
  ((x*y%2^64+o+0)%2^64+c+0)%2^64=(o+x*y+c)%2^64/\
  x*y/2^64+(x*y%2^64+o+0)/2^64+((x*y%2^64+o+0)%2^64+c+0)/2^64=(o+x*y+c)/2^64:=by
 have h1:=xf (show x<=18446744073709551615 by lia) (show y<=18446744073709551615 by lia)
 grind
def awf(nO:L.pure 143=Gp z7)(iG:L.pure 171=Gp pH)(hv:bQ v x)(hw:bQ w y)(hx:lo (2^64) x)(hy:lo (2^64) y)(lx:x.length<=49999999999)(ly:y.length<=49999999999){i:Nat}(hn:n=x.length+y.length)(hi:i<x.length){a:Nat}(ha:a<2^64){bo:Nat}:
  c6 P L [1,5,6,7,8,20,21,22,27,28,29] KK (fun k s=>∃(j c:Nat) (out:List Nat),s=⟨[(1,w),(5,.aq 0 0 n),(6,aa i),(7,uc a),(8,uc c),(20,v),(21,aa x.length),(22,aa i),(27,w),(28,aa y.length),(29,aa j)],[(0,.cells ydb ydb ydb 1 (out.map uc))],1,0⟩/\j+k=y.length/\out.length=n/\c<2^64/\lo (2^64) out/\
    bv (2^64) out+(2^64)^(i+j)*c=bo+(2^64)^i*(a*bv (2^64) (y.take j))/\(∀m,i+y.length<=m->out.getD m 0=0)) (fun ex s'=>∃tm c out,s'=⟨tm,[(0,.cells ydb ydb ydb 1 (out.map uc))],1,0⟩/\ex=.exit 2/\ak tm 1=w/\ak tm 5=.aq 0 0 n/\ak tm 6=aa i/\ak tm 8=uc c/\ak tm 20=v/\ak tm 21=aa x.length/\ak tm 22=aa i/\out.length=n/\c<2^64/\lo (2^64) out/\
    bv (2^64) out+(2^64)^(i+y.length)*c=bo+(2^64)^i*(a*bv (2^64) y)/\(∀m,i+y.length<=m->out.getD m 0=0)):=by
 apply c9;rintro k s ⟨j,c,out,rfl,hk,hlen,hc,bh,aM,ir⟩;by_cases hj:j<y.length
 .left
  have DN:(0:Nat)<2^64:=by decide
  have gy:=iS DN hy j;have oT:=iS DN bh (i+j);have ey:=hw.bk hj;have e3:=BA (l:=out) (o:=i+j) (by lia);obtain⟨q,hq⟩:∃q,q=y.getD j 0:=⟨_,rfl⟩;obtain⟨o,ho⟩:∃o,o=out.getD (i+j) 0:=⟨_,rfl⟩;rw[<-hq] at gy ey;rw[<-ho] at oT e3;have⟨m1,m2,m3⟩:=aqu ha gy oT hc;have Zp:a*q<2^64*2^64:=by lia
  have f1:=PR (P:=P) (f:=D P L) nO ha gy;have f2:=EP (P:=P) (f:=D P L) iG (x:=a*q%2^64) (y:=o) (c:=0) (xJ _ DN) oT (by lia);have f3:=EP (P:=P) (f:=D P L) iG (x:=(a*q%2^64+o+0)%2^64) (y:=c) (c:=0) (xJ _ DN) hc (by lia);obtain⟨t,ht⟩:∃t,t=o+a*q+c:=⟨_,rfl⟩;have kY:=aol (b:=2^64) (out:=out) (p:=(2^64)^(i+j)) (j:=i+j) (c:=c) (t:=t) (x:=a) (y:=q) (Y:=0) (ba:=bo+(2^64)^i*(a*bv (2^64) (y.take j))) ho (by lia) ht (by simpa using aM) rfl rfl;rw[m2,<-ht] at f3;rw[<-ht] at m1 m3;obtain⟨d1,se⟩:∃d,d=(a*q%2^64+o+0)/2^64:=⟨_,rfl⟩;obtain⟨d2,jU⟩:∃d,d=((a*q%2^64+o+0)%2^64+c+0)/2^64:=⟨_,rfl⟩;rw[<-se] at f2 m3;rw[<-jU] at f3 m3;rw[show (uc 0)=AV.int .u64 0 from rfl] at f2 f3;obtain⟨h1,jg⟩:∃d,d=a*q/2^64:=⟨_,rfl⟩;rw[<-jg] at f1 m3;have nf:h1+d1<2^64:=by lia
  have B6:h1+d1+d2<2^64:=by lia
  simp only[go_sem,ya,ym,KK,show (j:Int)<y.length by lia,ey,f1,wrapN (n:=i+j) (by lia),show (i:Int)+(j:Int)=((i+j:Nat):Int) from rfl,cV 0 0 (show i+j<n by lia),yd,e3,f2,f3,show (h1:Int)+(d1:Int)=((h1+d1:Nat):Int) from rfl,agE nf,show ((h1+d1:Nat):Int)+(d2:Int)=((h1+d1+d2:Nat):Int) from rfl,agE B6,mf (l:=out) (o:=i+j) (by lia)]
  refine⟨_,k-1,rfl,by lia,j+1,h1+d1+d2,_,?_,by lia,by simp[hlen],B6,nF bh (x:=t%2^64) (i:=i+j) (xJ _ DN),?_,fun m hm=>?_⟩
  .rw [wrap64 (by lia) (by lia)];simp only[go_sem,ya,yb,ax,aG hv.pu,aG hw.pu]<;>rfl
  .rw [m3,show i+(j+1)=i+j+1 by lia,Aw,kK,<-hq,xK a,xK ((2^64)^i)];simp only[xG,yX] at kY;rw[kY,xH,<-Nat.add_assoc,xj ((2^64)^i),<-xj a,xt a ((2^64)^j),xj]
  .rw [q9 (by lia)];exact ir m hm
 .right
  have:j=y.length:=by lia
  subst this;rw[xL] at aM;simp only[go_sem,ya,KK,show ¬(y.length:Int)<y.length by lia];exact⟨_,_,rfl,by simp,_,c,out,rfl,rfl,rfl,rfl,rfl,rfl,rfl,rfl,rfl,hlen,hc,bh,aM,ir⟩
def awg(nO:L.pure 143=Gp z7)(iG:L.pure 171=Gp pH)(hv:bQ v x)(hw:bQ w y)(hx:lo (2^64) x)(hy:lo (2^64) y)(lx:x.length<=49999999999)(ly:y.length<=49999999999)(hn:n=x.length+y.length):
  c6 P L [1,5,20,21,22] KL (fun k s=>∃(i:Nat) (out:List Nat),s=⟨[(1,w),(5,.aq 0 0 n),(20,v),(21,aa x.length),(22,aa i)],[(0,.cells ydb ydb ydb 1 (out.map uc))],1,0⟩/\i+k=x.length/\out.length=n/\lo (2^64) out/\
    bv (2^64) out=bv (2^64) (x.take i)*bv (2^64) y/\(∀m,i+y.length<=m->out.getD m 0=0)) (fun ex s'=>∃tm out,s'=⟨tm,[(0,.cells ydb ydb ydb 1 (out.map uc))],1,0⟩/\ex=.exit 0/\ak tm 5=.aq 0 0 n/\out.length=n/\lo (2^64) out/\
    bv (2^64) out=bv (2^64) x*bv (2^64) y):=by
 apply c9;rintro k s ⟨i,out,rfl,hk,hlen,bh,aM,ir⟩;by_cases hi:i<x.length
 .left
  have gx:=iS (show 0<2^64 by decide) hx i;have ex:=hv.bk hi;obtain⟨a,ha⟩:∃a,a=x.getD i 0:=⟨_,rfl⟩;simp only[go_sem,ya,KL,hw.len,show (i:Int)<x.length by lia,ex];generalize hq:D P L (.loop _ KK) _=q;obtain⟨ex,s,rfl,tm,c,Ay,rfl,rfl,t1,t5,t6,t8,t20,t21,t22,Wy,hc,aAv,Wz,Mr⟩:=bL hq (awf (P:=P) (L:=L) nO iG hv hw hx hy lx ly hn hi gx (bo:=bv (2^64) out) y.length)
   ⟨0,0,out,by simp only[go_sem,ya,yb,ax,aG hv.pu,aG hw.pu]<;>rfl,by lia,hlen,by decide,bh,by simp[bv],ir⟩
  have hz:Ay.getD (i+y.length) 0=0:=Mr _ (yp _);have aU:=pK (b:=2^64) (l:=Ay) (i:=i+y.length) (x:=c) (by lia);rw[hz,xG,yX,Wz] at aU
  simp only[go_sem,ya,ym,ax,t1,t5,t6,t8,t20,t21,t22,hw.len,aG hv.pu,aG hw.pu,wrapN (n:=i+y.length) (by lia),show (i:Int)+(y.length:Int)=((i+y.length:Nat):Int) from rfl,cV 0 0 (show i+y.length<n by lia),yd,mf (l:=Ay) (o:=i+y.length) (by lia)];refine⟨_,k-1,rfl,by lia,i+1,Ay.set (i+y.length) c,?_,by lia,by simp[Wy],nF aAv hc,?_,fun m hm=>?_⟩
  .rw [wrap64 (by lia) (by lia)];simp only[go_sem,ya,yb,ax,aG hv.pu,aG hw.pu]<;>rfl
  .rw [aU,aM,kK,xR,<-ha,xj]
  .rw [q9 (by lia)];exact Mr m (by lia)
 .right
  have:i=x.length:=by lia
  subst this;rw[xL] at aM;simp only[go_sem,ya,KL,show ¬(x.length:Int)<x.length by lia];exact⟨_,_,rfl,by simp,_,out,rfl,rfl,rfl,hlen,bh,aM⟩
def aAw(h:Has P L 144 QS)(nN:Has P L 166 Dc)(nO:L.pure 143=Gp z7)(iG:L.pure 171=Gp pH)(hv:bQ v x)(hw:bQ w y)(hx:lo (2^64) x)(hy:lo (2^64) y)(lx:x.length<=49999999999)(ly:y.length<=49999999999):
  ∃r out,ab P L 144 [v,w] r/\bQ r out/\lo (2^64) out/\iJ out/\bv (2^64) out=bv (2^64) x*bv (2^64) y:=by
 obtain⟨n,hn⟩:∃n,n=x.length+y.length:=⟨_,rfl⟩;unfold ab;rw[aD h]
 simp only[go_sem,ya,yb,QS,hv.len,hw.len,wrapN (n:=n) (by lia),show (x.length:Int)+(y.length:Int)=((x.length+y.length:Nat):Int) from rfl,<-hn,Fz (n:=n) _ (by lia)];generalize hq:D P L (.loop _ KL) _=q;obtain⟨ex,s,rfl,tm,o,rfl,rfl,t5,hlen,bh,aM⟩:=bL hq (awg (P:=P) (L:=L) nO iG hv hw hx hy lx ly hn x.length)
  ⟨0,yz n 0,by simp only[go_sem,ya,yb,ax,aG hv.pu,aG hw.pu]<;>rfl,by lia,by simp,Hf (by decide) n,by rw[Hg];simp[bv],fun m _=>Es n m⟩
 have hf:=oe ydb o;rw[hlen] at hf;have⟨r,e1,hr⟩:=Dm nN hf (by lia);refine⟨r,_,?_,hr,CB bh,CA _,by rw[Cz];exact aM⟩
 simp only[go_sem,yb,ax,t5,Dl _ (n:=n) (l:=o) hlen ydb,e1,hr.shut,hr.dR]
end
section
variable {b s u u2 v1 v2 y:Nat}
def Qo(n:Int):IntKind.wrap .u64 n=n%2^64:=by
 simp[IntKind.wrap,IntKind.signed,IntKind.bits]
def wrapM(n:Nat):IntKind.wrap .u64 (n:Int)=((n%2^64:Nat):Int):=by rw[Qo];lia
def rI(a b:Nat):binOp .mul (uc a) (uc b)=Gp (uc (a*b%2^64)):=by
 rw[aek,<-xS,wrapM]
def C7(a b:Nat):binOp .add (uc a) (uc b)=Gp (uc ((a+b)%2^64)):=by
 rw[aej,<-Int.natCast_add,wrapM]
def FA{a c:Nat}(h:(a+2^64-b)%2^64=c)(hb:b<=2^64):binOp .sub (uc a) (uc b)=Gp (uc c):=by
 rw[Ph,Qo]
 grind
def awh(k k':xe)(a b:Int):binOp .shl (.int k a) (.int k' b)=Eo .shl k a b:=rfl
def awi(k k':xe)(a b:Int):binOp .shr (.int k a) (.int k' b)=Eo .shr k a b:=rfl
def Mt(k:xe)(a:Nat)(hs:s<=64):binOp .shl (.int .u64 (a:Int)) (.int k (s:Int))=Gp (uc (a*2^s%2^64)):=by
 rw[awh];simp only[Eo,yr (show ¬(s:Int)<0 by lia),xh,IntKind.bits,xB hs];rw[show ((2:Int)^s)=((2^s:Nat):Int) by simp,<-xS,wrapM]
def Mu(k:xe)(a:Nat)(hs:s<=64):binOp .shr (.int .u64 (a:Int)) (.int k (s:Int))=Gp (uc (a/2^s)):=by
 rw[awi];simp only[Eo,yr (show ¬(s:Int)<0 by lia),xh,IntKind.bits,xB hs]
 grind
def ahJ(a:Nat):binOp .and (.int .u64 (a:Int)) (.int .u64 4294967295)=Gp (uc (a%4294967296)):=by
 show Gp (AV.int .u64 (IntKind.wrap .u64 ((wv 64 (a:Int)&&&wv 64 4294967295).toNat:Int)))=_
 rw[show wv 64 (a:Int)=tB 64 a from tC 64 a,show wv 64 4294967295=tB 64 4294967295 from rfl];rw[BitVec.toNat_and,vZ,vZ,show (4294967295%2^64:Nat)=2^32-1 from rfl,Nat.and_two_pow_sub_one_eq_mod,wrapM]
 grind
def Zq{a:Nat}(ha:a<2^64)(hb:b<2^64):binOp .or (.int .u64 (a:Int)) (.int .u64 (b:Int))=Gp (uc (a|||b)):=by
 show Gp (AV.int .u64 (IntKind.wrap .u64 ((wv 64 (a:Int)|||wv 64 (b:Int)).toNat:Int)))=_
 congr 2
 rw[show wv 64 (a:Int)=tB 64 a from tC 64 a,show wv 64 (b:Int)=tB 64 b from tC 64 b];rw[BitVec.toNat_or,vZ,vZ,yT (show a<2^64 from ha),yT (show b<2^64 from hb),wrapM]
 have:a|||b<2^64:=Nat.or_lt_two_pow ha hb
 lia
def VQ{p c:Nat}(h:c<2^s):(p*2^s)|||c=p*2^s+c:=by
 rw[<-Nat.shiftLeft_eq,<-Nat.shiftLeft_add_eq_or_of_lt h]
def abk:∀(f n:Nat),n<2^f->eU f n<=f/\n<2^eU f n/\(0<n->0<eU f n/\2^(eU f n-1)<=n)
 | 0,n,h=>by simp[eU];simpa using h
 | f+1,n,h=>by
  simp only[eU];by_cases h0:n=0
  .simp_all
  .rw [gU h0,yP];have⟨h1,h2,h3⟩:=abk f (n/2) (by lia);refine⟨by lia,?_,fun _=>⟨by lia,?_⟩⟩
   .grind
   .rw [Nat.add_sub_cancel_left];by_cases hn:0<n/2
    .have ⟨h4,h5⟩:=h3 hn;obtain⟨m,hm⟩:∃m,eU f (n/2)=m+1:=⟨eU f (n/2)-1,by lia⟩
     grind
    .have hz:n/2=0:=by lia
     have:eU f 0=0:=by cases f with
      | zero=>rfl
      | succ f=>rfl
     grind
def UR(h0:0<y)(h:y<2^64):64-eU 64 y<64/\9223372036854775808<=y*2^(64-eU 64 y)/\y*2^(64-eU 64 y)<2^64:=by
 have⟨h1,h2,h3⟩:=abk 64 y h;have⟨h4,h5⟩:=h3 h0;generalize eU 64 y=k at*
 refine⟨by lia,?_,?_⟩
 .have:=yO (2^(64-k)) h5
  rw[<-xH,show k-1+(64-k)=63 by lia] at this;exact this
 .have:=wg h2 (xm (64-k))
  rw[<-xH,show k+(64-k)=64 by lia] at this;exact this
section
variable {P:aE}{L:Lib}{f:cx}
def ae8(h:L.pure 167=Gp Hn){x:Nat}(hx:x<2^64):bO P L f 167 [uc x]=Gp (aa (64-eU 64 x:Nat)):=by
 rw[kJ h];show (bif yL x (2^64) then _ else Gq)=_
 rw[mr hx];rfl
def aom{t r:Nat}(cW:v2<b)(mb:t<b)(ht:t*v1+r=u)(h:b<=r\/t*v2<=b*r+u2):t*(v1*b+v2)<=u*b+u2:=by
 have h2:t*v2<=b*r+u2:=by
  rcases h with h | h
  .have:=xf (uM mb) (uM cW)
   have:=yV b h
   lia
  .exact h
 rw[xK,<-xj,<-ht,xR,xt r b];lia
def ayW(n:Nat):mu (.toInt .u64) (.int .i64 (n:Int))=Gp (uc (n%2^64)):=by
 show Gp (AV.int .u64 (IntKind.wrap .u64 (n:Int)))=_
 rw[wrapM]
def aaN{q r:Nat}(hy:y=v1*4294967296+v2)(cW:v2<4294967296)(Iv:0<v1)(fj:v1<4294967296)(hu:u<y)(Cb:u2<4294967296)(hq:q*v1+r=u)(hr:r<4294967296)(hQ:(u*4294967296+u2)/y<=q):
  (4294967296<=q\/4294967296*r+u2<q*v2->0<q/\(q-1)*v1+(r+v1)=u/\(u*4294967296+u2)/y<=q-1/\(4294967296<=r+v1->(u*4294967296+u2)/y=q-1))/\
  (¬4294967296<=q->q*v2<=4294967296*r+u2->(u*4294967296+u2)/y=q):=by
 have lA:0<y:=by lia
 have SP:∀t s,t*v1+s=u->4294967296<=t->s<4294967296:=fun t s h1 h2=>by
  have:=yO v1 h2
  grind
 have ae9:∀t s,t*v1+s=u->t<4294967296->(4294967296<=s\/t*v2<=4294967296*s+u2)->(u*4294967296+u2)/y<=t->(u*4294967296+u2)/y=t:=fun t s h1 h2 h3 h4=>by
  have:=aom cW h2 h1 h3
  rw[<-hy] at this
  have:=(tF lA).2 this
  lia
 constructor
 .intro h;have zE:0<q:=by
   grind
  have h1:(q-1)*v1+(r+v1)=u:=by
   obtain⟨p,rfl⟩:∃p,q=p+1:=⟨q-1,by lia⟩
   grind
  have h2:(u*4294967296+u2)/y<=q-1:=by
   have aH:u*4294967296+u2<q*y:=by
    rcases h with h | h
    .have h3:u*4294967296+u2<4294967296*y:=by lia
     exact yG h3 (yO y h)
    .rw [hy,xK,<-xj,<-hq,xR,xt r];lia
   have:=(xE lA).2 aH
   lia
  exact⟨zE,h1,h2,fun h3=>ae9 _ _ h1 (by
   by_cases hb:4294967296<=q-1
   .have:=SP _ _ h1 hb;lia
   .lia) (.inl h3) h2⟩
 .intro h1 h2;exact ae9 q r hq (by lia) (.inr h2) hQ
def awj{z:Nat}(hy:y=v1*4294967296+v2)(cW:v2<4294967296)(Iv:0<v1)(fj:v1<4294967296)(hu:u<y)(Cb:u2<4294967296):
  c6 P L [2,8,9,10,11,13,14,15,16] CP (fun k st=>∃q r:Nat,st=⟨[(2,uc y),(8,uc s),(9,uc v1),(10,uc v2),(11,uc u),(13,uc u2),(14,uc z),(15,uc q),(16,uc r)],[],0,0⟩/\q*v1+r=u/\r<4294967296/\(u*4294967296+u2)/y<=q/\q=k) (fun ex st'=>∃tm ct,st'=⟨tm,[],ct,0⟩/\ex=.exit 0/\ak tm 2=uc y/\ak tm 8=uc s/\ak tm 9=uc v1/\ak tm 10=uc v2/\ak tm 11=uc u/\ak tm 13=uc u2/\ak tm 14=uc z/\ak tm 15=uc ((u*4294967296+u2)/y)):=by
 apply c9;rintro k st ⟨q,r,rfl,hq,hr,hQ,rfl⟩;have⟨g1,g2⟩:=aaN hy cW Iv fj hu Cb hq hr hQ;have hqb:q*1<=q*v1:=yV q Iv;have aAx:=yO 4294967296 (show v1<=4294967295 by lia);have qG:q<2^64:=by lia
 have YW:=yV 4294967296 (show r<=4294967295 by lia);have e1:=rI 4294967296 r;rw[show uc 4294967296=AV.int .u64 4294967296 from rfl,yT (show 4294967296*r<2^64 by lia)] at e1;have e2:=C7 (4294967296*r) u2;rw[yT (show 4294967296*r+u2<2^64 by lia)] at e2;have e4:=C7 r v1;rw[yT (show r+v1<2^64 by lia)] at e4;by_cases hc:4294967296<=q\/4294967296*r+u2<q*v2
 .have ⟨h0,h1,h2,h3⟩:=g1 hc;have e3:binOp .sub (uc q) (.int .u64 1)=Gp (uc (q-1)):=FA (b:=1) (by lia) (by lia);by_cases hb:4294967296<=r+v1
  .right
   have Cc:=h3 hb;rcases (show 4294967296<=q\/(¬4294967296<=q/\4294967296*r+u2<q*v2) by lia) with t1 | ⟨t1,t2⟩
   .simp only [go_sem,ya,CP,show (4294967296:Int)<=(q:Int) by lia,e3,e4,show (4294967296:Int)<=((r+v1:Nat):Int) by lia];exact⟨_,_,rfl,by simp,_,_,rfl,rfl,rfl,rfl,rfl,rfl,rfl,rfl,rfl,by rw[Cc];simp only[go_sem,ya]⟩
   .have Zr:=xf (show q<=4294967295 by lia) (show v2<=4294967295 by lia);have e5:=rI q v2;rw[yT (show q*v2<2^64 by lia)] at e5;simp only[go_sem,ya,CP,show ¬(4294967296:Int)<=(q:Int) by lia,e5,e1,e2,show ((4294967296*r+u2:Nat):Int)<((q*v2:Nat):Int) by lia,e3,e4,show (4294967296:Int)<=((r+v1:Nat):Int) by lia];exact⟨_,_,rfl,by simp,_,_,rfl,rfl,rfl,rfl,rfl,rfl,rfl,rfl,rfl,by rw[Cc];simp only[go_sem,ya]⟩
  .left
   rcases (show 4294967296<=q\/(¬4294967296<=q/\4294967296*r+u2<q*v2) by lia) with t1 | ⟨t1,t2⟩
   .simp only [go_sem,ya,CP,show (4294967296:Int)<=(q:Int) by lia,e3,e4,show ¬(4294967296:Int)<=((r+v1:Nat):Int) by lia];exact⟨_,q-1,rfl,by lia,q-1,r+v1,by simp only[go_sem,ya,ax],h1,by lia,h2,rfl⟩
   .have Zr:=xf (show q<=4294967295 by lia) (show v2<=4294967295 by lia);have e5:=rI q v2;rw[yT (show q*v2<2^64 by lia)] at e5;simp only[go_sem,ya,CP,show ¬(4294967296:Int)<=(q:Int) by lia,e5,e1,e2,show ((4294967296*r+u2:Nat):Int)<((q*v2:Nat):Int) by lia,e3,e4,show ¬(4294967296:Int)<=((r+v1:Nat):Int) by lia];exact⟨_,q-1,rfl,by lia,q-1,r+v1,by simp only[go_sem,ya,ax],h1,by lia,h2,rfl⟩
 .right
  have Cc:=g2 (by lia) (by lia);have e5:=rI q v2;rw[yT (show q*v2<2^64 by lia)] at e5;simp only[go_sem,ya,CP,show ¬(4294967296:Int)<=(q:Int) by lia,e5,e1,e2,show ¬((4294967296*r+u2:Nat):Int)<((q*v2:Nat):Int) by lia];exact⟨_,_,rfl,by simp,_,_,rfl,rfl,rfl,rfl,rfl,rfl,rfl,rfl,rfl,by rw[Cc];simp only[go_sem,ya]⟩
end
end
section
variable {P:aE}{L:Lib}{f:cx}
def awk{y s v1 v2 u u2 z:Nat}(hy:y=v1*4294967296+v2)(cW:v2<4294967296)(Iv:0<v1)(fj:v1<4294967296)(hu:u<y)(Cb:u2<4294967296):
  c6 P L [2,8,9,10,14,15,16,17,18] CQ (fun k st=>∃q r:Nat,st=⟨[(2,uc y),(8,uc s),(9,uc v1),(10,uc v2),(14,uc u2),(15,uc z),(16,uc r),(17,uc u),(18,uc q)],[],0,0⟩/\q*v1+r=u/\r<4294967296/\(u*4294967296+u2)/y<=q/\q=k) (fun ex st'=>∃tm ct,st'=⟨tm,[],ct,0⟩/\ex=.exit 2/\ak tm 2=uc y/\ak tm 8=uc s/\ak tm 9=uc v1/\ak tm 10=uc v2/\ak tm 14=uc u2/\ak tm 15=uc z/\ak tm 17=uc u/\ak tm 18=uc ((u*4294967296+u2)/y)):=by
 apply c9;rintro k st ⟨q,r,rfl,hq,hr,hQ,rfl⟩;have⟨g1,g2⟩:=aaN hy cW Iv fj hu Cb hq hr hQ;have hqb:q*1<=q*v1:=yV q Iv;have aAx:=yO 4294967296 (show v1<=4294967295 by lia);have qG:q<2^64:=by lia
 have YW:=yV 4294967296 (show r<=4294967295 by lia);have e1:=rI 4294967296 r;rw[show uc 4294967296=AV.int .u64 4294967296 from rfl,yT (show 4294967296*r<2^64 by lia)] at e1;have e2:=C7 (4294967296*r) u2;rw[yT (show 4294967296*r+u2<2^64 by lia)] at e2;have e4:=C7 r v1;rw[yT (show r+v1<2^64 by lia)] at e4;by_cases hc:4294967296<=q\/4294967296*r+u2<q*v2
 .have ⟨h0,h1,h2,h3⟩:=g1 hc;have e3:binOp .sub (uc q) (.int .u64 1)=Gp (uc (q-1)):=FA (b:=1) (by lia) (by lia);by_cases hb:4294967296<=r+v1
  .right
   have Cc:=h3 hb;rcases (show 4294967296<=q\/(¬4294967296<=q/\4294967296*r+u2<q*v2) by lia) with t1 | ⟨t1,t2⟩
   .simp only [go_sem,ya,CQ,show (4294967296:Int)<=(q:Int) by lia,e3,e4,show (4294967296:Int)<=((r+v1:Nat):Int) by lia];exact⟨_,_,rfl,by simp,_,_,rfl,rfl,rfl,rfl,rfl,rfl,rfl,rfl,rfl,by rw[Cc];simp only[go_sem,ya]⟩
   .have Zr:=xf (show q<=4294967295 by lia) (show v2<=4294967295 by lia);have e5:=rI q v2;rw[yT (show q*v2<2^64 by lia)] at e5;simp only[go_sem,ya,CQ,show ¬(4294967296:Int)<=(q:Int) by lia,e5,e1,e2,show ((4294967296*r+u2:Nat):Int)<((q*v2:Nat):Int) by lia,e3,e4,show (4294967296:Int)<=((r+v1:Nat):Int) by lia];exact⟨_,_,rfl,by simp,_,_,rfl,rfl,rfl,rfl,rfl,rfl,rfl,rfl,rfl,by rw[Cc];simp only[go_sem,ya]⟩
  .left
   rcases (show 4294967296<=q\/(¬4294967296<=q/\4294967296*r+u2<q*v2) by lia) with t1 | ⟨t1,t2⟩
   .simp only [go_sem,ya,CQ,show (4294967296:Int)<=(q:Int) by lia,e3,e4,show ¬(4294967296:Int)<=((r+v1:Nat):Int) by lia];exact⟨_,q-1,rfl,by lia,q-1,r+v1,by simp only[go_sem,ya,ax],h1,by lia,h2,rfl⟩
   .have Zr:=xf (show q<=4294967295 by lia) (show v2<=4294967295 by lia);have e5:=rI q v2;rw[yT (show q*v2<2^64 by lia)] at e5;simp only[go_sem,ya,CQ,show ¬(4294967296:Int)<=(q:Int) by lia,e5,e1,e2,show ((4294967296*r+u2:Nat):Int)<((q*v2:Nat):Int) by lia,e3,e4,show ¬(4294967296:Int)<=((r+v1:Nat):Int) by lia];exact⟨_,q-1,rfl,by lia,q-1,r+v1,by simp only[go_sem,ya,ax],h1,by lia,h2,rfl⟩
 .right
  have Cc:=g2 (by lia) (by lia);have e5:=rI q v2;rw[yT (show q*v2<2^64 by lia)] at e5;simp only[go_sem,ya,CQ,show ¬(4294967296:Int)<=(q:Int) by lia,e5,e1,e2,show ¬((4294967296*r+u2:Nat):Int)<((q*v2:Nat):Int) by lia];exact⟨_,_,rfl,by simp,_,_,rfl,rfl,rfl,rfl,rfl,rfl,rfl,rfl,rfl,by rw[Cc];simp only[go_sem,ya]⟩
def agF(a:Nat):binOp .shr (.int .u64 (a:Int)) (.int .u64 32)=Gp (uc (a/4294967296)):=Mu .u64 a (s:=32) (by decide)
def ahK(a:Nat){b:Nat}(ha:a<2^64)(hb:0<b):binOp .quo (uc a) (uc b)=Gp (uc (a/b)):=by
 rw[eX _ _ _ (by lia),xW (by lia),<-Int.natCast_ediv,wrapM,yT];exact wo (vG a b) ha
def aAy(a:Nat){b:Nat}(hb:0<b):binOp .rem (uc a) (uc b)=Gp (uc (a%b)):=by
 rw[fH _ _ _ (by lia),xV (by lia),<-Int.natCast_emod]
def aon{hi lo y s u z Y:Nat}(hs:s<64)(bh:lo<2^64)(hY:Y=y*2^s)(hu:u=hi*2^s+lo/2^(64-s))(hz:z=lo*2^s%2^64):
  (hi*2^64+lo)*2^s=u*2^64+z:=by
 have e:2^64=2^(64-s)*2^s:=by rw[<-xH,show 64-s+s=64 by lia]
 have h1:lo*2^s/2^64=lo/2^(64-s):=by
  rw[e,tG _ _ (xm s)]
 grind
def acg{Y q a b:Nat}(h1:a<Y)(h2:b<4294967296)(h3:q=(a*4294967296+b)/Y):q<4294967296:=by
 rw[h3];exact (xE (by lia)).2 (by lia)
def aqv{u w x z z0 z1 q0 q1 Y:Nat}(se:q1*Y+w=u*4294967296+z1)(iK:q0*Y+x=w*4294967296+z0)(hz:z=z1*4294967296+z0):u*2^64+z=(q1*4294967296+q0)*Y+x:=by grind
def amP{q1 q0:Nat}(h1:q1<4294967296)(h0:q0<4294967296):q1*4294967296<2^64/\q1*4294967296+q0<2^64:=by lia
def ahL(h:Has P L 165 LV)(Mv:L.pure 167=Gp Hn){hi lo y:Nat}(ir:hi<y)(bh:lo<2^64)(hy:y<2^64):
  ab P L 165 [uc hi,uc lo,uc y] (.av [uc ((hi*2^64+lo)/y),uc ((hi*2^64+lo)%y)]):=by
 have lA:0<y:=by lia
 by_cases h0:hi=0
 .subst h0;have e1:=ahK lo bh lA;have e2:=aAy lo lA;rw[wC,yd];unfold ab;rw[aD h];simp only[go_sem,ya,LV,show ¬(y:Int)=0 by lia,show ¬(y:Int)<=0 by lia,show ((0:Nat):Int)=0 from rfl,e1,e2];rfl
 .obtain ⟨s,hs⟩:∃s,s=64-eU 64 y:=⟨_,rfl⟩;have hl:=ae8 (P:=P) (f:=D P L) Mv hy;have⟨l1,l2,l3⟩:=UR lA hy;rw[<-hs] at hl l1 l2 l3;obtain⟨Y,hY⟩:∃Y,Y=y*2^s:=⟨_,rfl⟩;obtain⟨u,hu⟩:∃u,u=hi*2^s+lo/2^(64-s):=⟨_,rfl⟩;obtain⟨z,hz⟩:∃z,z=lo*2^s%2^64:=⟨_,rfl⟩;have hdiv:=aon l1 bh hY hu hz;rw[<-hY] at l2 l3;have hp:=xm s;obtain⟨v1,fj⟩:∃v,v=Y/4294967296:=⟨_,rfl⟩;obtain⟨v2,cW⟩:∃v,v=Y%4294967296:=⟨_,rfl⟩;have hYv:Y=v1*4294967296+v2:=by lia
  obtain⟨z1,ni⟩:∃v,v=z/4294967296:=⟨_,rfl⟩;obtain⟨z0,nj⟩:∃v,v=z%4294967296:=⟨_,rfl⟩;have Iw:z<2^64:=by lia
  have hhY:hi*2^s<Y:=by rw[hY];exact wg ir hp
  have fY:lo/2^(64-s)<2^s:=by
   refine (xE (xm _)).2 ?_;rw[<-xH,show s+(64-s)=64 by lia];exact bh
  have qt:hi*2^s|||lo/2^(64-s)=u:=by rw[VQ fY,hu]
  have hN:hi*2^64+lo<y*2^64:=by
   have:=yO (2^64) (show hi+1<=y from ir)
   lia
  have Zs:u<Y:=by
   have h1:=wg hN hp;rw[hdiv,Nat.mul_right_comm,<-hY] at h1
   lia
  obtain⟨q1,gg⟩:∃q,q=(u*4294967296+z1)/Y:=⟨_,rfl⟩;obtain⟨w,hw⟩:∃q,q=(u*4294967296+z1)%Y:=⟨_,rfl⟩;obtain⟨q0,zE⟩:∃q,q=(w*4294967296+z0)/Y:=⟨_,rfl⟩;obtain⟨x,hx⟩:∃q,q=(w*4294967296+z0)%Y:=⟨_,rfl⟩;have SQ:w<Y:=by rw[hw];exact xJ _ (by lia)
  have Zt:x<Y:=by rw[hx];exact xJ _ (by lia)
  have se:=xX (u*4294967296+z1) Y;rw[<-gg,<-hw,xt] at se;have iK:=xX (w*4294967296+z0) Y;rw[<-zE,<-hx,xt] at iK;have aAz:=acg Zs (show z1<4294967296 by lia) gg;have aAA:=acg SQ (show z0<4294967296 by lia) zE;have⟨td1,td2⟩:=amP aAz aAA;have RN:(hi*2^64+lo)*2^s=(q1*4294967296+q0)*Y+x:=by
   rw[hdiv];exact aqv se iK (by lia)
  have r1:(hi*2^64+lo)/y=q1*4294967296+q0:=by
   rw[<-tG _ _ hp,RN,<-hY,xt _ Y,tX (by lia),wb Zt,yX]
  have r2:x/2^s=(hi*2^64+lo)%y:=by
   have h1:x=(hi*2^64+lo)*2^s%(y*2^s):=by
    rw[RN,<-hY,xt _ Y,tY,yT Zt]
   rw[h1,uv,Nat.mul_div_cancel _ hp]
  have o1:=Mt .u64 y (s:=s) (by lia);rw[<-hY,yT l3] at o1;have o2:=agF Y;rw[<-fj] at o2;have o3:=ahJ Y;rw[<-cW] at o3;have o4:=Mt .u64 hi (s:=s) (by lia);rw[yT (show hi*2^s<2^64 by lia)] at o4;have o5:binOp .sub (.int .u64 64) (uc s)=Gp (uc (64-s)):=FA (a:=64) (by lia) (by lia);have o6:=Mu .u64 lo (s:=64-s) (by lia);have o7:=Zq (a:=hi*2^s) (b:=lo/2^(64-s)) (by lia) (wo (vG _ _) bh);rw[qt] at o7;have o8:=Mt .u64 lo (s:=s) (by lia);rw[<-hz] at o8;have o9:=agF z;rw[<-ni] at o9;have o10:=ahJ z;rw[<-nj] at o10;have HP:0<v1:=by lia
  have agG:∀{a:Nat},a<Y->binOp .quo (uc a) (uc v1)=Gp (uc (a/v1))/\binOp .mul (uc (a/v1)) (uc v1)=Gp (uc (a/v1*v1))/\binOp .sub (uc a) (uc (a/v1*v1))=Gp (uc (a%v1)):=fun {a} ha=>by
   have h1:=xX a v1;rw[xt] at h1;have h2:=rI (a/v1) v1;generalize a/v1*v1=m at*
   rw[yT (show m<2^64 by lia)] at h2;exact⟨ahK a (by lia) HP,h2,FA (by lia) (by lia)⟩
  have⟨g1,g2,g3⟩:=agG Zs;have⟨g4,g5,g6⟩:=agG SQ;have first:∀{a b:Nat},b<4294967296->(a*4294967296+b)/Y<=a/v1:=fun {a b} hb=>by
   have:=TA (b:=4294967296) (V:=Y) (v1:=v1) (v2:=v2) (vr:=0) (U:=a*4294967296+b) (u0:=0) (u1:=a) (u2:=b) (ur:=0) (p:=1) (by lia) (by lia) (by decide) hb HP
   simpa using this
  have back:∀{a b q x:Nat},a*4294967296+b=q*Y+x->x<Y->binOp .mul (uc a) (.int .u64 4294967296)=Gp (uc (a*4294967296%2^64))/\binOp .add (uc (a*4294967296%2^64)) (uc b)=Gp (uc ((a*4294967296%2^64+b)%2^64))/\
    binOp .mul (uc q) (uc Y)=Gp (uc (q*Y%2^64))/\binOp .sub (uc ((a*4294967296%2^64+b)%2^64)) (uc (q*Y%2^64))=Gp (uc x):=fun {a b q x} h1 h2=>by
   refine⟨rI a 4294967296,C7 _ _,rI q Y,FA ?_ (by lia)⟩;generalize q*Y=m at*
   lia
  have⟨k1,k2,k3,k4⟩:=back se.symm SQ;have⟨k5,k6,k7,k8⟩:=back iK.symm Zt;have m1:=rI q1 4294967296;rw[yT td1,show uc 4294967296=AV.int .u64 4294967296 from rfl] at m1;have m2:=C7 (q1*4294967296) q0;rw[yT td2] at m2;have m3:=Mu .u64 x (s:=s) (by lia);rw[r1,<-r2];unfold ab;rw[aD h];simp only[go_sem,ya,LV,show ¬(y:Int)=0 by lia,show ¬(y:Int)<=(hi:Int) by lia,show ¬(hi:Int)=0 by lia,hl,ayW,yT (show s<2^64 by lia),o1,o2,o3,o4,o5,o6,o7,o8,o9,o10,g1,g2,g3];generalize nV:D P L (.loop _ CP) _=qq
  obtain⟨ex,st,rfl,tm,ct,rfl,rfl,t2,t8,t9,t10,t11,t13,t14,t15⟩:=bL nV (awj (P:=P) (L:=L) (s:=s) (z:=z0) hYv (by lia) HP (by lia) Zs (show z1<4294967296 by lia) (u/v1)) ⟨u/v1,u%v1,by simp only[go_sem,ya,ax],by rw[xt];exact xX u v1,by have:=xJ u HP;lia,first (by lia),rfl⟩
  rw[<-gg] at t15;simp only[go_sem,ya,ax,t2,t8,t9,t10,t11,t13,t14,t15,k1,k2,k3,k4,g4,g5,g6];generalize FB:D P L (.loop _ CQ) _=Zu;obtain⟨ex,st,rfl,nd,ct2,rfl,rfl,t2,t8,t9,t10,t14,t15,t17,t18⟩:=bL FB (awk (P:=P) (L:=L) (s:=s) (z:=q1) hYv (by lia) HP (by lia) SQ (show z0<4294967296 by lia) (w/v1)) ⟨w/v1,w%v1,by simp only[go_sem,ya,ax],by rw[xt];exact xX w v1,by have:=xJ w HP;lia,first (by lia),rfl⟩
  rw[<-zE] at t18;simp only[go_sem,ya,ax,t2,t8,t14,t15,t17,t18,m1,m2,k5,k6,k7,k8,m3];rfl
end
mutual
def below(n:Nat):AV->Prop
 | .ptr id _=>id<n
 | .aq id _ _=>id<n
 | .map id=>id<n
 | .it id=>id<n
 | .fn (.f _) first cap=>mN n first/\mN n cap
 | .fn (.y l) first cap=>l<n/\first=[]/\cap=[]
 | .agg cs=>mN n cs
 | .av cs=>mN n cs
 | _=>True
def mN(n:Nat):List AV->Prop
 | []=>True
 | v::r=>below n v/\mN n r
end
def lH(n:Nat):Env->Prop
 | []=>True
 | (_,v)::r=>below n v/\lH n r
def Ad(n:Nat):Obj->Prop
 | .cells _ pu _ _ cs=>pu=ydb\/mN n cs
 | .mp _ ks vs=>mN n ks/\mN n vs
 | .si _ _=>True
 | .lp tm _ _ _ _ _=>lH n tm
def fS(b n:Nat):Hp->Prop
 | []=>True
 | (id,o)::r=>id<b/\Ad n o/\fS b n r
mutual
def ach{f:Nat->Option Nat}{n:Nat}(hf:∀x,x<n->f x=Gp x):∀{v:AV},below n v->bq f v=v
 | .int _ _,_ | .bool _,_ | .aw _ _,_ | .dh _ _ _,_ | .str _,_ | .kN,_ | .bC _,_ | .ah,_ | .ap _ _ _,_ | .iE,_ | .jF,_ | .jG _ _,_ | .undef,_ | .cF _ _ _ _,_=>rfl
 | .ptr id o,h=>by simp only[bq,hf id h]
 | .aq id o k,h=>by simp only[bq,hf id h]
 | .map id,h=>by simp only[bq,hf id h]
 | .it id,h=>by simp only[bq,hf id h]
 | .fn (.y l) first cap,h=>by
  obtain⟨h1,rfl,rfl⟩:=h;simp only[bq,hf l h1,dO]
 | .fn (.f _) first cap,h=>by
  simp only[bq,Cq hf h.1,Cq hf h.2]
 | .agg cs,h=>by simp only[below] at h;simp only[bq,Cq hf h]
 | .av cs,h=>by simp only[below] at h;simp only[bq,Cq hf h]
def Cq{f:Nat->Option Nat}{n:Nat}(hf:∀x,x<n->f x=Gp x):∀{vs:List AV},mN n vs->dO f vs=vs
 | [],_=>rfl
 | v::r,h=>by simp only[dO,ach hf h.1,Cq hf h.2]
end
def On{f:Nat->Option Nat}{n:Nat}(hf:∀x,x<n->f x=Gp x):∀{tm:Env},lH n tm->dw f tm=tm
 | [],_=>rfl
 | (_,v)::r,h=>by simp only[dw,ach hf h.1,On hf h.2]
def amQ{f:Nat->Option Nat}{n:Nat}(hf:∀x,x<n->f x=Gp x):∀{o:Obj},Ad n o->gL f o=o
 | .cells _ pu _ _ cs,h=>by
  cases pu with
  | true=>rfl
  | false=>simp only[Ad,yD,ycv] at h;simp only[gL,yP,Cq hf h]
 | .mp _ ks vs,h=>by simp only[gL,Cq hf h.1,Cq hf h.2]
 | .si _ _,_=>rfl
 | .lp tm _ _ _ _ _,h=>by simp only[Ad] at h;simp only[gL,On hf h]
mutual
def abl{n:Nat}:∀{v:AV},below n v->∀x,x∈refs v->x<n
 | .int _ _,_,x,h | .bool _,_,x,h | .aw _ _,_,x,h | .dh _ _ _,_,x,h | .str _,_,x,h | .kN,_,x,h | .bC _,_,x,h | .ah,_,x,h | .ap _ _ _,_,x,h | .iE,_,x,h | .jF,_,x,h | .jG _ _,_,x,h | .undef,_,x,h | .cF _ _ _ _,_,x,h=>by simp[refs] at h
 | .ptr id o,h,x,hx=>by simp only[refs,xu] at hx;subst hx;exact h
 | .aq id o k,h,x,hx=>by simp only[refs,xu] at hx;subst hx;exact h
 | .map id,h,x,hx=>by simp only[refs,xu] at hx;subst hx;exact h
 | .it id,h,x,hx=>by simp only[refs,xu] at hx;subst hx;exact h
 | .fn (.y l) first cap,h,x,hx=>by simp only[refs,xu] at hx;subst hx;exact h.1
 | .fn (.f _) first cap,h,x,hx=>by
  simp only[refs,xF] at hx;exact hx.elim (Cp h.1 x) (Cp h.2 x)
 | .agg cs,h,x,hx=>by simp only[below] at h;simp only[refs] at hx;exact Cp h x hx
 | .av cs,h,x,hx=>by simp only[below] at h;simp only[refs] at hx;exact Cp h x hx
def Cp{n:Nat}:∀{vs:List AV},mN n vs->∀x,x∈eZ vs->x<n
 | [],_,x,h=>by simp[eZ] at h
 | v::r,h,x,hx=>by
  simp only[eZ,xF] at hx;exact hx.elim (abl h.1 x) (Cp h.2 x)
end
def N4{n:Nat}:∀{tm:Env},lH n tm->∀x,x∈cJ tm->x<n
 | [],_,x,h=>by simp[cJ] at h
 | (_,v)::r,h,x,hx=>by
  simp only[cJ,xF] at hx;exact hx.elim (abl h.1 x) (N4 h.2 x)
def al7{n:Nat}:∀{o:Obj},Ad n o->∀x,x∈iT o->x<n
 | .cells _ pu _ _ cs,h,x,hx=>by
  cases pu with
  | true=>simp[iT] at hx
  | false=>simp only[Ad,yD,ycv] at h;exact Cp h x hx
 | .mp _ ks vs,h,x,hx=>by
  simp only[iT,xF] at hx;exact hx.elim (Cp h.1 x) (Cp h.2 x)
 | .si _ _,_,x,hx=>by simp[iT] at hx
 | .lp tm _ _ _ _ _,h,x,hx=>by simp only[Ad] at h;exact N4 h x hx
def gJ(B:Nat):List (List AV)->Hp
 | []=>[]
 | cs::r=>(B+r.length,.cells ydb ydb ydb 1 cs)::gJ B r
def E4(B:Nat):List (List AV)->Hp->Hp
 | [],acc=>acc
 | cs::r,acc=>E4 (B+1) r ((B,.cells ydb ydb ydb 1 cs)::acc)
def abm:∀(l:List (List AV)) (B:Nat) (x:List AV) (acc:Hp),E4 B (l++[x]) acc=(B+l.length,.cells ydb ydb ydb 1 x)::E4 B l acc
 | [],B,x,acc=>rfl
 | c::l,B,x,acc=>by
  simp only[yj,E4,abm l,yF]
  grind
def Uk(B:Nat)(acc:Hp):∀rs:List (List AV),E4 B rs.reverse acc=gJ B rs++acc
 | []=>rfl
 | c::r=>by
  simp only[ybo,abm,Uk B acc r,ybb,gJ,yj]
def Ul{B:Nat}{old:Hp}:∀{rs:List (List AV)} {i:Nat} (h:i<rs.length),ai (gJ B rs++old) (B+i)=Gp (.cells ydb ydb ydb 1 (rs.reverse[i]'(by simpa using h)))
 | c::r,i,h=>by
  simp only[gJ,yj,ybo];by_cases hi:i=r.length
  .subst hi;rw[ai,wQ,yu]
   simp
  .have aH:i<r.length:=by grind
   rw[ai,gU (by lia),yP,Ul aH]
   grind
def oA{a b:Nat}(h:a<b):yL a b=ydb:=by simp_all
def sS{a b:Nat}(h:b<=a):yL a b=ydc:=by
 cases hq:yL a b with
 | false=>rfl
 | true=>have:=yt hq;lia
def JM{B:Nat}{old:Hp}:∀rs:List (List AV),b7 B (gJ B rs++old)=b7 B old
 | []=>rfl
 | c::r=>by
  simp only[gJ,yj];rw[b7,sS (by lia),yP,JM r]
def TO{B:Nat}{old:Hp}{f:Nat->Option Nat}:∀rs:List (List AV),fT B f (gJ B rs++old)=fT B f old
 | []=>rfl
 | c::r=>by
  simp only[gJ,yj];rw[fT,sS (by lia),yP,TO r]
def N5{B n:Nat}{f:Nat->Option Nat}(hf:∀x,x<n->f x=Gp x):∀{old:Hp},fS B n old->fT B f old=old
 | [],_=>rfl
 | (id,o)::r,h=>by
  rw[fT,oA h.1,yu,amQ hf h.2.1,N5 hf h.2.2]
def amR{B s x:Nat}(h:B+s<=x):jH x (xZ B s)=ydc:=by
 induction s generalizing B with
 | zero=>rfl
 | succ s ih=>rw[vO,jH,gU (by lia),yP,ih (by lia)]
def Oo{hp:Hp}{B R:Nat}(mX:∀i,i<R->∃rw ex sz cs,ai hp (B+i)=Gp (.cells rw ydb ex sz cs)):
  ∀(W:List Nat) (bm s:Nat),W.length<bm->s<=R->W.filter (fun x=> !yL x B)=xZ (B+s) (R-s)->reach hp B bm W (xZ B s)=xZ B R
 | [],0,s,hf,_,_=>by simp at hf
 | [],bm+1,s,hf,hs,h=>by
  have:R-s=0:=by
   grind
  rw[reach,show R=s by lia]
 | id::W,0,s,hf,_,_=>by simp at hf
 | id::W,bm+1,s,hf,hs,h=>by
  have DB:W.length<bm:=by simp_all
  rw[reach];by_cases hid:id<B
  .rw [oA hid,Bool.true_or,yu];rw[ybx,oA hid] at h;exact Oo mX W bm s DB hs (by simpa using h)
  .rw [ybx,sS (by lia)] at h;have hRs:R-s=(R-s-1)+1:=by
    have:=congrArg xT h
    grind
   rw[hRs,vO] at h;injection h with h1 h2
   subst h1;rw[sS (by lia),vV,amR (yp _),yP];have⟨rw,ex,sz,cs,ho⟩:=mX s (by lia);simp only[ho,iT,yu,yy];have e:xZ B s++[B+s]=xZ B (s+1):=by rw[List.range'_concat];simp
   rw[e];exact Oo mX W bm (s+1) DB (by lia) (by rw[h2,show R-s-1=R-(s+1) by lia,show B+s+1=B+(s+1) by lia])
def amS{B s i k:Nat}(h:i<s):dz (B+i) (xZ B s) k=Gp (k+i):=by
 induction s generalizing B i k with
 | zero=>lia
 | succ s ih=>
  rw[vO,dz];by_cases hi:i=0
  .simp_all
  .rw [gU (by lia),yP]
   have:=ih (B:=B+1) (i:=i-1) (k:=k+1) (by lia)
   grind
def aaO{B R x:Nat}(h:x<B+R):gW B (xZ B R) x=Gp x:=by
 unfold gW;by_cases hx:x<B
 .rw [oA hx,yu]
 .rw [sS (by lia),yP]
  have:=amS (B:=B) (s:=R) (i:=x-B) (k:=B) (by lia)
  grind
def TP{hp:Hp}{f:Nat->Option Nat}:∀(ro:List (List AV)) (B:Nat) (acc:Hp),(∀i (h:i<ro.length),ai hp (B+i)=Gp (.cells ydb ydb ydb 1 ro[i]))->eF hp f (xZ B ro.length) B acc=E4 B ro acc
 | [],B,acc,_=>rfl
 | c::r,B,acc,h=>by
  have h0:=h 0 (by simp);simp only[yX,List.getElem_cons_zero] at h0;rw[yF,vO,eF];simp only[h0,gL,yu,E4]
  exact TP r (B+1) _ (fun i hi=>by
   have:=h (i+1) (by simpa using hi)
   rw[show B+1+i=B+(i+1) by lia,this]
   simp)
def alD{live:List Nat}{tm:Env}{B ct:Nat}{old:Hp}{rs:List (List AV)}(ht:lH B (bc tm live))(ho:fS B (B+rs.length) old)(hl:(cJ (bc tm live)).length+(b7 B old).length<100000)(hr:(b7 B old).filter (fun x=> !yL x B)=xZ B rs.length):bn live ⟨tm,gJ B rs++old,ct,B⟩=⟨bc tm live,gJ B rs++old,B+rs.length,B⟩:=by
 have mX:∀i (h:i<rs.length),ai (gJ B rs++old) (B+i)=Gp (.cells ydb ydb ydb 1 (rs.reverse[i]'(by simpa using h))):=fun i h=>Ul h
 have P8:reach (gJ B rs++old) B 100000 (cJ (bc tm live)++b7 B (gJ B rs++old)) []=xZ B rs.length:=by
  have:=Oo (hp:=gJ B rs++old) (B:=B) (R:=rs.length) (fun i hi=>⟨_,_,_,_,mX i hi⟩) (cJ (bc tm live)++b7 B (gJ B rs++old)) 100000 0 (by rw[JM,yJ];exact hl) (tk _) (by
   rw[List.filter_append,JM,hr,tP.2 (fun x hx=>by
    have:=N4 ht x hx
    simp[oA this])]
   simp)
  grind
 have hid:∀x,x<B+rs.length->gW B (xZ B rs.length) x=Gp x:=fun x hx=>aaO hx
 have hn:=TP (hp:=gJ B rs++old) (f:=gW B (xZ B rs.length)) rs.reverse B old (fun i hi=>mX i (by simpa using hi));rw[ybb] at hn;simp only[bn,P8,TO,N5 hid ho,hn,Uk,List.length_range']
 rw[On (n:=B) (fun x hx=>hid x (by lia)) ht]
def JU{B b n:Nat}(hb:b<=B):∀{H:Hp},fS b n H->∀x,x∈b7 B H->x<n
 | [],_,x,hx=>by simp[b7] at hx
 | (id,o)::r,h,x,hx=>by
  rw[b7,oA (by have:=h.1;lia),yu,xF] at hx
  exact hx.elim (al7 h.2.1 x) (JU hb h.2.2 x)
def TB{live:List Nat}{tm:Env}{B ct:Nat}{old:Hp}(ht:lH B (bc tm live))(ho:fS B B old)(hl:(cJ (bc tm live)).length+(b7 B old).length<100000):
  bn live ⟨tm,old,ct,B⟩=⟨bc tm live,old,B,B⟩:=by
 have:=alD (rs:=[]) (ct:=ct) ht (by simpa using ho) hl (by
  rw[tP.2 (fun x hx=>by have:=JU (yp B) ho x hx;simp[oA this])]
  rfl)
 simpa[gJ] using this
section
variable {hp:Hp}{ps:List Nat}{ct:Nat}
def GN{n:Nat}{F:az}(h:Has P L n F){au:List AV}{ex:Ex}{s:St}{v:AV}(hD:D P L F.body ⟨fA 0 au,hp,ct,ct⟩=Gp (ex,s))(he:ex=.normal\/ex=.ret)(hr:jA s F.dR=Gp v):
  iQ P L (D P L) hp ct n au=Gp (v,s.hp,s.ct):=by
 simp only[iQ,h.heap,h.code,hD]
 grind
def Bl{l:Nat}{xs:List AV}{tm tm' gO nd:Env}{qc rY:List Nat}{a b a1 b1 a2 b2:VC}{pe nQ Sv:sY}{s1 s2:St}(h1:ai hp l=Gp (.lp tm ps a b 0 pe))(h2:ri tm ps xs=Gp tm')(h3:D P L a ⟨tm',hp,ct,ct⟩=Gp (.normal,s1))(h4:ai s1.hp l=Gp (.lp gO qc a1 b1 0 nQ))(h5:D P L b ⟨s1.tm,aU s1.hp l (.lp gO qc a1 b1 1 nQ),s1.ct,s1.ct⟩=Gp (.normal,s2))(h6:ai s2.hp l=Gp (.lp nd rY a2 b2 1 Sv)):
  gF (D P L) hp ct l xs=Gp (.bool ydb,aU s2.hp l (.lp nd rY a2 b2 0 .none),s2.ct):=by
 simp only[gF,h1,h2,h3,h4,h5,h6]
def agH{f:X}{as_ body:VC}{s:St}{n:Nat}{first cap:List AV}{v:AV}{tm:Env}{ps':List Nat}{a b:VC}{st:Nat}(h1:ay s.tm f=.fn (.f n) first cap)(h2:L.heap n=Gq)(h3:iQ P L (D P L) ((s.ct,.lp s.tm ps as_ body 0 .none)::s.hp) (s.ct+1) n (first++(.fn (.y s.ct) [] []::cap))=Gp (v,hp,ct))(h4:ai hp s.ct=Gp (.lp tm ps' a b st .none))(h5:st≠1):D P L (.rf f ps as_ body) s=Gp (.normal,⟨s.tm,cE hp s.ct,ct,s.base⟩):=by
 rw[lM];simp only[bE,h1,h2,h3,h4,gU h5,yP]
mutual
def abn{n n':Nat}(h:n<=n'):∀{v:AV},below n v->below n' v
 | .int _ _,_ | .bool _,_ | .aw _ _,_ | .dh _ _ _,_ | .str _,_ | .kN,_ | .bC _,_ | .ah,_ | .ap _ _ _,_ | .iE,_ | .jF,_ | .jG _ _,_ | .undef,_ | .cF _ _ _ _,_=>trivial
 | .ptr _ _,k=>yG k h
 | .aq _ _ _,k=>yG k h
 | .map _,k=>yG k h
 | .it _,k=>yG k h
 | .fn (.f _) _ _,k=>⟨JP h k.1,JP h k.2⟩
 | .fn (.y _) _ _,k=>⟨yG k.1 h,k.2⟩
 | .agg cs,k=>by simp only[below] at k ⊢;exact JP h k
 | .av cs,k=>by simp only[below] at k ⊢;exact JP h k
def JP{n n':Nat}(h:n<=n'):∀{vs:List AV},mN n vs->mN n' vs
 | [],_=>trivial
 | _::_,k=>⟨abn h k.1,JP h k.2⟩
end
def aaP{n n':Nat}(h:n<=n'):∀{tm:Env},lH n tm->lH n' tm
 | [],_=>trivial
 | (_,_)::_,k=>⟨abn h k.1,aaP h k.2⟩
mutual
def nn{n:Nat}:∀{v:AV},aW v=ydb->below n v
 | .int _ _,_ | .bool _,_ | .aw _ _,_ | .dh _ _ _,_ | .str _,_ | .kN,_ | .bC _,_ | .ah,_ | .ap _ _ _,_ | .iE,_ | .jF,_ | .jG _ _,_ | .undef,_=>trivial
 | .cF _ _ _ _,_=>trivial
 | .ptr _ _,h | .aq _ _ _,h | .map _,h | .it _,h=>by simp[aW] at h
 | .fn (.y _) _ _,h=>by simp[aW] at h
 | .fn (.f _) _ _,h=>by
  simp only[aW,ye] at h;exact⟨Gr h.1,Gr h.2⟩
 | .agg cs,h=>by simp only[aW] at h;simp only[below];exact Gr h
 | .av cs,h=>by simp only[aW] at h;simp only[below];exact Gr h
def Gr{n:Nat}:∀{vs:List AV},aF vs=ydb->mN n vs
 | [],_=>trivial
 | _::_,h=>by
  simp only[aF,ye] at h;exact⟨nn h.1,Gr h.2⟩
end
end
section
variable {pre x post:List Nat}{i:Nat}
def rb:(pre++x++post).length=pre.length+x.length+post.length:=by grind
def Et(h:i<x.length):(pre++x++post).getD (pre.length+i) 0=x.getD i 0:=by grind
def Pq(a:Nat)(h:i<x.length):(pre++x++post).set (pre.length+i) a=pre++x.set i a++post:=by simp_all
end
def nG(n:Nat)(k:xe)(a:Int):below n (.int k a)=True:=rfl
def oC(n id o k:Nat):below n (.aq id o k)=(id<n):=rfl
def nC(n:Nat):lH n []=True:=rfl
def nv(n i:Nat)(v:AV)(r:Env):lH n ((i,v)::r)=(below n v/\lH n r):=rfl
def sN{live:List Nat}{tm:Env}{ct:Nat}{a b:List AV}(ht:lH 2 (bc tm live))(hl:(cJ (bc tm live)).length<100000):
  bn live ⟨tm,[(1,.cells ydb ydb ydb 1 a),(0,.cells ydb ydb ydb 1 b)],ct,2⟩=⟨bc tm live,[(1,.cells ydb ydb ydb 1 a),(0,.cells ydb ydb ydb 1 b)],2,2⟩:=
 TB ht ⟨by lia,.inl rfl,by lia,.inl rfl,trivial⟩ (by
  have:b7 2 [(1,Obj.cells ydb ydb ydb 1 a),(0,Obj.cells ydb ydb ydb 1 b)]=[]:=rfl
  rw[this,yN,yX];exact hl)
def amT{x s c:Nat}(hs:s<64)(hx:x<2^64)(hc:c<2^s):
  c|||(x*2^s%2^64)<2^64/\c<2^64/\x/2^(64-s)<2^s/\(c|||(x*2^s%2^64))+2^64*(x/2^(64-s))=x*2^s+c:=by
 have e:2^64=2^(64-s)*2^s:=by rw[<-xH,show 64-s+s=64 by lia]
 have h1:x*2^s%2^64=(x%2^(64-s))*2^s:=by rw[e,uv]
 have h2:x/2^(64-s)<2^s:=by
  refine (xE (xm _)).2 ?_
  grind
 have h3:c|||(x*2^s%2^64)=(x%2^(64-s))*2^s+c:=by rw[h1,ycM,VQ hc]
 have h4:(x%2^(64-s))*2^s+c<2^64:=by
  have:=yO (2^s) (show x%2^(64-s)+1<=2^(64-s) from xJ _ (xm _))
  grind
 have h5:=uk x (2^(64-s))
 grind
def awl{v:AV}{w:List Nat}(hv:bQ v w)(hw:lo (2^64) w)(lw:w.length<=99999999999){s n:Nat}(hs:s<64)(hn:n=w.length+1):
  c6 P L [1,5,12,13,14] G2 (fun k st=>∃(i:Nat) (out:List Nat),st=⟨[(1,aa s),(5,.aq 0 0 n),(12,v),(13,aa w.length),(14,aa i)],[(0,.cells ydb ydb ydb 1 (out.map uc))],1,0⟩/\i+k=w.length/\out.length=n/\lo (2^64) out/\bv (2^64) out=bv (2^64) (w.take i)*2^s/\out.getD i 0<2^s/\(∀m,i<m->out.getD m 0=0)) (fun ex st'=>∃tm out,st'=⟨tm,[(0,.cells ydb ydb ydb 1 (out.map uc))],1,0⟩/\ex=.exit 0/\ak tm 5=.aq 0 0 n/\out.length=n/\lo (2^64) out/\bv (2^64) out=bv (2^64) w*2^s):=by
 apply c9;rintro k st ⟨i,out,rfl,hk,hlen,bh,aM,hc,ir⟩;by_cases hi:i<w.length
 .left
  have gx:=iS (show 0<2^64 by decide) hw i;have ex:=hv.bk hi;have ec:=BA (l:=out) (o:=i) (by lia);have aU:=pK (b:=2^64) (l:=out) (i:=i) (x:=out.getD i 0|||(w.getD i 0*2^s%2^64)) (by lia);have hz:out.getD (i+1) 0=0:=ir _ (by lia);have fg:=kK (b:=2^64) (l:=w) i;generalize out.getD i 0=c at*
  generalize w.getD i 0=x at*
  have⟨s1,s2,s3,s4⟩:=amT hs gx hc;have o1:=Mt .i64 x (s:=s) (by lia);have o2:=Zq s2 (xJ (x*2^s) (by decide));have o3:binOp .sub (.int .i64 64) (aa s)=Gp (aa (64-s:Nat)):=by
   rw[Ph,wrap64 (by lia) (by lia)];congr 2;lia
  have o4:=Mu .i64 x (s:=64-s) (by lia);generalize iv:c|||(x*2^s%2^64)=c' at*
  by_cases h0:0<s
  .have Qp:=pK (b:=2^64) (l:=out.set i c') (i:=i+1) (x:=x/2^(64-s)) (by simp;lia)
   rw[q9 (by lia),hz,xG,yX] at Qp;have aAB:x/2^(64-s)<2^64:=wo (vG _ _) gx;generalize x/2^(64-s)=y at*
   simp only[go_sem,ya,ym,G2,show (i:Int)<w.length by lia,ex,cV 0 0 (show i<n by lia),yd,ec,o1,o2,mf (l:=out) (o:=i) (by lia),show (0:Int)<(s:Int) by lia,show (i:Int)+1=((i+1:Nat):Int) from rfl,wrapN (n:=i+1) (by lia),o3,o4,cV 0 0 (show i+1<n by lia),mf (l:=out.set i c') (o:=i+1) (by simp;lia)]
   refine⟨_,k-1,rfl,by lia,i+1,(out.set i c').set (i+1) y,by simp only[go_sem,ya,yb,ax,aG hv.pu]<;>rfl,by lia,by simp[hlen],nF (nF bh s1) aAB,?_,by rw[amw (by simp;lia)];exact s3,fun m hm=>by rw[q9 (by lia),q9 (by lia)];exact ir m (by lia)⟩
   rw[fg,xR,Qp,<-aM,Aw,xj,xj ((2^64)^i)];have e:=congrArg (fun t=>(2^64)^i*t) s4;simp only[xK] at e;generalize (2^64)^i*(2^64*y)=p1 at*
   generalize (2^64)^i*(x*2^s)=p2 at*
   generalize (2^64)^i*c'=p3 at*
   lia
  .have B0:s=0:=by lia
   subst B0;have lz:c=0:=by simpa using hc
   have Cd:x/2^(64-0)=0:=wb gx;rw[Cd,xG,yX,vN,ym] at s4
   simp only[go_sem,ya,ym,G2,show (i:Int)<w.length by lia,ex,cV 0 0 (show i<n by lia),yd,ec,o1,o2,mf (l:=out) (o:=i) (by lia),show ¬(0:Int)<((0:Nat):Int) by lia,show (i:Int)+1=((i+1:Nat):Int) from rfl,wrapN (n:=i+1) (by lia)];refine⟨_,k-1,rfl,by lia,i+1,out.set i c',by simp only[go_sem,ya,yb,ax,aG hv.pu]<;>rfl,by lia,by simp[hlen],nF bh s1,?_,by rw[q9 (by lia),hz];exact xm _,fun m hm=>by rw[q9 (by lia)];exact ir m (by lia)⟩
   rw[vN,ym] at aM ⊢;rw[fg,<-aM];rw[lz,xG,yX] at aU;rw[aU,s4,lz,yX]
 .right
  have:i=w.length:=by lia
  subst this;rw[xL] at aM;simp only[go_sem,ya,G2,show ¬(w.length:Int)<w.length by lia];exact⟨_,_,rfl,by simp,_,out,rfl,rfl,rfl,hlen,bh,aM⟩
def ahM(h:Has P L 168 QW){v:AV}{w:List Nat}(hv:bQ v w)(hw:lo (2^64) w)(lw:w.length<=99999999999){s:Nat}(hs:s<64):
  ∃out,ab P L 168 [v,aa s] (.cF ydb 1 (w.length+1) (out.map uc))/\out.length=w.length+1/\lo (2^64) out/\bv (2^64) out=bv (2^64) w*2^s:=by
 obtain⟨n,hn⟩:∃n,n=w.length+1:=⟨_,rfl⟩;unfold ab;rw[aD h]
 simp only[go_sem,ya,yb,QW,hv.len,wrapN (n:=n) (by lia),show (w.length:Int)+1=((w.length+1:Nat):Int) from rfl,<-hn,Fz (n:=n) _ (by lia)];generalize hq:D P L (.loop _ G2) _=q;obtain⟨ex,st,rfl,tm,o,rfl,rfl,t5,hlen,bh,aM⟩:=bL hq (awl (P:=P) (L:=L) hv hw lw hs hn w.length)
  ⟨0,yz n 0,by simp only[go_sem,ya,yb,ax,aG hv.pu]<;>rfl,by lia,by simp,Hf (by decide) n,by rw[Hg];simp[bv],by rw[Es];exact xm _,fun m _=>Es n m⟩
 refine⟨o,?_,hlen,bh,aM⟩;simp only[go_sem,yb,ax,t5];exact Ok (iP _ _ _) (by simp[hlen]) (by decide)
abbrev H2(a b:List Nat):Hp:=[(1,.cells ydb ydb ydb 1 (a.map uc)),(0,.cells ydb ydb ydb 1 (b.map uc))]
structure jb(x vs:List Nat)(n v1 v2 u0 u1 u2:Nat):Prop where
 n2:2<=n
 nb:n<=99999999999
 lx:x.length=n+1
 lv:vs.length=n
 gx:lo (2^64) x
 gv:lo (2^64) vs
 fj:vs.getD (n-1) 0=v1
 cW:vs.getD (n-2) 0=v2
 h0:x.getD n 0=u0
 h1:x.getD (n-1) 0=u1
 h2:x.getD (n-2) 0=u2
 pos:0<v1
 lt:bv (2^64) x<2^64*bv (2^64) vs
def ayX(b p a v1 v2:Nat):a+p*v2+p*b*v1=(v1*b+v2)*p+a:=by grind
def ayY(b p a v0 v1 v2:Nat):a+p*v2+p*b*v1+p*b*b*v0=((v0*b+v1)*b+v2)*p+a:=by grind
section
variable {x vs:List Nat}{n v1 v2 u0 u1 u2:Nat}
def jb.Nr(h:jb x vs n v1 v2 u0 u1 u2):v1<2^64:=h.fj▸iS (by decide) h.gv _
def jb.F5(h:jb x vs n v1 v2 u0 u1 u2):v2<2^64:=h.cW▸iS (by decide) h.gv _
def jb.Ns(h:jb x vs n v1 v2 u0 u1 u2):u1<2^64:=h.h1▸iS (by decide) h.gx _
def jb.Nt(h:jb x vs n v1 v2 u0 u1 u2):u2<2^64:=h.h2▸iS (by decide) h.gx _
def jb.parts(h:jb x vs n v1 v2 u0 u1 u2):∃p vr ur,bv (2^64) vs=(v1*2^64+v2)*p+vr/\vr<p/\bv (2^64) x=((u0*2^64+u1)*2^64+u2)*p+ur/\ur<p:=by
 obtain⟨m,hm⟩:∃m,n=m+2:=⟨n-2,by have:=h.n2;lia⟩
 subst hm;have e1:=kK (b:=2^64) (l:=vs) (m+1);have e2:=kK (b:=2^64) (l:=vs) m;have f0:=kK (b:=2^64) (l:=x) (m+2);have f1:=kK (b:=2^64) (l:=x) (m+1);have f2:=kK (b:=2^64) (l:=x) m;have fj:vs.getD (m+1) 0=v1:=h.fj;have cW:vs.getD m 0=v2:=h.cW;have h0:x.getD (m+2) 0=u0:=h.h0;have h1:x.getD (m+1) 0=u1:=h.h1;have h2:x.getD m 0=u2:=h.h2
 rw[yE (by have:=h.lv;lia),fj,e2,cW] at e1
 rw[yE (by have:=h.lx;lia),h0,f1,h1,f2,h2] at f0
 have g1:=nH (CH h.gv m)
 rw[yQ,xB (by have:=h.lv;lia)] at g1
 have g2:=nH (CH h.gx m)
 rw[yQ,xB (by have:=h.lx;lia)] at g2
 refine⟨(2^64)^m,_,_,?_,g1,?_,g2⟩
 .grind
 .grind
def jb.down(h:jb x vs n v1 v2 u0 u1 u2){t r:Nat}(ht:t*v1+r=u0*2^64+u1)(hr:r*2^64+u2<t*v2):bv (2^64) x/bv (2^64) vs<=t-1:=by
 have⟨p,vr,ur,h1,h2,h3,h4⟩:=h.parts;exact abg h1 h3 h4 ht hr
def jb.stop(h:jb x vs n v1 v2 u0 u1 u2){t r:Nat}(mb:t<2^64)(ht:t*v1+r=u0*2^64+u1)(hr:2^64<=r\/t*v2<=r*2^64+u2):t<=bv (2^64) x/bv (2^64) vs+1:=by
 have⟨p,vr,ur,h1,h2,h3,h4⟩:=h.parts;exact ab7 (by decide) h1 h2 h3 h.pos h.F5 mb ht hr
def jb.first(h:jb x vs n v1 v2 u0 u1 u2):bv (2^64) x/bv (2^64) vs<=(u0*2^64+u1)/v1:=by
 have⟨p,vr,ur,h1,h2,h3,h4⟩:=h.parts;exact TA h1 h3 h4 h.Nt h.pos
def jb.top(h:jb x vs n v1 v2 u0 u1 u2):u0<=v1:=by
 have⟨p,vr,ur,h1,h2,h3,h4⟩:=h.parts;exact ab8 h1 h3 h2 h.F5 h.lt
def jb.digit(h:jb x vs n v1 v2 u0 u1 u2):bv (2^64) x/bv (2^64) vs<2^64:=by
 refine (xE ?_).2 h.lt;rcases xq (bv (2^64) vs) with h0 | h0
 .have:=h.lt;rw[h0] at this;simp at this
 .exact h0
end
def afa(nO:L.pure 143=Gp z7)(iG:L.pure 171=Gp pH){w:AV}{x vs pre post qs:List Nat}(hw:bQ w vs){n v1 v2 u0 u1 u2:Nat}(hl:jb x vs n v1 v2 u0 u1 u2):
  c6 P L [0,1,5,6,7,8] Bs (fun k s=>∃q r:Nat,s=⟨[(0,.aq 0 pre.length (n+1)),(1,w),(5,aa n),(6,uc q),(7,uc (r%2^64)),(8,uc (r/2^64))],H2 qs (pre++x++post),2,2⟩/\q*v1+r=u0*2^64+u1/\r<2*2^64/\q<2^64/\bv (2^64) x/bv (2^64) vs<=q/\q=k) (fun ex s'=>∃tm q,s'=⟨tm,H2 qs (pre++x++post),2,2⟩/\ex=.exit 0/\ak tm 0=.aq 0 pre.length (n+1)/\ak tm 1=w/\ak tm 5=aa n/\ak tm 6=uc q/\q<2^64/\bv (2^64) x/bv (2^64) vs<=q/\q<=bv (2^64) x/bv (2^64) vs+1):=by
 apply c9;rintro k s ⟨q,r,rfl,hq,hr,qG,hQ,rfl⟩;have dF:=hl.n2;have r9:=hl.nb;by_cases mA:r<2^64
 .have Ix:r%2^64=r:=yT mA;have DR:r/2^64=0:=wb mA;rw[Ix,DR];have HQ:=hl.Nr;have Xz:=hl.F5;have ahN:=hl.Nt;have sf:=hw.bk (i:=n-2) (by have:=hl.lv;lia)
  have fk:=hw.bk (i:=n-1) (by have:=hl.lv;lia)
  rw[hl.cW] at sf;rw[hl.fj] at fk;have AY:=BA (l:=pre++x++post) (o:=pre.length+(n-2)) (by rw[rb];have:=hl.lx;lia)
  rw[Et (by have:=hl.lx;lia),hl.h2] at AY
  have f1:=PR (P:=P) (f:=D P L) nO qG Xz;have f2:=EP (P:=P) (f:=D P L) iG (x:=r) (y:=v1) (c:=0) mA HQ (by lia);rw[show (uc 0)=AV.int .u64 0 from rfl] at f2;have fc:=xX (q*v2) (2^64);have bh:=xJ (q*v2) (show 0<2^64 by decide);obtain⟨H,hH⟩:∃H,H=q*v2/2^64:=⟨_,rfl⟩;obtain⟨G,hG⟩:∃G,G=q*v2%2^64:=⟨_,rfl⟩;rw[<-hH,<-hG] at f1 fc;rw[<-hG] at bh;have Ce:(n:Int)-2=((n-2:Nat):Int):=by lia
  have sj:(n:Int)-1=((n-1:Nat):Int):=by lia
  by_cases c1:H<r
  .right
   simp only[go_sem,ya,Bs,H2,show ((0:Nat):Int)=0 from rfl,Ce,wrapN (n:=n-2) (by lia),sf,f1,show (H:Int)<(r:Int) by lia];exact⟨_,_,rfl,by simp,_,q,rfl,rfl,rfl,rfl,rfl,rfl,qG,hQ,hl.stop qG hq (.inr (by lia))⟩
  .by_cases c2:H=r/\G<=u2
   .right
    have⟨c2,c3⟩:=c2
    simp only[go_sem,ya,Bs,H2,show ((0:Nat):Int)=0 from rfl,Ce,wrapN (n:=n-2) (by lia),sf,f1,show (H:Int)=(r:Int) by lia];simp only[show ¬(r:Int)<(r:Int) by lia,yM]
    simp only[go_sem,ya,ym,Ce,wrapN (n:=n-2) (by lia),cV 0 pre.length (show n-2<n+1 by lia),AY,show (G:Int)<=(u2:Int) by lia];exact⟨_,_,rfl,by simp,_,q,rfl,rfl,rfl,rfl,rfl,rfl,qG,hQ,hl.stop qG hq (.inr (by lia))⟩
   .left
    have DH:r*2^64+u2<q*v2:=by lia
    have zE:0<q:=by
     rcases xq q with h0 | h0
     .subst h0;lia
     .exact h0
    have e3:binOp .sub (uc q) (.int .u64 1)=Gp (uc (q-1)):=FA (b:=1) (by lia) (by lia);have h1:(q-1)*v1+(r+v1)=u0*2^64+u1:=by
     obtain⟨p,rfl⟩:∃p,q=p+1:=⟨q-1,by lia⟩;rw[xR,tZ] at hq;rw[uS];lia
    have F6:=hl.down hq DH;rw[yX] at f2;by_cases c3:H=r
    .have c4:¬G<=u2:=fun h=>c2 ⟨c3,h⟩
     subst c3
     simp only[go_sem,ya,xp,ym,Bs,H2,show ((0:Nat):Int)=0 from rfl,Ce,sj,wrapN (n:=n-2) (by lia),wrapN (n:=n-1) (by lia),sf,fk,f1,f2,show ¬(H:Int)<(H:Int) by lia,cV 0 pre.length (show n-2<n+1 by lia),AY,show ¬(G:Int)<=(u2:Int) by lia,e3];refine⟨_,q-1,rfl,by lia,q-1,H+v1,?_,h1,by lia,by lia,F6,rfl⟩;rw[sN (by simp only[go_sem,ya,yx,nG,oC,nC,nv,nn hw.pu,vQ]) (by simp only[go_sem,ya,yb,yx,eW hw.pu])];simp only[go_sem,ya]
    .simp only [go_sem,ya,xp,Bs,H2,show ((0:Nat):Int)=0 from rfl,Ce,sj,wrapN (n:=n-2) (by lia),wrapN (n:=n-1) (by lia),sf,fk,f1,f2,show ¬(H:Int)<(r:Int) by lia,show ¬(H:Int)=(r:Int) by lia,e3];refine⟨_,q-1,rfl,by lia,q-1,r+v1,?_,h1,by lia,by lia,F6,rfl⟩;rw[sN (by simp only[go_sem,ya,yx,nG,oC,nC,nv,nn hw.pu,vQ]) (by simp only[go_sem,ya,yb,yx,eW hw.pu])];simp only[go_sem,ya]
 .right
  have DR:r/2^64=1:=by lia
  rw[DR];simp only[go_sem,ya,Bs,H2,show ((1:Nat):Int)=1 from rfl,yaB];exact⟨_,_,rfl,by simp,_,q,rfl,rfl,rfl,rfl,rfl,rfl,qG,hQ,hl.stop qG hq (.inl (by lia))⟩
def aoo{b p x y z oU c bo Cf ca q v X Y:Nat}(h1:q*v+c=b*ca+oU)(h2:z+oU+bo=x+b*Cf)(h3:Y+q*X=y+p*(c+bo))(W:Nat)(hW:W+p*x=Y+p*z):
  W+q*(X+p*v)=y+p*b*(ca+Cf):=by grind
def aop{q v c:Nat}(hq:q<2^64)(hv:v<2^64)(hc:c<2^64):
  q*v+c=2^64*(q*v/2^64+(q*v%2^64+c+0)/2^64)+(q*v%2^64+c+0)%2^64/\
  q*v/2^64+(q*v%2^64+c+0)/2^64<2^64:=by
 have h:=xf (show q<=18446744073709551615 by lia) (show v<=18446744073709551615 by lia)
 grind
def awm(nO:L.pure 143=Gp z7)(iG:L.pure 171=Gp pH)(Ax:L.pure 173=Gp CO){w:AV}{x vs pre post qs:List Nat}(hw:bQ w vs){n:Nat}(r9:n<=99999999999)(lv:vs.length=n)(gv:lo (2^64) vs){q:Nat}(hq:q<2^64):
  c6 P L [0,1,5,6,11,12,104,105] KM (fun k s=>∃(i c bo:Nat) (y:List Nat),s=⟨[(0,.aq 0 pre.length (n+1)),(1,w),(5,aa n),(6,uc q),(11,uc bo),(12,uc c),(104,aa n),(105,aa i)],H2 qs (pre++y++post),2,2⟩/\i+k=n/\y.length=n+1/\lo (2^64) y/\c<2^64/\bo<=1/\
    bv (2^64) y+q*bv (2^64) (vs.take i)=bv (2^64) x+(2^64)^i*(c+bo)) (fun ex s'=>∃tm c bo y,s'=⟨tm,H2 qs (pre++y++post),2,2⟩/\ex=.exit 2/\ak tm 0=.aq 0 pre.length (n+1)/\ak tm 1=w/\ak tm 5=aa n/\ak tm 6=uc q/\ak tm 11=uc bo/\ak tm 12=uc c/\y.length=n+1/\lo (2^64) y/\c<2^64/\bo<=1/\
    bv (2^64) y+q*bv (2^64) vs=bv (2^64) x+(2^64)^n*(c+bo)):=by
 apply c9;rintro k s ⟨i,c,bo,y,rfl,hk,ly,gy,hc,kE,aM⟩;by_cases hi:i<n
 .left
  have er:(0:Nat)<2^64:=by decide
  have zF:=iS er gv i;have so:=iS er gy i;have ev:=hw.bk (i:=i) (by lia);have ey:=BA (l:=pre++y++post) (o:=pre.length+i) (by rw[rb];lia)
  rw[Et (by lia)] at ey;have fg:=kK (b:=2^64) (l:=vs) i;obtain⟨a,ha⟩:∃a,a=vs.getD i 0:=⟨_,rfl⟩;obtain⟨d,hd⟩:∃d,d=y.getD i 0:=⟨_,rfl⟩;rw[<-ha] at zF ev fg;rw[<-hd] at so ey;have⟨m1,m2⟩:=aop hq zF hc;have f1:=PR (P:=P) (f:=D P L) nO hq zF;have f2:=EP (P:=P) (f:=D P L) iG (x:=q*a%2^64) (y:=c) (c:=0) (xJ _ er) hc (by lia);obtain⟨oU,ahO⟩:∃t,t=(q*a%2^64+c+0)%2^64:=⟨_,rfl⟩;obtain⟨c1,eJ⟩:∃t,t=(q*a%2^64+c+0)/2^64:=⟨_,rfl⟩;have ahP:oU<2^64:=by rw[ahO];exact xJ _ er
  rw[<-ahO,<-eJ] at f2 m1;rw[<-eJ] at m2;obtain⟨h1,jg⟩:∃t,t=q*a/2^64:=⟨_,rfl⟩;rw[<-jg] at f1 m1 m2;rw[show (uc 0)=AV.int .u64 0 from rfl] at f2;have f3:=VP (P:=P) (f:=D P L) Ax so ahP kE;have mE:=UQ so ahP kE;obtain⟨z,hz⟩:∃t,t=(d+2^64*2-oU-bo)%2^64:=⟨_,rfl⟩;obtain⟨b',bJ⟩:∃t,t=(if oU+bo<=d then 0 else 1):=⟨_,rfl⟩;have ej:b'<=1:=by rw[bJ];split<;>lia
  have Iw:z<2^64:=by rw[hz];exact xJ _ er
  rw[<-hz,<-bJ] at f3 mE;have f4:binOp .add (uc h1) (uc c1)=Gp (uc (h1+c1)):=by
   rw[C7,yT m2]
  have aU:=pK (b:=2^64) (l:=y) (i:=i) (x:=z) (by lia);rw[<-hd] at aU;have aR:=fun (hp:Hp) (ct:Nat)=>mf (hp:=hp) (ct:=ct) (id:=0) (v:=z) (ex:=ydb) (l:=pre++y++post) (o:=pre.length+i) (by rw[rb];lia)
  have pR:=Pq (pre:=pre) (x:=y) (post:=post) (i:=i) z (by lia);simp only[go_sem,ya,ym,KM,H2,show (i:Int)<(n:Int) by lia,ev,f1,f2,f4,cV 0 pre.length (show i<n+1 by lia),ey,f3,aR,pR];refine⟨_,k-1,rfl,by lia,i+1,h1+c1,b',y.set i z,?_,by lia,by simp[ly],nF gy Iw,m2,ej,?_⟩
  .rw [sN (by simp only[go_sem,ya,yx,nG,oC,nC,nv,nn hw.pu,vQ]) (by simp only[go_sem,ya,yb,yx,eW hw.pu])];rw[wrap64 (by lia) (by lia)];simp only[go_sem,ya]<;>rfl
  .rw [fg,Aw];exact aoo m1 mE aM _ aU
 .right
  have:i=n:=by lia
  subst this;rw[yE (by lia)] at aM;simp only[go_sem,ya,KM,H2,show ¬(i:Int)<(i:Int) by lia];exact⟨_,_,rfl,by simp,_,c,bo,y,rfl,rfl,rfl,rfl,rfl,rfl,rfl,rfl,ly,gy,hc,kE,aM⟩
def awn(iG:L.pure 171=Gp pH){w:AV}{y0 vs pre post qs:List Nat}(hw:bQ w vs){n:Nat}(r9:n<=99999999999)(lv:vs.length=n)(gv:lo (2^64) vs){q:Nat}:
  c6 P L [0,1,5,6,17,156,157] KN (fun k s=>∃(i c:Nat) (y:List Nat),s=⟨[(0,.aq 0 pre.length (n+1)),(1,w),(5,aa n),(6,uc q),(17,uc c),(156,aa n),(157,aa i)],H2 qs (pre++y++post),2,2⟩/\i+k=n/\y.length=n+1/\lo (2^64) y/\c<=1/\
    bv (2^64) y+(2^64)^i*c=bv (2^64) y0+bv (2^64) (vs.take i)) (fun ex s'=>∃tm c y,s'=⟨tm,H2 qs (pre++y++post),2,2⟩/\ex=.exit 4/\ak tm 0=.aq 0 pre.length (n+1)/\ak tm 5=aa n/\ak tm 6=uc q/\ak tm 17=uc c/\y.length=n+1/\lo (2^64) y/\c<=1/\
    bv (2^64) y+(2^64)^n*c=bv (2^64) y0+bv (2^64) vs):=by
 apply c9;rintro k s ⟨i,c,y,rfl,hk,ly,gy,hc,aM⟩;by_cases hi:i<n
 .left
  have er:(0:Nat)<2^64:=by decide
  have zF:=iS er gv i;have so:=iS er gy i;have ev:=hw.bk (i:=i) (by lia);have ey:=BA (l:=pre++y++post) (o:=pre.length+i) (by rw[rb];lia)
  rw[Et (by lia)] at ey;have fg:=kK (b:=2^64) (l:=vs) i;obtain⟨a,ha⟩:∃a,a=vs.getD i 0:=⟨_,rfl⟩;obtain⟨d,hd⟩:∃d,d=y.getD i 0:=⟨_,rfl⟩;rw[<-ha] at zF ev fg;rw[<-hd] at so ey;have f1:=EP (P:=P) (f:=D P L) iG so zF hc;have aU:=pK (b:=2^64) (l:=y) (i:=i) (x:=(d+a+c)%2^64) (by lia);rw[<-hd] at aU;have kC:=Om ((2^64)^i) (2^64) (d+a+c);have iv:(d+a+c)/2^64<=1:=by lia
  have Iw:(d+a+c)%2^64<2^64:=xJ _ er;generalize (d+a+c)%2^64=z at*
  generalize (d+a+c)/2^64=c' at*
  have aR:=fun (hp:Hp) (ct:Nat)=>mf (hp:=hp) (ct:=ct) (id:=0) (v:=z) (ex:=ydb) (l:=pre++y++post) (o:=pre.length+i) (by rw[rb];lia)
  have pR:=Pq (pre:=pre) (x:=y) (post:=post) (i:=i) z (by lia);simp only[go_sem,ya,ym,KN,H2,show (i:Int)<(n:Int) by lia,ev,f1,cV 0 pre.length (show i<n+1 by lia),ey,aR,pR];refine⟨_,k-1,rfl,by lia,i+1,c',y.set i z,?_,by lia,by simp[ly],nF gy Iw,iv,?_⟩
  .rw [sN (by simp only[go_sem,ya,yx,nG,oC,nC,nv,nn hw.pu,vQ]) (by simp only[go_sem,ya,yb,yx,eW hw.pu])];rw[wrap64 (by lia) (by lia)];simp only[go_sem,ya]<;>rfl
  .rw [fg,Aw];rw[xK,xK] at kC
   lia
 .right
  have:i=n:=by lia
  subst this;rw[yE (by lia)] at aM;simp only[go_sem,ya,KN,H2,show ¬(i:Int)<(i:Int) by lia];exact⟨_,_,rfl,by simp,_,c,y,rfl,rfl,rfl,rfl,rfl,rfl,ly,gy,hc,aM⟩
def step_end{A V q Y B bo:Nat}(hV:0<V)(h:Y+q*V=A+B*bo)(h1:A/V<=q)(h2:q<=A/V+1)(hY:Y<B)(hVB:V<=B)(kE:bo<=1):
  (bo=0->q=A/V/\Y=A%V)/\(bo=1->q=A/V+1/\Y+V=B+A%V):=by
 have fc:=xX A V;have hm:=xJ A hV;generalize A/V=Q at*
 have hq:q=Q\/q=Q+1:=by lia
 constructor
 .rintro rfl;rcases hq with rfl | rfl
  .grind
  .grind
 .grind
structure Wd(P:aE)(L:Lib):Prop where
 nO:L.pure 143=Gp z7
 iG:L.pure 171=Gp pH
 Ax:L.pure 173=Gp CO
 Mv:L.pure 167=Gp Hn
 ahQ:Has P L 165 LV
 nN:Has P L 166 Dc
 ahR:Has P L 168 QW
 aAC:Has P L 169 Ar
 ahS:Has P L 158 HA
 aAD:Has P L 157 LU
 ahT:Has P L 159 QU
 aAE:Has P L 144 QS
 XA:Has P L 137 LR
def aC:VC->VC
 | .seq _ b=>b
 | c=>c
def awo(h:Wd P L){w:AV}{x vs pre post qs:List Nat}(hw:bQ w vs){n v1 v2 u0 u1 u2:Nat}(hl:jb x vs n v1 v2 u0 u1 u2){q:Nat}(hq:q<2^64)(gg:bv (2^64) x/bv (2^64) vs<=q)(AZ:q<=bv (2^64) x/bv (2^64) vs+1):
  ∃tm x',D P L (aC (aC (aC (aC (aC (aC Ar.body)))))) ⟨[(0,.aq 0 pre.length (n+1)),(1,w),(5,aa n),(6,uc q)],H2 qs (pre++x++post),2,2⟩=Gp (.ret,⟨tm,H2 qs (pre++x'++post),2,2⟩)/\ak tm 4=uc (bv (2^64) x/bv (2^64) vs)/\x'.length=n+1/\lo (2^64) x'/\bv (2^64) x'=bv (2^64) x%bv (2^64) vs:=by
 have dF:=hl.n2;have r9:=hl.nb;have er:(0:Nat)<2^64:=by decide
 have hV:0<bv (2^64) vs:=by
  rcases xq (bv (2^64) vs) with h0 | h0
  .have:=hl.lt;rw[h0] at this;simp at this
  .exact h0
 have A0:below 2 w:=nn hw.pu;have Nv:=nH hl.gv;rw[hl.lv] at Nv;have aGe:(2^64)^n<=(2^64)^(n+1):=xa (by decide) (by lia);have aGf:aC (aC (aC (aC (aC (aC Ar.body)))))=aC (aC (aC (aC (aC (aC Ar.body))))):=rfl;simp only[go_sem,ya,Ar,aC,H2];generalize nV:D P L (.loop _ KM) _=qq;obtain⟨ex,s,rfl,tm,c,bo,y,rfl,rfl,t0,t1,t5,t6,t11,t12,ly,gy,hc,kE,aM⟩:=bL nV (awm (P:=P) (L:=L) h.nO h.iG h.Ax hw r9 hl.lv hl.gv hq (x:=x) (pre:=pre) (post:=post) (qs:=qs) n) ⟨0,0,0,x,by
  rw[sN (by simp only[go_sem,ya,yx,nG,oC,nC,nv,A0,vQ]) (by simp only[go_sem,ya,yb,yx,eW hw.pu])]
  simp only[go_sem,ya]<;>rfl,by lia,hl.lx,hl.gx,er,by lia,by simp[bv]⟩
 have Zv:=iS er gy n;have ey:=BA (l:=pre++y++post) (o:=pre.length+n) (by rw[rb];lia)
 rw[Et (by lia)] at ey;obtain⟨d,hd⟩:∃d,d=y.getD n 0:=⟨_,rfl⟩;rw[<-hd] at Zv ey;have f3:=VP (P:=P) (f:=D P L) h.Ax Zv hc kE;have mE:=UQ Zv hc kE;obtain⟨z,hz⟩:∃t,t=(d+2^64*2-c-bo)%2^64:=⟨_,rfl⟩;obtain⟨b',bJ⟩:∃t,t=(if c+bo<=d then 0 else 1):=⟨_,rfl⟩;have ej:b'<=1:=by rw[bJ];split<;>lia
 have Iw:z<2^64:=by rw[hz];exact xJ _ er
 rw[<-hz,<-bJ] at f3 mE;have aU:=pK (b:=2^64) (l:=y) (i:=n) (x:=z) (by lia);rw[<-hd] at aU;have aR:=fun (hp:Hp) (ct:Nat)=>mf (hp:=hp) (ct:=ct) (id:=0) (v:=z) (ex:=ydb) (l:=pre++y++post) (o:=pre.length+n) (by rw[rb];lia)
 have pR:=Pq (pre:=pre) (x:=y) (post:=post) (i:=n) z (by lia);have F7:lo (2^64) (y.set n z):=nF gy Iw;have DS:(y.set n z).length=n+1:=by simp[ly]
 have hY:=nH F7;rw[DS] at hY;have aAF:bv (2^64) (y.set n z)+q*bv (2^64) vs=bv (2^64) x+(2^64)^(n+1)*b':=by
  have e2:=congrArg (fun t=>(2^64)^n*t) mE;rw[Aw,xj];simp only[xK] at e2 aM;generalize (2^64)^n*(2^64*b')=p1 at*
  generalize (2^64)^n*z=p2 at*
  generalize (2^64)^n*d=p3 at*
  generalize (2^64)^n*c=p4 at*
  generalize (2^64)^n*bo=p5 at*
  lia
 have⟨s0,s1⟩:=step_end hV aAF gg AZ hY (by lia) ej;simp only[go_sem,ya,yb,yx,ym,sN,nG,oC,nC,nv,A0,vQ,eW hw.pu,t0,t1,t5,t6,t11,t12,cV 0 pre.length (show n<n+1 by lia),ey,f3,aR,pR];by_cases nj:b'=0
 .have ⟨e1,e2⟩:=s0 nj;simp only[go_sem,ya,show (b':Int)=0 by lia];exact⟨_,y.set n z,rfl,by rw[<-e1];simp only[go_sem],DS,F7,e2⟩
 .have ⟨e1,e2⟩:=s1 (by lia);simp only[go_sem,ya,show ¬(b':Int)=0 by lia];generalize FB:D P L (.loop _ KN) _=Zu;obtain⟨ex,s,rfl,nd,c2,y2,rfl,rfl,t0,t5,t6,t17,Zw,SR,AP,ayZ⟩:=bL FB (awn (P:=P) (L:=L) h.iG hw r9 hl.lv hl.gv (y0:=y.set n z) (pre:=pre) (post:=post) (qs:=qs) (q:=q) n) ⟨0,0,y.set n z,by
   rw[sN (by simp only[go_sem,ya,yx,nG,oC,nC,nv,A0,vQ]) (by simp only[go_sem,ya,yb,yx,eW hw.pu])]
   simp only[go_sem,ya]<;>rfl,by lia,DS,F7,by lia,by simp[bv]⟩
  have aAG:=iS er SR n;have Zx:=BA (l:=pre++y2++post) (o:=pre.length+n) (by rw[rb];lia)
  rw[Et (by lia)] at Zx;obtain⟨d2,jU⟩:∃d,d=y2.getD n 0:=⟨_,rfl⟩;rw[<-jU] at aAG Zx;have f4:=C7 d2 c2;have Qp:=pK (b:=2^64) (l:=y2) (i:=n) (x:=(d2+c2)%2^64) (by lia);rw[<-jU] at Qp;have kC:=Om ((2^64)^n) (2^64) (d2+c2);have aAH:(d2+c2)%2^64<2^64:=xJ _ er;have hc3:(d2+c2)/2^64<=1:=by lia
  generalize (d2+c2)%2^64=z2 at*
  generalize (d2+c2)/2^64=c3 at*
  have RO:=fun (hp:Hp) (ct:Nat)=>mf (hp:=hp) (ct:=ct) (id:=0) (v:=z2) (ex:=ydb) (l:=pre++y2++post) (o:=pre.length+n) (by rw[rb];lia)
  have Qq:=Pq (pre:=pre) (x:=y2) (post:=post) (i:=n) z2 (by lia);have SS:lo (2^64) (y2.set n z2):=nF SR aAH;have Nw:(y2.set n z2).length=n+1:=by simp[Zw]
  have hY3:=nH SS;rw[Nw] at hY3;have zE:0<q:=by rw[e1];exact Nat.succ_pos _
  have hq3:bv (2^64) x/bv (2^64) vs=q-1:=by rw[e1,uS]
  have f5:binOp .sub (uc q) (.int .u64 1)=Gp (uc (q-1)):=FA (b:=1) (by lia) (by lia);simp only[go_sem,ya,yb,yx,ym,sN,nG,oC,nC,nv,vQ,t0,t5,t6,t17,cV 0 pre.length (show n<n+1 by lia),Zx,f4,RO,Qq,f5];refine⟨_,y2.set n z2,rfl,by rw[hq3];simp only[go_sem],Nw,SS,?_⟩;have e3:bv (2^64) (y2.set n z2)+(2^64)^(n+1)*c3=(2^64)^(n+1)+bv (2^64) x%bv (2^64) vs:=by
   rw[<-e2,<-ayZ,Aw];rw[xK] at kC;omega
  rcases (show c3=0\/c3=1 by lia) with rfl | rfl
  .omega
  .lia
def aAI(h:Wd P L){w:AV}{x vs pre post qs:List Nat}(hw:bQ w vs){n v1 v2 u0 u1 u2:Nat}(hl:jb x vs n v1 v2 u0 u1 u2):
  ∃x',iQ P L (D P L) (H2 qs (pre++x++post)) 2 169 [.aq 0 pre.length (n+1),w]=Gp (uc (bv (2^64) x/bv (2^64) vs),H2 qs (pre++x'++post),2)/\x'.length=n+1/\lo (2^64) x'/\bv (2^64) x'=bv (2^64) x%bv (2^64) vs:=by
 have dF:=hl.n2;have r9:=hl.nb;have A0:below 2 w:=nn hw.pu;have sj:(n:Int)-1=((n-1:Nat):Int):=by lia
 have fk:=hw.bk (i:=n-1) (by have:=hl.lv;lia)
 rw[hl.fj] at fk;have DT:=BA (l:=pre++x++post) (o:=pre.length+n) (by rw[rb];have:=hl.lx;lia)
 rw[Et (by have:=hl.lx;lia),hl.h0] at DT
 have DU:=BA (l:=pre++x++post) (o:=pre.length+(n-1)) (by rw[rb];have:=hl.lx;lia)
 rw[Et (by have:=hl.lx;lia),hl.h1] at DU
 have HQ:=hl.Nr;have RP:=hl.Ns;have pT:=hl.top;have kw:∃tm x',D P L Ar.body ⟨fA 0 [.aq 0 pre.length (n+1),w],H2 qs (pre++x++post),2,2⟩=Gp (.ret,⟨tm,H2 qs (pre++x'++post),2,2⟩)/\ak tm 4=uc (bv (2^64) x/bv (2^64) vs)/\x'.length=n+1/\lo (2^64) x'/\bv (2^64) x'=bv (2^64) x%bv (2^64) vs:=by
  have behind:∀(gO:Env) (q:Nat),ak gO 0=.aq 0 pre.length (n+1)->ak gO 1=w->ak gO 5=aa n->ak gO 6=uc q->q<2^64->bv (2^64) x/bv (2^64) vs<=q->q<=bv (2^64) x/bv (2^64) vs+1->
    ∃tm x',rA P L (rA P L (By 0 (Gp (Ex.exit 0,⟨gO,H2 qs (pre++x++post),2,2⟩))) (.kp [0,1,5,6])) (aC (aC (aC (aC (aC (aC Ar.body))))))=Gp (.ret,⟨tm,H2 qs (pre++x'++post),2,2⟩)/\ak tm 4=uc (bv (2^64) x/bv (2^64) vs)/\x'.length=n+1/\lo (2^64) x'/\bv (2^64) x'=bv (2^64) x%bv (2^64) vs:=by
   intro gO q t0 t1 t5 t6 g1 g2 g3;have hk:bc gO [0,1,5,6]=[(0,.aq 0 pre.length (n+1)),(1,w),(5,aa n),(6,uc q)]:=by simp only[go_sem,t0,t1,t5,t6]
   rw[aei,jk,ahB,sN (by rw[hk];simp only[go_sem,yx,nG,oC,nC,nv,A0,vQ]) (by rw[hk];simp only[go_sem,yb,yx,eW hw.pu]),jk,hk];exact awo h hw hl g1 g2 g3
  by_cases hc:u0<v1
  .have f1:=ahL h.ahQ h.Mv (P:=P) (L:=L) hc RP HQ;have fc:=xX (u0*2^64+u1) v1;have oL:=xJ (u0*2^64+u1) hl.pos;have qG:(u0*2^64+u1)/v1<2^64:=by
    refine (xE hl.pos).2 ?_
    have:=yO (2^64) (show u0+1<=v1 from hc)
    rw[xt (2^64) v1]
    lia
   have PS:=hl.first;rw[xt] at fc;generalize (u0*2^64+u1)/v1=q0 at*
   generalize (u0*2^64+u1)%v1=r0 at*
   simp only[go_sem,ya,ym,Ar,H2,hw.len,hl.lv,sj,wrapN (n:=n-1) (by lia),fk,cV 0 pre.length (show n<n+1 by lia),cV 0 pre.length (show n-1<n+1 by lia),DT,DU,show ¬(v1:Int)<=(u0:Int) by lia,f1];generalize nV:D P L (.loop _ Bs) _=qq;obtain⟨ex,s,rfl,gO,q,rfl,rfl,t0,t1,t5,t6,g1,g2,g3⟩:=bL nV (afa (P:=P) (L:=L) h.nO h.iG hw hl (pre:=pre) (post:=post) (qs:=qs) q0) ⟨q0,r0,by
    rw[sN (by simp only[go_sem,ya,yx,nG,oC,nC,nv,A0,vQ]) (by simp only[go_sem,ya,yb,yx,eW hw.pu])];rw[yT (show r0<2^64 by lia),wb (show r0<2^64 by lia)]
    simp only[go_sem,ya]<;>rfl,fc,by lia,qG,PS,rfl⟩
   exact behind gO q t0 t1 t5 t6 g1 g2 g3
  .have qB:u0=v1:=by lia
   have f1:=EP (P:=P) (f:=D P L) h.iG RP HQ (c:=0) (by lia);rw[yX,show (uc 0)=AV.int .u64 0 from rfl] at f1;have RQ:=hl.digit
   simp only[go_sem,ya,ym,Ar,H2,hw.len,hl.lv,sj,wrapN (n:=n-1) (by lia),fk,cV 0 pre.length (show n<n+1 by lia),cV 0 pre.length (show n-1<n+1 by lia),DT,DU,show (v1:Int)<=(u0:Int) by lia,f1];generalize nV:D P L (.loop _ Bs) _=qq;obtain⟨ex,s,rfl,gO,q,rfl,rfl,t0,t1,t5,t6,g1,g2,g3⟩:=bL nV (afa (P:=P) (L:=L) h.nO h.iG hw hl (pre:=pre) (post:=post) (qs:=qs) 18446744073709551615) ⟨18446744073709551615,u1+v1,by
    rw[sN (by simp only[go_sem,ya,yx,nG,oC,nC,nv,A0,vQ]) (by simp only[go_sem,ya,yb,yx,eW hw.pu])]
    simp only[go_sem,ya]<;>rfl,by rw[qB];lia,by lia,by decide,by lia,rfl⟩
   exact behind gO q t0 t1 t5 t6 g1 g2 g3
 have⟨tm,x',g1,g2,g3,g4,g5⟩:=kw;refine⟨x',?_,g3,g4,g5⟩;exact GN h.aAC g1 (.inr rfl) (by show jA _ [RV.t 4]=_;rw[Xs,Wx,g2])
def WN(v:AV)(m:Nat):Prop:=∃l,bQ v l/\lo (2^64) l/\iJ l/\bv (2^64) l=m
def aqw(i:Nat)(q:List Nat)(x:Nat):(yz (i+1) 0++q).set i x=yz i 0++x::q:=by
 rw[List.replicate_succ',xD]
 simp_all
def Pr{b:Nat}{l:List Nat}{i:Nat}(h:i<l.length):bv b (l.drop i)=l.getD i 0+b*bv b (l.drop (i+1)):=by
 rw[yR h,gd h];rfl
def VR{v w:AV}{x y:List Nat}(hv:bQ v x)(hw:bQ w y)(hp:Hp):result hp (.av [v,w])=Gp (.av [v,w]):=by
 rcases hv with ⟨rfl,_⟩ | ⟨e,rfl⟩<;>rcases hw with ⟨rfl,_⟩ | ⟨e',rfl⟩<;>rfl
def asV{hp:Hp}{id n l h:Nat}{pu ex:Bool}{cs:List AV}{tm:Env}{x y:X}(hg:ai hp id=Gp (.cells ydb pu ex 1 cs))(hx:cU tm 0 (Gp x)=Gp l)(hy:cU tm n (Gp y)=Gp h)(h1:l<h)(h2:h<=n):
  fC hp (.sl 1) (.aq id 0 n) tm (Gp x) (Gp y)=Gp (.aq id l (h-l)):=by
 simp only[fC,hg,hx,hy,yv (uM h1),yv h2,wQ,vn,yu,gU (Nat.ne_of_lt h1),wK,yP,yd,ym]
def adl{hp:Hp}{id n h:Nat}{pu ex:Bool}{cs:List AV}{tm:Env}{y:X}(hg:ai hp id=Gp (.cells ydb pu ex 1 cs))(hy:cU tm n (Gp y)=Gp h)(h1:0<h)(h2:h<=n):
  fC hp (.sl 1) (.aq id 0 n) tm Gq (Gp y)=Gp (.aq id 0 h):=by
 have hx:cU tm 0 Gq=Gp 0:=rfl;simp only[fC,hg,hx,hy,yv (tk h),yv h2,wQ,vn,yu,gU (show (0:Nat)≠h by lia),wK,yP,wC,yX,ycx]
def agI(P:aE)(L:Lib)(f:cx)(hp:Hp)(ct n:Nat)(xs:List AV):eL P L f hp ct .heap (.fn (.f n) [] []) xs=iQ P L f hp ct n xs:=by
 simp only[eL,yy,xU]
def awp(h:Wd P L){v w:AV}{x:List Nat}(hv:bQ v x)(hx:lo (2^64) x)(lx:x.length<=99999999999){d:Nat}(hw:bQ w [d])(iK:0<d)(Zy:d<2^64){n:Nat}(hn:n=x.length):
  c6 P L [0,1,6,7,8] KI (fun k s=>∃(i r:Nat) (q:List Nat),s=⟨[(0,v),(1,w),(6,.aq 0 0 n),(7,uc r),(8,aa ((i:Int)-1))],[(0,.cells ydb ydb ydb 1 ((yz i 0++q).map uc))],1,0⟩/\i=k/\i+q.length=n/\lo (2^64) q/\r<d/\bv (2^64) (x.drop i)=bv (2^64) q*d+r) (fun ex s'=>∃tm r q,s'=⟨tm,[(0,.cells ydb ydb ydb 1 (q.map uc))],1,0⟩/\ex=.exit 0/\ak tm 6=.aq 0 0 n/\ak tm 7=uc r/\q.length=n/\lo (2^64) q/\r<d/\bv (2^64) x=bv (2^64) q*d+r):=by
 apply c9;rintro k s ⟨i,r,q,rfl,rfl,hlen,bh,hr,aM⟩
 cases i with
 | zero=>
  right
  simp only[go_sem,ya,KI,show ¬(0:Int)<=((0:Nat):Int)-1 by lia];exact⟨_,_,rfl,by simp,_,r,q,rfl,rfl,rfl,rfl,by lia,bh,hr,by simpa using aM⟩
 | succ i=>
  left
  have gx:=iS (show 0<2^64 by decide) hx i;have e1:=hv.bk (i:=i) (by lia);have e2:=hw.bk (i:=0) (by simp);have kD:=Pr (b:=2^64) (l:=x) (i:=i) (by lia);rw[show ([d]:List Nat).getD 0 0=d from rfl] at e2;generalize x.getD i 0=a at*
  have e3:=ahL (P:=P) (L:=L) h.ahQ h.Mv hr gx Zy;have fc:=xX (r*2^64+a) d;have oL:=xJ (r*2^64+a) iK;have qG:(r*2^64+a)/d<2^64:=by
   refine (xE iK).2 ?_
   lia
  generalize (r*2^64+a)/d=q1 at*
  generalize (r*2^64+a)%d=r1 at*
  have aR:=fun (hp:Hp) (ct:Nat)=>mf (hp:=hp) (ct:=ct) (id:=0) (v:=q1) (ex:=ydb) (l:=yz (i+1) 0++q) (o:=i) (by simp;lia)
  simp only[go_sem,ya,ym,KI,show ((i+1:Nat):Int)-1=(i:Int) by lia,show (0:Int)<=(i:Int) by lia,e1,e2,e3,cV 0 0 (show i<n by lia),yd,aR,aqw];refine⟨_,i,rfl,by lia,i,r1,q1::q,?_,rfl,by simp;lia,OD.2 ⟨He.2 qG,bh⟩,oL,?_⟩
  .rw [wrap64 (by lia) (by lia)];simp only[go_sem,ya,yb,ax,aG hv.pu,aG hw.pu]<;>rfl
  .rw [kD,aM];simp only[bv];rw[xR,xK,<-xj (2^64)];rw[xt d q1] at fc
   lia
def aoq{s u u1:Nat}(hs:s<64)(hu:u<2^64):u/2^s<2^64/\(0<s->u/2^s|||(u1*2^(64-s)%2^64)<2^64)/\
  (if 0<s then (u/2^s|||(u1*2^(64-s)%2^64)) else u/2^s)*2^s+u%2^s=u+2^64*(u1%2^s):=by
 have e:2^64=2^s*2^(64-s):=by rw[<-xH,show s+(64-s)=64 by lia]
 have h1:u1*2^(64-s)%2^64=(u1%2^s)*2^(64-s):=by rw[e,uv]
 have hp:=xm s;have h2:u/2^s<2^(64-s):=by
  refine (xE hp).2 ?_
  grind
 have h3:u/2^s|||(u1*2^(64-s)%2^64)=(u1%2^s)*2^(64-s)+u/2^s:=by rw[h1,ycM,VQ h2]
 have h4:(u1%2^s)*2^(64-s)+u/2^s<2^64:=by
  have:=yO (2^(64-s)) (show u1%2^s+1<=2^s from xJ _ hp)
  grind
 have h5:=uk u (2^s)
 grind
def awq{us qs:List Nat}{n la m s:Nat}(hs:s<64)(lu:us.length=la)(gu:lo (2^64) us)(hn:n<la)(Nx:la<=100000000000):
  c6 P L [9,11,12,13,96,97] GZ (fun k st=>∃(i:Nat) (rs:List Nat),st=⟨[(9,aa s),(11,.aq 0 0 la),(12,aa n),(13,.aq 1 0 m),(96,aa n),(97,aa i)],H2 qs (rs++us.drop i),2,0⟩/\i+k=n/\rs.length=i/\lo (2^64) rs/\bv (2^64) rs*2^s+us.getD 0 0%2^s=bv (2^64) (us.take i)+(2^64)^i*(us.getD i 0%2^s)) (fun ex st'=>∃tm rs,st'=⟨tm,H2 qs (rs++us.drop n),2,0⟩/\ex=.exit 4/\ak tm 11=.aq 0 0 la/\ak tm 12=aa n/\ak tm 13=.aq 1 0 m/\rs.length=n/\lo (2^64) rs/\bv (2^64) rs*2^s+us.getD 0 0%2^s=bv (2^64) (us.take n)+(2^64)^n*(us.getD n 0%2^s)):=by
 apply c9;rintro k st ⟨i,rs,rfl,hk,lr,gr,aM⟩;by_cases hi:i<n
 .left
  have er:(0:Nat)<2^64:=by decide
  have g0:=iS er gu i;have g1:=iS er gu (i+1);have d0:us.drop i=us.getD i 0::us.getD (i+1) 0::us.drop (i+2):=by
   rw[yR (show i<us.length by lia),yR (show i+1<us.length by lia),gd,gd]
  have fg:=kK (b:=2^64) (l:=us) i;have kv:∀r,r<2^64->r*2^s+us.getD i 0%2^s=us.getD i 0+2^64*(us.getD (i+1) 0%2^s)->lo (2^64) (rs++[r])/\bv (2^64) (rs++[r])*2^s+us.getD 0 0%2^s=bv (2^64) (us.take (i+1))+(2^64)^(i+1)*(us.getD (i+1) 0%2^s):=fun r h1 h2=>by
   refine⟨OD.2 ⟨gr,He.2 h1⟩,?_⟩;rw[zT,CT,lr,fg,xR,Aw,xj,xj];have e2:=congrArg (fun t=>(2^64)^i*t) h2;simp only[xK] at e2;generalize (2^64)^i*(r*2^s)=p1 at*
   generalize (2^64)^i*(us.getD i 0%2^s)=p2 at*
   generalize (2^64)^i*us.getD i 0=p3 at*
   generalize (2^64)^i*(2^64*(us.getD (i+1) 0%2^s))=p4 at*
   lia
  have XB:us.drop (i+1)=us.getD (i+1) 0::us.drop (i+2):=by
   rw[yR (show i+1<us.length by lia),gd]
  generalize us.getD i 0=a at*
  obtain⟨c,hc⟩:∃c,c=us.getD (i+1) 0:=⟨_,rfl⟩;rw[<-hc] at g1 d0 XB kv;generalize us.drop (i+2)=dr at*
  rw[d0];have⟨n1,n2,n3⟩:=aoq (u1:=c) hs g0;have o1:=Mu .i64 a (s:=s) (by lia);have o2:=Mt .i64 c (s:=64-s) (by lia);have o3:binOp .sub (.int .i64 64) (aa s)=Gp (aa (64-s:Nat)):=by
   rw[Ph,wrap64 (by lia) (by lia)];congr 2;lia
  have o4:=Zq n1 (xJ (c*2^(64-s)) er);have sa:∀z y,(rs++z::y).set i a=rs++a::y:=fun z y=>by rw[yaO _ _ (by lia),lr];simp
  have e0:∀z y,um i ((rs++z::y).map uc)=uc z::y.map uc:=fun z y=>by
   rw[xg,tq (by simp[lr])];rfl
  have e1:∀z y u,um (i+1) ((rs++z::y::u).map uc)=uc y::u.map uc:=fun z y u=>by
   rw[show rs++z::y::u=(rs++[z])++y::u by simp,xg,tq (by simp[lr])];rfl
  have DJ:∀(hp:Hp) (ct x z:Nat) (y:List Nat),gD hp ct 0 i 1 [.int .u64 (x:Int)] (Gp (.cells ydb ydb ydb 1 ((rs++z::y).map uc)))=Gp (.av [],aU hp 0 (.cells ydb ydb ydb 1 ((rs++x::y).map uc)),ct):=fun hp ct x z y=>by
   rw[mf (by simp;lia),yaO _ _ (by lia),lr];simp
  by_cases h0:0<s
  .rw [yC h0] at n3;have⟨f1,f2⟩:=kv _ (n2 h0) n3;generalize a/2^s=a1 at*
   generalize a1|||(c*2^(64-s)%2^64)=r at*
   simp only[go_sem,ya,ym,GZ,H2,show (i:Int)<(n:Int) by lia,cV 0 0 (show i<la by lia),yd,e0,o1,DJ,show (0:Int)<(s:Int) by lia,show (i:Int)+1=((i+1:Nat):Int) from rfl,wrapN (n:=i+1) (by lia),show ((i+1:Nat):Int)<(la:Int) by lia,cV 0 0 (show i+1<la by lia),e1,o3,o2,o4];refine⟨_,k-1,rfl,by lia,i+1,rs++[r],by simp only[go_sem,ya,yb,ax];rw[XB];simp,by lia,by simp[lr],f1,by rw[<-hc];exact f2⟩
  .rw [yr h0] at n3;have⟨f1,f2⟩:=kv _ n1 n3;generalize a/2^s=a1 at*
   simp only[go_sem,ya,ym,GZ,H2,show (i:Int)<(n:Int) by lia,cV 0 0 (show i<la by lia),yd,e0,o1,DJ,show ¬(0:Int)<(s:Int) by lia,show (i:Int)+1=((i+1:Nat):Int) from rfl,wrapN (n:=i+1) (by lia)];refine⟨_,k-1,rfl,by lia,i+1,rs++[a1],by simp only[go_sem,ya,yb,ax];rw[XB];simp,by lia,by simp[lr],f1,by rw[<-hc];exact f2⟩
 .right
  have:i=n:=by lia
  subst this;simp only[go_sem,ya,GZ,H2,show ¬(i:Int)<(i:Int) by lia];exact⟨_,_,rfl,by simp,_,rs,rfl,rfl,rfl,rfl,rfl,lr,gr,aM⟩
section
variable {v w:AV}{l x:List Nat}
def aci{b p A V bu bq0 U0 pre:Nat}(h1:bu=pre+p*A)(h2:bu+bq0*V=U0):(pre+p*(A%V))+(bq0+p*(A/V))*V=U0:=by
 have fc:=xX A V
 grind
def ay0(hp:Hp)(ct:Nat)(ex:Bool)(sz n:Nat)(cs:List AV):own hp ct (.cF ex sz n cs)=(.aq ct 0 n,(ct,.cells ydb ydb ex sz cs)::hp,ct+1):=rfl
def awr(h:Wd P L){vs:List Nat}(hw:bQ w vs)(gv:lo (2^64) vs){n la m:Nat}(lv:vs.length=n)(dF:2<=n)(M4:n<=la)(Nx:la<=99999999999)(hm:m=la-n+1)(fj:0<vs.getD (n-1) 0){s U0:Nat}:
  c6 P L [9,10,11,12,13,14] KJ (fun k st=>∃(j:Nat) (us qs:List Nat),st=⟨[(9,aa s),(10,w),(11,.aq 0 0 (la+1)),(12,aa n),(13,.aq 1 0 m),(14,aa ((j:Int)-1))],H2 qs us,2,0⟩/\j=k/\j<=m/\us.length=la+1/\qs.length=m/\lo (2^64) us/\lo (2^64) qs/\(∀i,i<j->qs.getD i 0=0)/\
    bv (2^64) us+bv (2^64) qs*bv (2^64) vs=U0/\bv (2^64) (us.drop j)<bv (2^64) vs) (fun ex st'=>∃tm us qs,st'=⟨tm,H2 qs us,2,0⟩/\ex=.exit 2/\ak tm 9=aa s/\ak tm 11=.aq 0 0 (la+1)/\ak tm 12=aa n/\ak tm 13=.aq 1 0 m/\us.length=la+1/\qs.length=m/\lo (2^64) us/\lo (2^64) qs/\
    bv (2^64) us+bv (2^64) qs*bv (2^64) vs=U0/\bv (2^64) us<bv (2^64) vs):=by
 apply c9;rintro k st ⟨j,us,qs,rfl,rfl,hj,lu,lq,gu,gq,hz,aM,pT⟩
 cases j with
 | zero=>
  right
  simp only[go_sem,ya,KJ,H2,show ¬(0:Int)<=((0:Nat):Int)-1 by lia];exact⟨_,_,rfl,by simp,_,us,qs,rfl,rfl,rfl,rfl,rfl,rfl,lu,lq,gu,gq,aM,by simpa using pT⟩
 | succ j=>
  left
  have er:(0:Nat)<2^64:=by decide
  obtain⟨pre,eS⟩:∃p,p=us.take j:=⟨_,rfl⟩;obtain⟨x,hx⟩:∃p,p=(us.drop j).take (n+1):=⟨_,rfl⟩;obtain⟨post,fU⟩:∃p,p=us.drop (j+(n+1)):=⟨_,rfl⟩;have lp:pre.length=j:=by rw[eS,yQ];lia
  have lx:x.length=n+1:=by rw[hx,yQ,we];lia
  have lI:us=pre++x++post:=by
   rw[eS,hx,fU,<-vM,xD,wj,wj]
  have gx:lo (2^64) x:=by rw[hx];exact CH (aef gu _) _
  have XC:lo (2^64) pre:=by rw[eS];exact CH gu _
  have ay1:lo (2^64) post:=by rw[fU];exact aef gu _
  have hA:bv (2^64) (us.drop j)=us.getD j 0+2^64*bv (2^64) (us.drop (j+1)):=Pr (by lia);have hgj:=iS er gu j;have Zz:us.drop j=x++post:=by rw[fU,hx,<-vM,wj]
  have Cg:bv (2^64) (us.drop j)=bv (2^64) x+(2^64)^(n+1)*bv (2^64) post:=by rw[Zz,zT,lx]
  have Nv:=nH gv;rw[lv] at Nv;have aH:bv (2^64) (us.drop j)<2^64*bv (2^64) vs:=by lia
  have hp0:bv (2^64) post=0:=by
   rcases xq (bv (2^64) post) with e | e
   .exact e
   .have h1:=yV ((2^64)^(n+1)) e;rw[ym,Aw] at h1;rw[Aw] at Cg
    lia
  rw[hp0,xG,yX] at Cg;have hl:jb x vs n (vs.getD (n-1) 0) (vs.getD (n-2) 0) (x.getD n 0) (x.getD (n-1) 0) (x.getD (n-2) 0):=
   ⟨dF,by lia,lx,lv,gx,gv,rfl,rfl,rfl,rfl,rfl,fj,by rw[<-Cg];exact aH⟩
  have RQ:=hl.digit;have⟨x',e1,ZA,SU,Ny⟩:=aAI h hw hl (pre:=pre) (post:=post) (qs:=qs);rw[lp,<-lI] at e1;have ZB:bv (2^64) us=bv (2^64) pre+(2^64)^j*bv (2^64) x:=by
   have:=Kb (b:=2^64) us j (by lia)
   rw[Cg,<-eS] at this;exact this
  have XD:bv (2^64) (pre++x'++post)=bv (2^64) pre+(2^64)^j*bv (2^64) x':=by
   rw[xD,zT,zT,hp0,xG,yX,lp]
  have aU:=pK (b:=2^64) (l:=qs) (i:=j) (x:=bv (2^64) x/bv (2^64) vs) (by lia);rw[hz j (by lia),xG,yX] at aU;have kv:=aci (b:=0) ZB aM;have aR:=fun (hp:Hp) (ct:Nat)=>mf (hp:=hp) (ct:=ct) (id:=1) (v:=bv (2^64) x/bv (2^64) vs) (ex:=ydb) (l:=qs) (o:=j) (by lia)
  have zD:0<bv (2^64) vs:=by lia
  have oL:=xJ (bv (2^64) x) zD;have lO:∀tm (x y:X),cU tm 0 (Gp x)=Gp j->cU tm (la+1) (Gp y)=Gp (j+n+1)->fC (H2 qs us) (.sl 1) (.aq 0 0 (la+1)) tm (Gp x) (Gp y)=Gp (.aq 0 j (n+1)):=fun tm x y h1 h2=>by
   rw[asV (cs:=us.map uc) (pu:=ydb) (ex:=ydb) rfl h1 h2 (by lia) (by lia),show j+n+1-j=n+1 by lia]
  simp only[go_sem,ya,ym,KJ,H2,show ((j+1:Nat):Int)-1=(j:Int) by lia,show (0:Int)<=(j:Int) by lia,show (j:Int)+(n:Int)=((j+n:Nat):Int) from rfl,wrapN (n:=j+n) (by lia),show ((j+n:Nat):Int)+1=((j+n+1:Nat):Int) from rfl,wrapN (n:=j+n+1) (by lia),lO,dT,agI,e1,cV 1 0 (show j<m by lia),yd,aR];refine⟨_,j,rfl,by lia,j,pre++x'++post,qs.set j (bv (2^64) x/bv (2^64) vs),?_,rfl,by lia,by rw[rb,lp,ZA,fU,we];lia,by simp[lq],OD.2 ⟨OD.2 ⟨XC,SU⟩,ay1⟩,nF gq RQ,fun i hi=>by rw[q9 (by lia)];exact hz i (by lia),?_,?_⟩
  .rw [wrap64 (by lia) (by lia)];simp only[go_sem,ya,yb,ax,aG hw.pu]<;>rfl
  .rw [XD,Ny,aU];exact kv
  .rw [xD,tq lp,zT,hp0,xG,yX,Ny];exact oL
def ay2{n:Nat}(h:l.length=n+1):(2^64)^n*l.getD n 0<=bv (2^64) l:=by
 have:=kK (b:=2^64) (l:=l) n
 grind
def pV{m K:Nat}(hn:iJ l)(hv:bv (2^64) l=m)(h:m<(2^64)^K):l.length<=K:=anL (b:=2^64) (by decide) hn (by rw[hv];exact h)
def aws(h:Wd P L){d:Nat}(hv:bQ v x)(hw:bQ w [d])(gx:lo (2^64) x)(lx:x.length<=90000000000)(iK:0<d)(Zy:d<2^64)(ec:ab P L 158 [v,w] (aa (dY (bv (2^64) x) d)))(hc:d<=bv (2^64) x):
  ∃q r,ab P L 137 [v,w] (.av [q,r])/\WN q (bv (2^64) x/d)/\WN r (bv (2^64) x%d):=by
 have eJ:¬dY (bv (2^64) x) d<0:=by unfold dY;rw[yr (by lia)];split<;>decide
 obtain⟨n,hn⟩:∃n,n=x.length:=⟨_,rfl⟩;have main:∃r l,(∀c:Nat->AV->AV->Option AV,True)/\r<d/\l.length=n/\lo (2^64) l/\bv (2^64) x=bv (2^64) l*d+r/\
   ∃q1 r1,bQ q1 (ew l)/\bQ r1 (ew [r])/\ab P L 137 [v,w] (.av [q1,r1]):=by
  unfold ab;rw[aD h.XA]
  simp only[go_sem,ya,LR,hv.len,hv.aj,hw.len,hw.aj,ec,eJ,yF,yN,yd,show ((1:Nat):Int)=(1:Int) from rfl,<-hn,Fz (n:=n) _ (by lia)];generalize hq:D P L (.loop _ KI) _=q;obtain⟨ex,s,rfl,tm,r,l,rfl,rfl,t6,t7,AO,bh,hr,aM⟩:=bL hq (awp (P:=P) (L:=L) h hv gx (by lia) hw iK Zy hn n) ⟨n,0,[],by
   rw[wrap64 (by lia) (by lia),xU]
   simp only[go_sem,ya,yb,ax,aG hv.pu,aG hw.pu]<;>rfl,rfl,rfl,PM,iK,by rw[xd (by lia)];simp[bv]⟩
  have hf:=oe ydb l;rw[AO] at hf;have⟨q1,e1,gg⟩:=Dm h.nN hf (by lia);have⟨r1,e2,dV⟩:=Dm h.nN (oe ydb [r]) (by simp);simp only[yF,yN,yd,xb,List.map_nil] at e2;refine⟨r,l,fun _=>trivial,hr,AO,bh,aM,q1,r1,gg,dV,?_⟩
  simp only[go_sem,ya,yb,yx,yi,ym,ax,t6,t7,Dl _ (n:=n) (l:=l) AO ydb,e1,gg.shut,e2,dV.shut];exact VR gg dV _
 have⟨r,l,_,hr,AO,bh,aM,q1,r1,gg,dV,e⟩:=main;have hq:bv (2^64) l=bv (2^64) x/d:=by
  rw[aM,xt,tX iK,wb hr,yX]
 have hm:r=bv (2^64) x%d:=by
  rw[aM,xt,tY,yT hr]
 exact⟨q1,r1,e,⟨_,gg,CB bh,CA _,by rw[Cz,hq]⟩,⟨_,dV,CB (He.2 (by lia)),CA _,by rw[Cz,CT,hm]⟩⟩
def awt(h:Wd P L){y:List Nat}(hv:bQ v x)(hw:bQ w y)(gx:lo (2^64) x)(gy:lo (2^64) y)(nx:iJ x)(ny:iJ y)(lx:x.length<=90000000000)(ly:2<=y.length)(ec:ab P L 158 [v,w] (aa (dY (bv (2^64) x) (bv (2^64) y))))(hc:bv (2^64) y<=bv (2^64) x):
  ∃q r,ab P L 137 [v,w] (.av [q,r])/\WN q (bv (2^64) x/bv (2^64) y)/\WN r (bv (2^64) x%bv (2^64) y):=by
 have er:(0:Nat)<2^64:=by decide
 have eJ:¬dY (bv (2^64) x) (bv (2^64) y)<0:=by unfold dY;rw[yr (by lia)];split<;>decide
 have hyx:y.length<=x.length:=by
  by_cases hh:x.length<y.length
  .have:=Pg (b:=2^64) (by decide) gx ny hh;lia
  .lia
 obtain⟨n,hn⟩:∃n,n=y.length:=⟨_,rfl⟩;obtain⟨la,Nx⟩:∃la,la=x.length:=⟨_,rfl⟩;have rD:=OT ny (fun e=>by subst e;simp at ly);have F8:=iS er gy (y.length-1);have ZC:=hw.bk (i:=y.length-1) (by lia);have ll:=ay2 (l:=y) (n:=n-1) (by lia);rw[<-hn] at rD F8 ZC;obtain⟨top,pT⟩:∃top,y.getD (n-1) 0=top:=⟨_,rfl⟩;rw[pT] at rD F8 ZC ll;have elz:=ae8 (P:=P) (f:=D P L) h.Mv F8;have⟨z1,z2,z3⟩:=UR (th rD) F8;generalize 64-eU 64 top=s at*
 have⟨ov,ev,lov,gov,vov⟩:=ahM h.ahR hw gy (by lia) z1;have⟨ou,eu,lou,gou,vou⟩:=ahM h.ahR hv gx (by lia) z1;have⟨v',ZD,eK⟩:=Dm h.nN (oe ydb ov) (by lia);rw[lov,<-hn] at ZD;rw[<-hn] at ev;rw[<-Nx] at eu lou;have kC:=xm s;obtain⟨vs,B3⟩:∃vs,vs=ew ov:=⟨_,rfl⟩;rw[<-B3] at eK;have F9:lo (2^64) vs:=by rw[B3];exact CB gov
 have Nz:iJ vs:=by rw[B3];exact CA _
 have A1:bv (2^64) vs=bv (2^64) y*2^s:=by rw[B3,Cz,vov]
 have hyW:bv (2^64) y*2^s<(2^64)^n:=by
  have e:2^64=2^(64-s)*2^s:=by rw[<-xH,show 64-s+s=64 by lia]
  have e1:=kK (b:=2^64) (l:=y) (n-1);rw[show n-1+1=n by lia,yE (by lia),pT] at e1;have e2:=nH (CH gy (n-1));rw[yQ,xB (by lia)] at e2;have e3:top<2^(64-s):=uT (a:=2^s) (Nat.lt_of_lt_of_eq z3 e);have e4:=yO (2^s) (show top+1<=2^(64-s) from e3);rw[<-e] at e4;have e5:bv (2^64) y<(2^64)^(n-1)*(top+1):=by rw[xK,ym];lia
  have e6:=wg e5 kC;rw[xj] at e6;have e7:=yV ((2^64)^(n-1)) e4;rw[<-Aw,show n-1+1=n by lia] at e7;exact yG e6 e7
 have aAJ:(2^64)^(n-1)*2^s<=bv (2^64) vs:=by
  rw[A1];refine yO _ (xo ?_ ll)
  have:=yV ((2^64)^(n-1)) (show 1<=top by lia)
  lia
 have Ch:vs.length=n:=by
  have h1:vs.length<=n:=by
   refine pV Nz A1 ?_;exact hyW
  have h2:¬vs.length<n:=fun hh=>by
   have e1:=nH F9;have e2:(2^64)^vs.length<=(2^64)^(n-1):=xa er (by lia);have e3:=yO (2^s) ll;rw[xj,<-A1] at e3;have e4:=yV ((2^64)^(n-1)) (show 1<=top*2^s by lia)
   lia
  lia
 have fj:0<vs.getD (n-1) 0:=by
  have:=OT Nz (fun e=>by rw[e] at Ch;simp at Ch;lia)
  rw[Ch] at this;exact th this
 obtain⟨m,hm⟩:∃m,m=la-n+1:=⟨_,rfl⟩;have WA:bv (2^64) (ou.drop m)<bv (2^64) vs:=by
  have e1:=Kb (b:=2^64) ou m (by lia);have e2:=nH gx;rw[<-Nx] at e2;have e3:=wg e2 kC;rw[<-vou] at e3;have e4:(2^64)^la=(2^64)^m*(2^64)^(n-1):=by rw[<-xH];congr 1;lia
  rw[e4,xj] at e3;have e5:(2^64)^m*bv (2^64) (ou.drop m)<(2^64)^m*((2^64)^(n-1)*2^s):=by lia
  exact yG (Nat.lt_of_mul_lt_mul_left e5) aAJ
 have e1y:(y.length:Int)-1=((n-1:Nat):Int):=by lia
 have aAK:((la:Nat):Int)-(n:Int)=((m-1:Nat):Int):=by lia
 have kw:∃tm us qs rs,(us.length=la+1/\qs.length=m/\lo (2^64) us/\lo (2^64) qs/\bv (2^64) us+bv (2^64) qs*bv (2^64) vs=bv (2^64) x*2^s/\bv (2^64) us<bv (2^64) vs/\
   rs.length=n/\lo (2^64) rs/\bv (2^64) rs*2^s+us.getD 0 0%2^s=bv (2^64) (us.take n)+(2^64)^n*(us.getD n 0%2^s))/\ak tm 0=v/\
   ∃q1 r1,bQ q1 (ew qs)/\bQ r1 (ew rs)/\ab P L 137 [v,w] (.av [q1,r1]):=by
  unfold ab at ec ev eu ZD;unfold ab;rw[aD h.XA];have hfo:=Dl (n:=n+1) (l:=ov) (hp:=[]) (by lia) ydb
  simp only[go_sem,ya,yb,LR,hv.len,hv.aj,hw.len,hw.aj,ec,eJ,show ¬(y.length:Int)=1 by lia,e1y,wrapN (n:=n-1) (by lia),ZC,elz,ev,ay0,Dl _ (n:=n+1) (l:=ov) (by lia) ydb,ZD,eK.len,eK.shut,eu,Ch,<-Nx,aAK,wrapN (n:=m-1) (by lia),show ((m-1:Nat):Int)+1=(m:Int) by lia,wrapN (n:=m) (by lia),Fz (n:=m) _ (by lia)];generalize nV:D P L (.loop _ KJ) _=qq;obtain⟨ex,st,rfl,tm,us,qs,rfl,rfl,t9,t11,t12,t13,SV,SW,Iy,ZE,aM,aH⟩:=bL nV (awr (P:=P) (L:=L) h eK F9 Ch (by lia) (by lia) (by lia) hm fj (s:=s) (U0:=bv (2^64) x*2^s) m) ⟨m,ou,yz m 0,by
   rw[show ((m-1:Nat):Int)=(m:Int)-1 by lia]
   simp only[go_sem,ya,yb,ax,aG eK.pu]<;>rfl,rfl,yp _,lou,by simp,gou,Hf er m,fun i _=>Es m i,by rw[Hg,wC,yX,vou],WA⟩
  simp only[go_sem,ya,yb,ax,t9,t11,t12,t13];generalize FB:D P L (.loop _ GZ) _=Zu;obtain⟨ex,st,rfl,nd,rs,rfl,rfl,t11,t12,t13,ZF,ZG,RR⟩:=bL FB (awq (P:=P) (L:=L) (qs:=qs) (m:=m) (la:=la+1) (n:=n) z1 SV Iy (by lia) (by lia) n) ⟨0,[],by simp only[go_sem,ya,yb,ax]<;>rfl,by lia,rfl,PM,by simp[bv]⟩
  have lO:∀(hp:Hp) tm (y:X),ai hp 0=Gp (.cells ydb ydb ydb 1 ((rs++us.drop n).map uc))->cU tm (la+1) (Gp y)=Gp n->fC hp (.sl 1) (.aq 0 0 (la+1)) tm Gq (Gp y)=Gp (.aq 0 0 n):=fun hp tm y h1 h2=>adl h1 h2 (by lia) (by lia)
  have NA:=oe ydb qs;rw[SW] at NA;have⟨q1,f1,gg⟩:=Dm h.nN NA (by lia);have fg:(rs++us.drop n).take n=rs:=by rw[List.take_append_of_le_length (by lia),yE (by lia)]
  have NB:∃e,∀hp:Hp,mW 0 n (Gp (ydb,1,(rs++us.drop n).map uc,hp))=Gp (.ap e n (rs.map uc),hp):=by
   refine⟨ydb&&yL 0 1&&yq n ((rs++us.drop n).map uc).length,fun hp=>?_⟩;simp only[mW,yd,ym,slice,yf,<-yax,fg];rw[yv (by simp;lia)]
   rfl
  have⟨e,NB⟩:=NB;have je:=oe e rs;rw[ZF] at je;have⟨r1,f2,dV⟩:=Dm h.nN je (by lia);unfold ab at f1 f2;refine⟨[(0,v)],us,qs,rs,⟨SV,SW,Iy,ZE,aM,aH,ZF,ZG,RR⟩,rfl,q1,r1,gg,dV,?_⟩
  simp only[go_sem,ya,yb,ax,t11,t12,t13,Dl _ (n:=m) (l:=qs) SW ydb,f1,gg.shut,lO,dT,NB,f2,dV.shut];exact VR gg dV _
 have⟨tm,us,qs,rs,⟨SV,SW,Iy,ZE,aM,aH,ZF,ZG,RR⟩,_,q1,r1,gg,dV,e⟩:=kw;have lA:0<bv (2^64) y:=by
  have:=yV ((2^64)^(n-1)) (show 1<=top by lia)
  have:=ybO (n:=n-1) er
  lia
 rw[A1] at aM aH;have Mw:bv (2^64) qs=bv (2^64) x/bv (2^64) y:=by
  rw[<-tG _ _ kC,<-aM,ybL,xt,tX (wU lA kC),wb aH,yX]
 have SX:bv (2^64) us=(bv (2^64) x%bv (2^64) y)*2^s:=by
  rw[<-uv,<-aM,ybL,xt (bv _ qs),tY,yT aH]
 have lI:=Kb (b:=2^64) us n (by lia);have iK:bv (2^64) (us.drop n)=0:=by
  rcases xq (bv (2^64) (us.drop n)) with h0 | h0
  .exact h0
  .have:=yV ((2^64)^n) h0
   lia
 have hun:us.getD n 0=0:=by
  have:=Pr (b:=2^64) (l:=us) (i:=n) (by lia)
  lia
 rw[iK,xG,yX] at lI;have DQ:us.getD 0 0%2^s=0:=by
  have e1:=Pr (b:=2^64) (l:=us) (i:=0) (by lia);rw[yf,SX] at e1;have e2:2^64=2^s*2^(64-s):=by rw[<-xH,show s+(64-s)=64 by lia]
  have e3:(us.getD 0 0+2^64*bv (2^64) (us.drop (0+1)))%2^s=us.getD 0 0%2^s:=by
   conv=>lhs;rw[e2,xj]
   exact Nat.add_mul_mod_self_left _ _ _
  rw[<-e3,<-e1,Nat.mul_mod_left]
 rw[hun,DQ,Nat.zero_mod,xG,yX,yX,<-lI,SX] at RR;have agJ:bv (2^64) rs=bv (2^64) x%bv (2^64) y:=Nat.eq_of_mul_eq_mul_right kC RR;exact⟨q1,r1,e,⟨_,gg,CB ZE,CA _,by rw[Cz,Mw]⟩,⟨_,dV,CB ZG,CA _,by rw[Cz,agJ]⟩⟩
def ahU(h:Wd P L){a b K:Nat}(hv:WN v a)(hw:WN w b)(hb:0<b)(ha:a<(2^64)^K)(hbK:b<(2^64)^K)(hK:K<=90000000000):
  ∃q r,ab P L 137 [v,w] (.av [q,r])/\WN q (a/b)/\WN r (a%b):=by
 have⟨x,Iz,gx,nx,vx⟩:=hv;have⟨y,SY,gy,ny,vy⟩:=hw;have lx:x.length<=90000000000:=xo (pV nx vx ha) hK;have ly:y.length<=90000000000:=xo (pV ny vy hbK) hK;have ec:=ahH h.ahS Iz SY gx gy nx ny (by lia) (by lia);subst vx;subst vy;by_cases hc:bv (2^64) x<bv (2^64) y
 .have eJ:dY (bv (2^64) x) (bv (2^64) y)= -1:=by unfold dY;rw[yC hc]
  rw[eJ] at ec;refine⟨.ah,v,?_,⟨[],zV,PM,rfl,by rw[wb hc];rfl⟩,⟨x,Iz,gx,nx,by rw[yT hc]⟩⟩
  unfold ab;rw[aD h.XA];simp only[go_sem,ya,LR,Iz.aj,SY.aj,ec,show (-1:Int)<0 by decide];exact VR zV Iz _
 .rcases (show y.length=0\/y.length=1\/2<=y.length by lia) with h0 | h1 | h2
  .rw [yK h0] at hb;simp[bv] at hb
  .obtain ⟨d,rfl⟩:∃d,y=[d]:=by
    cases y with
    | nil=>simp at h1
    | cons d r=>cases r with
     | nil=>exact⟨d,rfl⟩
     | cons e r=>simp at h1
   exact aws h Iz SY gx lx hb (He.1 gy) ec (by lia)
  .exact awt h Iz SY gx gy nx ny lx h2 ec (by lia)
end
def lB(v:AV)(n:Int):Prop:=∃w l,v=.agg [.bool (decide (n<0)),w]/\bA w l/\dg l/\nz l/\dv l=n.natAbs
def kL{l:List Int}{k:Nat}(hd:dg l)(hn:nz l)(h:dv l<1000000000^k):l.length<=k:=by
 by_cases h0:l=[]
 .grind
 .have h1:=Qi hn hd h0;have h2:1000000000^(l.length-1)<1000000000^k:=wo h1 h;have h3:=(uh (show 1<1000000000 by decide)).1 h2
  lia
def gK{hp:Hp}{ct id:Nat}{a b x y:AV}(h1:db a=ydb)(h2:db b=ydb)(p1:aW a=ydb)(p2:aW b=ydb):
  gD hp ct id 0 2 [a,b] (Gp (.cells ydb ydb ydb 2 [x,y]))=Gp (.av [],aU hp id (.cells ydb ydb ydb 2 [a,b]),ct):=by
 rw[sT (by rfl) (by simp) (by simp[cd,h1,h2])];simp[aF,p1,p2,over]
def cz(neg:Bool)(m:Nat):Int:=if neg=ydb then -(m:Int) else m
def zd(h:Has P L 294 De)(cM:Has P L 300 mV)(neg:Bool){v:AV}{l:List Int}(hv:bA v l)(hd:dg l)(hl:l.length<=20000000000):
  ∃r,ab P L 294 [.bool neg,v] r/\lB r (cz neg (dv l)):=by
 have⟨w,e1,hw,kF⟩:=Dk cM hv hl;have sr:=Bk l;have DV:=GM l;have oV:=Cy hd;have hc:(neg&&decide ((0:Int)<((et l).length:Nat)))=decide (cz neg (dv l)<0):=by
  unfold cz
  cases neg with
  | false=>simp
  | true=>
   simp only[wS,xP];by_cases h0:et l=[]
   .rw [h0] at sr ⊢;simp only[dv] at sr;simp[<-sr]
   .have h1:0<(et l).length:=uZ.2 h0;have h2:0<dv l:=by
     rw[<-sr];rcases xq (dv (et l)) with h | h
     .exact absurd (aed DV oV h) h0
     .exact h
    rw[xk (by lia),xk (by lia)]
 refine⟨.agg [.bool (decide (cz neg (dv l)<0)),w],?_,w,et l,rfl,hw,oV,DV,?_⟩
 .rw [<-hc];unfold ab at e1 ⊢;rw[aD h]
  cases neg with
  | false=>
   simp only[go_sem,ya,yb,yi,De,aQ,hv.aj,e1,hw.pu,hw.shut,hw.one,hw.cells,gK];rcases hw with ⟨rfl,_⟩ | ⟨e,rfl⟩<;>rfl
  | true=>
   simp only[go_sem,ya,yb,yi,De,aQ,hv.aj,e1,hw.len,hw.pu,hw.shut,hw.one,hw.cells,gK];rcases hw with ⟨rfl,_⟩ | ⟨e,rfl⟩<;>rfl
 .rw [sr];unfold cz;split<;>lia
def ahV(h:Has P L 298 Q8)(jL:Has P L 294 De)(cM:Has P L 300 mV){v:AV}{n:Int}{K:Nat}(hK:K<=20000000000)(hv:lB v n)(hn:n.natAbs<1000000000^K):∃r,ab P L 298 [v] r/\lB r (-n):=by
 obtain⟨w,l,rfl,hw,hd,hz,sr⟩:=hv;have⟨r,e1,hr⟩:=zd jL cM (!decide (n<0)) hw hd (xo (kL hd hz (by rw[sr];exact hn)) hK)
 have e:cz (!decide (n<0)) (dv l)= -n:=by
  rw[sr];unfold cz;by_cases h0:n<0
  .simp [h0];lia
  .simp [h0];lia
 rw[e] at hr;obtain⟨w2,l2,rfl,jh,jU,lk,BQ⟩:=hr;refine⟨_,?_,w2,l2,rfl,jh,jU,lk,BQ⟩;unfold ab at e1 ⊢;rw[aD h];simp only[go_sem,ya,yb,Q8,aQ,hw.pu,hw.aj,hw.one,jh.pu,jh.one,aY,yd,df,e1,gK,bw];rcases jh with ⟨rfl,_⟩ | ⟨e,rfl⟩<;>rfl
section
variable {w:AV}{a b z:Int}{k m:Nat}
def dG(s:Int)(w:AV)(z:Int):Prop:=
 (w=.ah/\s=z/\-9223372036854775808<=z/\z<9223372036854775808)\/
 (∃e l,w=.ap e l.length (l.map uc)/\lo (2^64) l/\iJ l/\bv (2^64) l=z.natAbs/\s=(if z<0 then -1 else 1)/\9223372036854775808<=z.natAbs)
def cD(v:AV)(z:Int):Prop:=∃s w,v=.agg [aa s,w]/\dG s w z
def Bd(k:Nat)(z:Int):Prop:=z.natAbs<2^k
def CU(k:Nat):2^k<=(2^64)^k:=Nat.pow_le_pow_left (by decide) k
def Bd.mono(h:Bd k z)(hk:k<=m):Bd m z:=yG h (xa (by decide) hk)
def Bd.neg(h:Bd k z):Bd k (-z):=by unfold Bd at h ⊢;rwa[Int.natAbs_neg]
def Bd.add(ha:Bd k a)(hb:Bd m b):Bd (max k m+1) (a+b):=by
 have h1:Bd (max k m) a:=ha.mono (by lia);have h2:Bd (max k m) b:=hb.mono (by lia);unfold Bd at h1 h2 ⊢
 grind
def Bd.mul(ha:Bd k a)(hb:Bd m b):Bd (k+m) (a*b):=by
 unfold Bd at*
 rw[Int.natAbs_mul,xH];exact Nat.mul_lt_mul'' ha hb
def Bd.le(hb:Bd k b)(h:a.natAbs<=b.natAbs):Bd k a:=wo h hb
def WN.pos{v:AV}(h:WN v m)(h0:0<m):∃e l,v=.ap e l.length (l.map uc)/\l≠[]/\lo (2^64) l/\iJ l/\bv (2^64) l=m:=by
 have⟨l,hv,g,n,hb⟩:=h;have hl:l≠[]:=fun e=>by subst e;simp[bv] at hb;lia
 rcases hv with ⟨_,e⟩ | ⟨e,rfl⟩
 .simp_all
 .exact ⟨e,l,by simp,hl,g,n,hb⟩
def WN.aO{v:AV}(h:WN v m):∃l,bQ v l/\lo (2^64) l/\iJ l/\bv (2^64) l=m:=h
def pL(e:Bool)(n:Nat)(cs:List AV):km .sl (.ap e n cs) .ah=Gp ydc:=rfl
def iU:km .sl .ah .ah=Gp ydb:=rfl
def Ps(hp:Hp)(ct id:Nat)(a:Int)(e:Bool)(n:Nat)(cs:List AV)(x y:AV):gD hp ct id 0 2 [.int .i64 a,.ap e n cs] (Gp (.cells ydb ydb ydb 2 [x,y]))=Gp (.av [],aU hp id (.cells ydb ydb ydb 2 [.int .i64 a,.ap e n cs]),ct):=gK rfl rfl rfl rfl
def zY{tm:Env}{a x y:AV}{r:List (Nat×Nat×X)}(h:db a=ydb):kX tm [x,y] 0 1 [a] r=fill tm [a,y] r:=Pk (by simp) h
def dG.qS(h1: -9223372036854775808<=z)(h2:z<9223372036854775808):cD (.agg [aa z,.ah]) z:=⟨z,.ah,rfl,.inl ⟨rfl,rfl,h1,h2⟩⟩
def dG.bW{s:Int}(h:dG s w z):(s<0↔z<0)/\(s=0↔z=0)/\-9223372036854775808<=s/\s<9223372036854775808:=by
 rcases h with ⟨_,rfl,h1,h2⟩ | ⟨e,l,_,_,_,_,rfl,h1⟩
 .grind
 .grind
structure Nu(P:aE)(L:Lib):Prop extends Wd P L where
 aAL:Has P L 117 QP
 aAM:Has P L 142 QR
 XE:Has P L 136 LQ
 Mx:Has P L 145 BK
 aAN:Has P L 146 Xg
 XF:Has P L 147 LS
 ahW:Has P L 163 QV
 aAO:Has P L 118 Fh
 ahX:Has P L 119 c119
 aAP:Has P L 156 Xi
 RS:Has P L 100 nK
 XG:Has P L 164 nL
 aAQ:Has P L 148 Xh
 aAR:Has P L 130 Xf
def FC(h:Nu P L)(h1: -9223372036854775808<=z)(h2:z<9223372036854775808):ab P L 117 [aa z] (.agg [aa z,.ah])/\cD (.agg [aa z,.ah]) z:=⟨n117 h.aAL z,dG.qS h1 h2⟩
def XH(h:Nu P L){n:Int}(h1: -9223372036854775808<=n)(h2:n<9223372036854775808):ab P L 142 [aa n] (uc n.natAbs):=by
 unfold ab;rw[aD h.aAM];by_cases h0:n<0
 .have e:IntKind.wrap .u64 (IntKind.wrap .i64 (0-n))=(n.natAbs:Int):=by
   by_cases hm:n= -9223372036854775808
   .subst hm;rfl
   .rw [wrap64 (by lia) (by lia),Qo];lia
  simp only[go_sem,ya,QR,h0,ae6,e]
 .have e:IntKind.wrap .u64 n=(n.natAbs:Int):=by rw[Qo];lia
  simp only[go_sem,ya,QR,h0,ae6,e]
def BR(h:Nu P L){s:Int}(hz:dG s w z):∃r,ab P L 136 [.agg [aa s,w]] (.av [.bool (decide (z<0)),r])/\WN (bI r) z.natAbs:=by
 rcases hz with ⟨rfl,rfl,h1,h2⟩ | ⟨e,l,rfl,g,n,hb,hs,h1⟩
 .by_cases h0:s=0
  .subst h0;refine⟨.ah,?_,[],zV,PM,rfl,rfl⟩;unfold ab;rw[aD h.XE];simp only[go_sem,ya,yb,LQ,aQ,aY,yd,df,iU,Li,Int.reduceLT];rfl
  .have e1:=XH h h1 h2;refine⟨.cF ydb 1 1 [uc s.natAbs],?_,[s.natAbs],oe ydb [s.natAbs],He.2 (by lia),Gw (by lia) [],CT _⟩;unfold ab;rw[aD h.XE];simp only[go_sem,ya,yb,yi,ym,LQ,aQ,aY,yd,df,iU,Li,h0,e1];rfl
 .have B0:decide (s<0)=decide (z<0):=by rw[hs];split<;>simp<;>lia
  refine⟨.ap e l.length (l.map uc),?_,l,oe e l,g,n,hb⟩;unfold ab;rw[aD h.XE];simp only[go_sem,ya,yb,LQ,aQ,aY,yd,df,pL,Li,B0];rfl
def acj{d:Nat}(h:d<=9223372036854775807):IntKind.wrap .i64 (d:Int)=d:=wrapN (by lia)
def FD(h:Nu P L)(neg:Bool){K:Nat}(hw:WN w m)(hm:m<(2^64)^K)(hK:K<=90000000000):∃r,ab P L 145 [.bool neg,w] r/\cD r (cz neg m):=by
 have⟨l,hu,g,n,hb⟩:=hw;have AO:l.length<=90000000000:=xo (pV n hb hm) hK;by_cases h0:l=[]
 .subst h0
  have:m=0:=by rw[<-hb];rfl
  subst this;have e:cz neg 0=0:=by unfold cz;cases neg<;>rfl
  rw[e];refine⟨.agg [aa 0,.ah],?_,dG.qS (by decide) (by decide)⟩;unfold ab;rw[aD h.Mx];simp only[go_sem,ya,yb,BK,aQ,hu.len,yN,show (((0:Nat):Nat):Int)=0 from rfl,Ab];rfl
 .have lR:0<l.length:=uZ.2 h0;by_cases h1:l.length=1/\l.getD 0 0<=9223372036854775807
  .have ⟨h1,h2⟩:=h1;obtain⟨d,rfl⟩:∃d,l=[d]:=by
    cases l with
    | nil=>simp at h1
    | cons d r=>cases r with
     | nil=>exact⟨d,rfl⟩
     | cons e r=>simp at h1
   have h2:d<=9223372036854775807:=h2;rw[CT] at hb;subst hb;have ex:=hu.bk (i:=0) (by simp);rw[show ([d]:List Nat).getD 0 0=d from rfl] at ex;have hlen:∀hp,jo hp 1 w=Gp (.int .i64 1):=fun hp=>hu.len
   cases neg with
   | true=>
    refine⟨.agg [aa (0-(d:Int)),.ah],?_,?_⟩
    .unfold ab;rw[aD h.Mx]
     simp only[go_sem,ya,yb,yi,BK,aQ,hlen,yaB,ex,show (d:Int)<=9223372036854775807 by lia,PQ,acj h2,wrap64 (n:=0-(d:Int)) (by lia) (by lia),Ab];rfl
    .have:cz ydb d=0-(d:Int):=by unfold cz;simp
     rw[this];exact dG.qS (by lia) (by lia)
   | false=>
    refine⟨.agg [aa (d:Int),.ah],?_,?_⟩
    .unfold ab;rw[aD h.Mx];simp only[go_sem,ya,yb,yi,BK,aQ,hlen,yaB,ex,show (d:Int)<=9223372036854775807 by lia,PQ,acj h2,Ab];rfl
    .have:cz ydc d=(d:Int):=by unfold cz;simp
     rw[this];exact dG.qS (by lia) (by lia)
  .have Ci:9223372036854775808<=m:=by
    rw[<-hb];by_cases h2:l.length=1
    .obtain ⟨d,rfl⟩:∃d,l=[d]:=by
      cases l with
      | nil=>simp at h2
      | cons d r=>cases r with
       | nil=>exact⟨d,rfl⟩
       | cons e r=>simp at h2
     have:¬d<=9223372036854775807:=fun hd=>h1 ⟨h2,hd⟩
     rw[CT];lia
    .have h3:=VM (b:=2^64) (by decide) n h0;have h4:(2^64)^1<=(2^64)^(l.length-1):=xa (by decide) (by lia);rw[Nat.pow_one] at h4
     lia
   have cW:∃e,w=.ap e l.length (l.map uc):=by
    rcases hu with ⟨rfl,hh⟩ | ⟨e,rfl⟩
    .simp at hh;exact absurd hh h0
    .exact ⟨e,by simp⟩
   obtain⟨e,rfl⟩:=cW;have ex:=hu.bk (i:=0) lR;have first:(decide ((l.length:Int)=1)=ydb/\¬((l.getD 0 0:Nat):Int)<=9223372036854775807)\/decide ((l.length:Int)=1)=ydc:=by
    by_cases h2:l.length=1
    .left;refine⟨by simp;lia,fun hd=>h1 ⟨h2,by lia⟩⟩
    .right;simp;lia
   cases neg with
   | true=>
    refine⟨.agg [aa (-1),.ap e l.length (l.map uc)],?_,-1,_,rfl,.inr ⟨e,l,rfl,g,n,by rw[hb];unfold cz;simp,by unfold cz;simp;lia,by unfold cz;simp;lia⟩⟩
    unfold ab;rw[aD h.Mx];rcases first with ⟨f1,f2⟩ | f1
    .simp only [go_sem,ya,yb,yi,BK,aQ,show ¬(l.length:Int)=0 by lia,f1,f2,ex,zY,Ps];rfl
    .simp only [go_sem,ya,yb,yi,BK,aQ,show ¬(l.length:Int)=0 by lia,f1,zY,Ps];rfl
   | false=>
    refine⟨.agg [aa 1,.ap e l.length (l.map uc)],?_,1,_,rfl,.inr ⟨e,l,rfl,g,n,by rw[hb];unfold cz;simp,by unfold cz;simp,by unfold cz;simp;lia⟩⟩
    unfold ab;rw[aD h.Mx];rcases first with ⟨f1,f2⟩ | f1
    .simp only [go_sem,ya,yb,yi,BK,aQ,show ¬(l.length:Int)=0 by lia,f1,f2,ex,zY,Ps];rfl
    .simp only [go_sem,ya,yb,yi,BK,aQ,show ¬(l.length:Int)=0 by lia,f1,zY,Ps];rfl
end
section
variable {v w:AV}{a b s z:Int}{l:List Nat}{K:Nat}
def bD:VC->VC
 | .seq a _=>a
 | c=>c
def aqx{x y:Nat}(ha:a.natAbs=x)(hb:b.natAbs=y)(h:decide (a<0)=decide (b<0)):cz (decide (a<0)) (x+y)=a+b:=by
 unfold cz
 grind
def adm{m:Nat}(hm:m+b.natAbs=a.natAbs)(h:¬decide (a<0)=decide (b<0)):cz (decide (a<0)) m=a+b:=by
 unfold cz
 grind
def aqy:cz (!decide (a<0)) a.natAbs= -a:=by
 unfold cz
 grind
def adn:cz (decide (a<0) !=decide (b<0)) (a.natAbs*b.natAbs)=a*b:=by
 unfold cz
 grind
def oE(h:bQ w l)(hp:Hp):result hp (.agg [aa s,w])=Gp (.agg [aa s,w]):=by
 rcases h with ⟨rfl,_⟩ | ⟨e,rfl⟩<;>rfl
def eA(h:bQ w l)(hp:Hp)(ct id:Nat)(x y:AV):gD hp ct id 0 2 [.int .i64 s,w] (Gp (.cells ydb ydb ydb 2 [x,y]))=Gp (.av [],aU hp id (.cells ydb ydb ydb 2 [.int .i64 s,w]),ct):=gK rfl h.one rfl h.pu
def dG.aO(h:dG s w z):∃l,bQ w l:=by
 rcases h with ⟨rfl,_⟩ | ⟨e,l,rfl,_⟩
 .exact ⟨[],zV⟩
 .exact ⟨l,oe e l⟩
def agK(hp:Hp)(sz:Nat)(ag:Bool):AV->Option AV
 | .ptr id o=>SO sz ag o (ai hp id)
 | .bC cs=>ie sz ag cs
 | _=>Gq
def cR(tm:Env)(hp:Hp)(ct base i sz:Nat)(ag:Bool):results1 ⟨tm,hp,ct,base⟩ (.cell i sz ag)=agK hp sz ag (ak tm i):=by
 rfl
def cS(hp:Hp)(sz:Nat)(ag:Bool)(id o:Nat):agK hp sz ag (.ptr id o)=SO sz ag o (ai hp id):=rfl
def HR(h:Nu P L)(hv:cD v z):ab P L 146 [v] (aa (bW z)):=by
 obtain⟨s,w,rfl,hn⟩:=hv;have⟨l,hu⟩:=hn.aO;have e:bW s=bW z:=by
  have⟨h1,h2,_⟩:=hn.bW;unfold bW;by_cases h0:z<0
  .rw [yC h0,yC (h1.2 h0)]
  .by_cases h3:z=0
   .rw [yr (fun h=>h0 (h1.1 h)),yC (h2.2 h3),yr h0,yC h3]
   .rw [yr (fun h=>h0 (h1.1 h)),yr (fun h=>h3 (h2.1 h)),yr h0,yr h3]
 unfold ab;rw[aD h.aAN];simp only[go_sem,ya,yb,Xg,aQ,hu.pu,hu.one,aY,yd,ae5,EO,adg,Kd,awb,e]
def HS(h:Nu P L)(hv:cD v z)(hz:Bd K z)(hK:K<=90000000000):∃r,ab P L 147 [v] r/\cD r (-z):=by
 obtain⟨s,w,rfl,hn⟩:=hv;have⟨p,e1,hp⟩:=BR h hn;have⟨lp,fX,_⟩:=hp.aO;have⟨r,e2,hr⟩:=FD h (!decide (z<0)) hp (yG hz (CU K)) hK;rw[aqy] at hr;have bg:=hr;obtain⟨s',w',rfl,jS⟩:=hr;have⟨l',kG⟩:=jS.aO;rcases hn with ⟨rfl,rfl,h1,h2⟩ | ⟨e,l0,rfl,g,n,hb,hs,h1⟩
 .by_cases h0:s= -9223372036854775808
  .refine ⟨_,?_,bg⟩;unfold ab;rw[aD h.XF];simp only[go_sem,ya,yb,LS,aQ,aY,yd,df,iU,eM,h0];rw[h0] at e1 e2;simp only[go_sem,ya,bV,b6,e1,e2,fX.aj,bw,cR,cS,bV,yf,oE kG,eA kG]
  .refine ⟨.agg [aa (-s),.ah],?_,dG.qS (by lia) (by lia)⟩;unfold ab;rw[aD h.XF]
   simp only[go_sem,ya,yb,LS,aQ,aY,yd,df,iU,eM,h0,wrap64 (n:=0-s) (by lia) (by lia),Ab,zY];rw[Int.zero_sub];rfl
 .refine ⟨_,?_,bg⟩;unfold ab;rw[aD h.XF];simp only[go_sem,ya,yb,LS,aQ,aY,yd,df,pL,eM,bV,b6,e1,e2,fX.aj,bw,cR,cS,bV,yf,oE kG,eA kG]
def ahY(h:Nu P L)(hv:cD v z)(hz:Bd K z)(hK:K<=90000000000):∃r,ab P L 163 [v] r/\cD r (z.natAbs:Nat):=by
 have eK:=hv;obtain⟨s,w,rfl,hn⟩:=hv;have⟨l,hu⟩:=hn.aO;have A2:=hn.bW.1;by_cases h0:z<0
 .have ⟨r,e1,hr⟩:=HS h eK hz hK;rw[show -z=(z.natAbs:Int) by lia] at hr;have bg:=hr;obtain⟨s',w',rfl,jS⟩:=hr;have⟨l',kG⟩:=jS.aO;refine⟨_,?_,bg⟩;unfold ab;rw[aD h.ahW];simp only[go_sem,ya,yb,QV,aQ,hu.pu,hu.aj,hu.one,aY,yd,A2.2 h0,bV,b6,e1,bw,cR,cS,bV,yf,oE kG,eA kG]
 .rw [show ((z.natAbs:Nat):Int)=z by lia];refine⟨_,?_,eK⟩;unfold ab;rw[aD h.ahW];simp only[go_sem,ya,yb,QV,aQ,hu.pu,hu.one,aY,yd,show ¬s<0 from fun h=>h0 (A2.1 h),bV,cR,cS,bV,yf,oE hu,eA hu]
def awu(h:Nu P L){s1 s2:Int}{w1 w2:AV}(ha:dG s1 w1 a)(hb:dG s2 w2 b)(ka:Bd K a)(kb:Bd K b)(hK:K<=40000000000):
  ∃r,cD r (a+b)/\∀tm,ak tm 2=.ptr 0 0->ak tm 3=.ptr 1 0->ak tm 4=.ptr 2 0->gM [.cell 4 2 ydb] (D P L (aC (aC c119.body)) ⟨tm,[(2,.cells ydb ydb ydb 2 [.int .i64 0,.ah]),(1,.cells ydb ydb ydb 2 [aa s2,w2]),(0,.cells ydb ydb ydb 2 [aa s1,w1])],3,0⟩)=Gp r:=by
 have⟨l1,u1⟩:=ha.aO;have⟨l2,u2⟩:=hb.aO;have⟨p,e1,hp⟩:=BR h ha;have⟨q,e2,hq⟩:=BR h hb;have⟨lp,fX,gp,np,vp⟩:=hp.aO;have⟨lq,qH,gq,nq,vq⟩:=hq.aO;have DW:=yG ka (CU K);have IA:=yG kb (CU K);have llp:lp.length<=40000000000:=xo (pV np vp DW) hK;have llq:lq.length<=40000000000:=xo (pV nq vq IA) hK;by_cases hs:decide (a<0)=decide (b<0)
 .have ⟨o,oU,e3,ho,oT,no,vo⟩:=aAt h.aAD h.nN h.iG fX qH gp gq (by lia) (by lia);have⟨r,e4,hr⟩:=FD h (decide (a<0)) ⟨oU,ho,oT,no,vo⟩ (K:=K+1) (by rw[vp,vq,xn];lia) (by lia)
  rw[aqx vp.symm vq.symm hs] at hr;have bg:=hr;obtain⟨s',w',rfl,jS⟩:=hr;have⟨l',kG⟩:=jS.aO;refine⟨_,bg,fun tm t2 t3 t4=>?_⟩;simp only[go_sem,ya,c119,aC,t2,t3,bV,b6,u1.aj,u2.aj,e1,e2,fX.aj,qH.aj,eM,rC,hs,tO];rw[hs] at e4;simp only[go_sem,ya,t4,e3,ho.aj,ho.shut,e4,bw,cR,cS,bV,yf,oE kG,eA kG]
 .have Ga:(decide (a<0)==decide (b<0))=ydc:=by simpa using hs
  have e3:=ahH h.ahS fX qH gp gq np nq (by lia) (by lia);rw[vp,vq] at e3;by_cases hc:b.natAbs<=a.natAbs
  .have ⟨o,oU,e4,ho,oT,no,vo⟩:=ahI h.ahT h.nN h.Ax fX qH gp gq nq (by lia) (by rw[vp,vq];exact hc)
   rw[vp,vq] at vo;have⟨r,e5,hr⟩:=FD h (decide (a<0)) ⟨oU,ho,oT,no,rfl⟩ (K:=K) (by lia) (by lia);rw[adm vo hs] at hr;have bg:=hr;obtain⟨s',w',rfl,jS⟩:=hr;have⟨l',kG⟩:=jS.aO;have eJ:(0:Int)<=dY a.natAbs b.natAbs:=by unfold dY;rw[yr (by lia)];split<;>decide
   refine⟨_,bg,fun tm t2 t3 t4=>?_⟩;simp only[go_sem,ya,c119,aC,t2,t3,t4,bV,b6,u1.aj,u2.aj,e1,e2,fX.aj,qH.aj,eM,rC,Ga,e3,eJ,e4,ho.aj,ho.shut,e5,bw,cR,cS,bV,yf,oE kG,eA kG]
  .have ⟨o,oU,e4,ho,oT,no,vo⟩:=ahI h.ahT h.nN h.Ax qH fX gq gp np (by lia) (by rw[vp,vq];lia)
   rw[vp,vq] at vo;have⟨r,e5,hr⟩:=FD h (decide (b<0)) ⟨oU,ho,oT,no,rfl⟩ (K:=K) (by lia) (by lia);rw[adm vo (fun e=>hs e.symm),Int.add_comm] at hr;have bg:=hr;obtain⟨s',w',rfl,jS⟩:=hr;have⟨l',kG⟩:=jS.aO;have eJ:¬(0:Int)<=dY a.natAbs b.natAbs:=by unfold dY;rw[yC (by lia)];decide
   refine⟨_,bg,fun tm t2 t3 t4=>?_⟩;simp only[go_sem,ya,c119,aC,t2,t3,t4,bV,b6,u1.aj,u2.aj,e1,e2,fX.aj,qH.aj,eM,rC,Ga,e3,eJ,e4,ho.aj,ho.shut,e5,bw,cR,cS,bV,yf,oE kG,eA kG]
def My(h:Nu P L)(hv:cD v a)(hw:cD w b)(ka:Bd K a)(kb:Bd K b)(hK:K<=40000000000):∃r,ab P L 119 [v,w] r/\cD r (a+b):=by
 obtain⟨s1,w1,rfl,h1⟩:=hv;obtain⟨s2,w2,rfl,h2⟩:=hw;have⟨l2,u2⟩:=h2.aO;have⟨r,hr,tail⟩:=awu h h1 h2 ka kb hK;have fin:∀tm,ak tm 2=.ptr 0 0->ak tm 3=.ptr 1 0->ak tm 4=.ptr 2 0->
   D P L (.seq (bD c119.body) (bD (aC c119.body))) ⟨[(0,.agg [aa s1,w1]),(1,.agg [aa s2,w2])],[],0,0⟩=Gp (.normal,⟨tm,[(2,.cells ydb ydb ydb 2 [.int .i64 0,.ah]),(1,.cells ydb ydb ydb 2 [aa s2,w2]),(0,.cells ydb ydb ydb 2 [aa s1,w1])],3,0⟩)->ab P L 119 [.agg [aa s1,w1],.agg [aa s2,w2]] r:=fun tm t2 t3 t4 e=>by
  unfold ab;rw[aD h.ahX];show gM [.cell 4 2 ydb] (D P L (.seq (bD c119.body) (.seq (bD (aC c119.body)) (aC (aC c119.body)))) ⟨[(0,.agg [aa s1,w1]),(1,.agg [aa s2,w2])],[],0,0⟩)=_
  have e2:D P L (.seq (bD c119.body) (.seq (bD (aC c119.body)) (aC (aC c119.body)))) ⟨[(0,.agg [aa s1,w1]),(1,.agg [aa s2,w2])],[],0,0⟩=rA P L (D P L (.seq (bD c119.body) (bD (aC c119.body))) ⟨[(0,.agg [aa s1,w1]),(1,.agg [aa s2,w2])],[],0,0⟩) (aC (aC c119.body)):=by
   rw[nI,nI]
   cases D P L (bD c119.body) ⟨[(0,.agg [aa s1,w1]),(1,.agg [aa s2,w2])],[],0,0⟩ with
   | none=>rfl
   | some q=>
    have⟨ex,st⟩:=q
    cases ex with
    | normal=>rw[jk,jk,nI]
    | ret=>rfl
    | exit id=>rfl
  rw[e2,e,jk];exact tail tm t2 t3 t4
 rcases h1 with ⟨rfl,rfl,a1,a2⟩ | ⟨e,l,rfl,ga,na,va,sa,a1⟩
 .rcases h2 with ⟨rfl,rfl,b1,b2⟩ | ⟨e,l,rfl,gb,nb,vb,sb,b1⟩
  .by_cases cG: -9223372036854775808<=s1+s2/\s1+s2<9223372036854775808
   .refine ⟨.agg [aa (s1+s2),.ah],?_,dG.qS cG.1 cG.2⟩;have e:decide (s1<s1+s2)=decide (0<s2):=by
     by_cases h:0<s2
     .simp only [h,yI];exact xk (by lia)
     .simp only [h,yM];exact yW (by lia)
    unfold ab;rw[aD h.ahX]
    simp only[go_sem,ya,yb,c119,aQ,Ab,iU,eM,rC,aY,yd,df,wrap64 (n:=s1+s2) cG.1 cG.2,e,tO,zY];rfl
   .have e:(decide (s1<IntKind.wrap .i64 (s1+s2))==decide (0<s2))=ydc:=by
     have hw:(9223372036854775808<=s1+s2/\IntKind.wrap .i64 (s1+s2)=s1+s2-2^64)\/(s1+s2< -9223372036854775808/\IntKind.wrap .i64 (s1+s2)=s1+s2+2^64):=by
      simp only[IntKind.wrap,IntKind.bits,IntKind.signed,wS]
      split<;>rename_i h<;>simp at h<;>lia
     by_cases h0:0<s2
     .rw [xk h0,yW (by lia)];rfl
     .rw [yW h0,xk (by lia)];rfl
    refine⟨r,fin _ ?_ ?_ ?_ (by simp only[go_sem,ya,yb,bD,aC,c119,aQ,iU,eM,rC,aY,yd,df,e]<;>rfl),hr⟩<;>simp only[go_sem,ya]
  .refine ⟨r,fin _ ?_ ?_ ?_ (by simp only[go_sem,ya,yb,bD,aC,c119,aQ,iU,pL,eM,aY,yd,df]<;>rfl),hr⟩<;>simp only[go_sem,ya]
 .refine ⟨r,fin _ ?_ ?_ ?_ (by simp only[go_sem,ya,yb,bD,aC,c119,aQ,u2.pu,u2.one,pL,eM,aY,yd,df]<;>rfl),hr⟩<;>simp only[go_sem,ya]
end
end VE
