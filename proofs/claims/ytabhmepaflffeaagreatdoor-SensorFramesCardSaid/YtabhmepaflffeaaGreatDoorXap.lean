import Derived.ChangeSlices
import Derived.ChangeReads
import Derived.ChangeSame
import Derived.OpenShut
import Derived.Lib.AtoiErrMem
import Derived.Laws.Externs
import Derived.Attr
import Derived.Test.YtabhmepaflffeaaGreatDoorXao
set_option linter.all false
set_option maxRecDepth 100000
open Array renaming getElem?_eq_some_iff->xx
open BitVec renaming ofInt->xO,ofInt_natCast->tT,ofNat->tS,toNat_ofNat->ui
open Bool renaming and_eq_true->yf,and_self->vh,and_true->uX,false_and->ve,false_eq_true->yD,false_or->vI,true_and->wE
open Classical renaming propDecidable->tj
open Go renaming Addr->uW,ChangeSpec->ycT,DataW->xU,Field->uj,IntKind->xg,MemPlace->wQ,Program->xp,TypeId->yB,Value->ym,World->yo
open Int renaming ediv_emod_unique->yaz,gcd->vC,gcd_dvd_left->yaC,gcd_dvd_right->yat,mul_ediv_cancel'->ybt,natAbs_ediv_of_dvd->tx,natCast_mul->xD,reduceEq->yaN,tdiv_eq_ediv_of_dvd->ybe,tdiv_eq_ediv_of_nonneg->xQ,tmod_eq_emod_of_nonneg->xK,toNat_natCast->wA
open List renaming all_cons->yaB,append_assoc->xt,append_nil->wZ,cons_append->yI,drop->vP,drop_drop->vS,drop_eq_getElem_cons->yX,drop_eq_nil_of_le->y9,drop_left'->tO,drop_zero->ye,eq_nil_of_length_eq_zero->yE,filter_cons->ybT,filter_eq_nil_iff->yaf,flatMap_cons->ybF,getD_cons_succ->ybs,getD_eq_getElem?_getD->yV,getElem?_cons_zero->uv,getElem?_eq_getElem->xn,length->uy,length_append->yO,length_cons->yH,length_drop->wP,length_map->y5,length_nil->yR,length_pos_iff->tz,length_reverse->ybu,length_singleton->vZ,length_take->yU,mapM_cons->ta,mapM_nil->yaU,map_append->xu,map_cons->xb,map_take->yaS,mem_append->wD,mem_append_left->tX,mem_append_right->ux,mem_flatMap->tF,mem_singleton->vT,nil_append->yN,range->wq,range'->xT,range'_succ->vX,range'_zero->ybQ,range_eq_range'->yap,replicate->yj,replicate_succ->wG,reverse_cons->ybG,set_append_right->ybg,set_cons_succ->ybz,set_eq_take_append_cons_drop->yan,take_append_drop->wh,take_length->xR,take_of_length_le->yK,take_succ_eq_append_getElem->xm
open Nat renaming add_comm->yay,add_mul->xS,add_sub_cancel->tg,add_zero->yY,beq->yu,beq_refl->wL,ble->yG,ble_eq_true_of_le->yy,blt->yP,div_add_mod->xE,div_eq_of_lt->xP,div_le_self->wU,div_lt_iff_lt_mul->xC,eq_of_beq_eq_true->yi,eq_zero_or_pos->xi,gcd->vJ,gcd_comm->yak,gcd_rec->ydi,le_div_iff_mul_le->tV,le_max_left->uU,le_max_right->uE,le_of_ble_eq_true->yA,le_of_lt->uY,le_refl->yz,le_trans->y7,lt_of_le_of_lt->xL,lt_of_lt_of_le->yF,lt_of_mul_lt_mul_right->th,min_eq_left->xo,mod_add_div->uz,mod_eq_of_lt->yQ,mod_lt->xq,mul_add->xH,mul_add_div->tB,mul_add_mod->yao,mul_assoc->xf,mul_comm->xd,mul_div_mul_right->tW,mul_le_mul->y8,mul_le_mul_left->yW,mul_le_mul_right->yT,mul_lt_mul_of_pos_right->xY,mul_mod_mul_right->uB,mul_one->yg,mul_pos->vd,mul_zero->xF,one_mul->tM,or_comm->ydj,pos_of_ne_zero->vW,pow_add->xB,pow_le_pow_right->xc,pow_lt_pow_iff_right->uo,pow_pos->ycm,pow_succ->xh,pow_zero->vV,reduceAdd->yb,reduceEqDiff->ya,reduceLT->yv,reduceLeDiff->yh,reduceMul->xy,strongRecOn->vY,sub_zero->ycS,two_pow_pos->xe,zero_add->yd,zero_le->tL,zero_mul->wo
open Option renaming bind_eq_bind->ug,bind_some->wM,map_some->wS,pure_def->vt
open Option.some renaming injEq->yc
open Prod.mk renaming injEq->yr
open Option renaming some->GR,none->GS
open Bool renaming true->ydB,false->ydC
namespace VE
open Go (IntKind)
variable {P:aE}{L:Lib}
variable{v:AV}{again apart fresh handsOn:Bool}{tm:Env}{Q:Ex->St->Prop}{hp old:Hp}{hi:Int}{ax:List AV}{live post pre vs:List Nat}{A B K U0 V Y a base bo ct d la q0 q1 sz u0 u1 u2 x:Nat}{I:Nat->St->Prop}
section
open Go
section
variable (P:xp)
def GY(self:yB->Bool):List uj->Nat->Nat->Bool
 | [],o,n=>yu o n
 | f::r,o,n=>yu f.offset o&&(self f.type&&GY self r (o+P.cellsOf f.type) n)
def flat:Nat->yB->Bool
 | 0,_=>ydC
 | n+1,t=>
  match P.underlying t with
  | some .bool | some (.int _) | some (.float _) | some .string=>yu (P.cellsOf t) 1
  | some (.slice e)=>yu (P.cellsOf t) 1&&(yP 0 (P.cellsOf e)&&flat n e)
  | some (.struct fs)=>GY P (fun u=>flat n u) fs.toList 0 (P.cellsOf t)
  | some (.array k e)=>yu (P.cellsOf t) (k*P.cellsOf e)&&flat n e
  | _=>ydC
def df{H:Type}:Nat->yB->xU H->List AV
 | 0,_,_=>[]
 | n+1,t,d=>
  match P.underlying t,d with
  | some .bool,.lit (.bool b)=>[.bool b]
  | some (.int k),.lit (.int _ m)=>[.int k m]
  | some (.float k),.lit (.float _ b)=>[.an k b]
  | some .string,.lit (.string s)=>[.str (s.map UInt8.toNat)]
  | some (.slice _),.nil=>[.aj]
  | some (.slice e),.slice lJ spare=>[.au spare.isEmpty lJ.length (lJ.flatMap fun x=>df n e x)]
  | some (.struct fs),.agg parts=>(fs.toList.zip parts).flatMap fun x=>df n x.1.type x.2
  | some (.array _ e),.agg parts=>parts.flatMap fun x=>df n e x
  | _,_=>[]
end
section
variable {ae:Nat->Nat}{m:Mp}{S:Nat->Prop}{w:yo}
def adl:∀{a b:List AV} {eS o:Nat},b9 ae m S w a eS o->b9 ae m S w b eS (o+a.length)->b9 ae m S w (a++b) eS o
 | [],b,eS,o,_,h=>by simpa using h
 | x::a,b,eS,o,h1,h2=>by
  exact⟨h1.1,adl h1.2 (by rw[yH] at h2;rw[show o+1+a.length=o+(a.length+1) by lia];exact h2)⟩
def O5:∀{a b:List AV},aF a=ydB->aF b=ydB->aF (a++b)=ydB
 | [],_,_,h=>h
 | x::a,b,h1,h2=>by
  simp only[aF,yI,yf] at h1 ⊢;exact⟨h1.1,O5 h1.2 h2⟩
def adm:∀{a:List AV} {us:List ym},aA ae m S w a us->a.length=us.length
 | [],us,h=>by simp only[aA] at h;subst h;rfl
 | x::a,us,h=>by
  obtain⟨u,r,rfl,_,h2⟩:=h;simp[adm h2]
end
section
variable {H:Type}{enc:yB×ym->H}{P:xp}{w:yo}{held:Bool}{ae:Nat->Nat}{m:Mp}{S:Nat->Prop}
def afs{a:uW}{i:Nat}{u:ym}(h:w.cell? (a.add i)=GR u):w.cell? ⟨a.block,a.off+i,GS⟩=GR u/\(i=0->a.spot=GS):=by
 by_cases hi:i=0
 .subst hi;have e:a.add 0=a:=by simp[Addr.add]
  rw[e] at h;have hs:a.spot=GS:=by
   cases hq:a.spot with
   | none=>rfl
   | some k=>
    unfold World.cell? at h
    split at h
    .simp [hq] at h
    all_goals simp_all
  have⟨b,o,sp⟩:=a;simp only at hs;subst hs;exact⟨by simpa using h,fun _=>rfl⟩
 .have e:a.add i=⟨a.block,a.off+i,GS⟩:=by simp[Addr.add,hi]
  rw[e] at h;exact⟨h,fun h=>(hi h).elim⟩
def apq(a:uW)(i:Nat):(a.add i).block=a.block:=by unfold Addr.add;split<;>rfl
def atB(a:uW)(i:Nat):(a.add i).off=a.off+i:=by unfold Addr.add;split<;>simp_all
def Pj{α β:Type}{f:α->Option β}:∀{l:List α} {r:List β},l.mapM f=GR r->r.length=l.length
 | [],r,h=>by simp only[yaU,vt,yc] at h;subst h;rfl
 | x::l,r,h=>by
  rw[ta] at h
  cases h1:f x with
  | none=>simp[h1] at h
  | some y=>
   cases h2:l.mapM f with
   | none=>simp[h1,h2] at h
   | some ys=>
    simp only[h1,h2,wM,ug,vt,yc] at h;subst h;simp[Pj h2]
def arj{c:AV}{l:List AV}{b o:Nat}(h:b9 ae m S w (c::l) b o):b<w.heap.size:=by
 have⟨⟨u,h1,_⟩,_⟩:=h;unfold World.cell? at h1
 cases hq:w.heap[b]? with
 | none=>simp[hq] at h1
 | some o=>exact (xx.1 hq).1
def Vm{e:yB}{bw sz:Nat}{f:xU H->List AV}{a:uW}(eZ:0<sz)(IH:∀(cs:List ym) (d:xU H) (ps:List wQ),DataW.trod enc P w 0 (fun _=>ydB) held bw e cs=GR (d,ps)->aA ae m S w (f d) cs/\aF (f d)=ydB/\cs.length=sz):
  ∀(k j:Nat) (xs:List (xU H×List wQ)),(xT j k).mapM (fun i=>(w.cells? 0 (a.add (i*sz)) sz).bind (DataW.trod enc P w 0 (fun _=>ydB) held bw e))=GR xs->
   b9 ae m S w ((xs.map (·.1)).flatMap f) a.block (a.off+j*sz)/\aF ((xs.map (·.1)).flatMap f)=ydB/\((xs.map (·.1)).flatMap f).length=k*sz/\xs.length=k/\(0<k->a.spot=GS\/0<j)
 | 0,j,xs,h=>by
  simp only[ybQ,yaU,vt,yc] at h;subst h;simp[b9,aF]
 | k+1,j,xs,h=>by
  rw[vX,ta] at h
  cases h1:(w.cells? 0 (a.add (j*sz)) sz) with
  | none=>simp[h1] at h
  | some us=>
   cases h2:DataW.trod enc P w 0 (fun _=>ydB) held bw e us with
   | none=>simp[h1,h2] at h
   | some x=>
    cases h3:(xT (j+1) k).mapM (fun i=>(w.cells? 0 (a.add (i*sz)) sz).bind (DataW.trod enc P w 0 (fun _=>ydB) held bw e)) with
    | none=>simp[h1,h2,h3] at h
    | some ys=>
     simp only[h1,h2,h3,wM,ug,vt,yc] at h;subst h;have⟨d,ps⟩:=x;have⟨g1,g2,g3⟩:=IH us d ps h2;have⟨k1,k2,k3,k4,_⟩:=Vm eZ IH k (j+1) ys h3;have⟨_,c2,c3⟩:=World.cells?_some h1;have hl:(f d).length=sz:=by rw[adm g1,g3]
     have hc:∀(i:Nat) (u:ym),us[i]? =GR u->w.cell? ⟨a.block,a.off+j*sz+i,GS⟩=GR u:=by
      intro i u hi;have CI:i<sz:=by grind
      have h:=c3 i CI;rw[hi] at h
      have:=(afs h).1
      rwa[apq,atB] at this
     refine⟨?_,?_,?_,by simp[k4],?_⟩
     .simp only [xb,ybF];refine adl (G3 _ us _ g1 hc) ?_
      grind
     .simp only [xb,ybF];exact O5 g2 k2
     .grind
     .intro _;rcases xi j with hj | hj
      .left
       have h:=c3 0 eZ;have hu:us[0]? =GR us[0]:=by simp_all
       rw[hu] at h
       have:=(afs h).2 rfl
       subst hj;simpa[Addr.add] using this
      .grind
def acv{bw N:Nat}{n:Nat}{cs:List ym}(hN:cs.length=N)(IH:∀(t:yB) (cs:List ym) (d:xU H) (ps:List wQ),flat P n t=ydB->DataW.trod enc P w 0 (fun _=>ydB) held bw t cs=GR (d,ps)->aA ae m S w (df P n t d) cs/\aF (df P n t d)=ydB/\cs.length=P.cellsOf t):
  ∀(r:List uj) (o:Nat) (xs:List (xU H×List wQ)),GY P (fun u=>flat P n u) r o N=ydB->r.mapM (fun f=>DataW.trod enc P w 0 (fun _=>ydB) held bw f.type ((cs.drop f.offset).take (P.cellsOf f.type)))=GR xs->
   aA ae m S w ((r.zip (xs.map (·.1))).flatMap fun x=>df P n x.1.type x.2) (cs.drop o)/\aF ((r.zip (xs.map (·.1))).flatMap fun x=>df P n x.1.type x.2)=ydB
 | [],o,xs,hf,h=>by
  have:=yi hf
  rw[y9 (by lia)];simp[aA,aF]
 | f::r,o,xs,hf,h=>by
  simp only[GY,yf] at hf;have⟨e1,e2,e3⟩:=hf;have e1:=yi e1;rw[ta] at h
  cases h2:DataW.trod enc P w 0 (fun _=>ydB) held bw f.type ((cs.drop f.offset).take (P.cellsOf f.type)) with
  | none=>simp[h2] at h
  | some x=>
   cases h3:r.mapM (fun f=>DataW.trod enc P w 0 (fun _=>ydB) held bw f.type ((cs.drop f.offset).take (P.cellsOf f.type))) with
   | none=>simp[h2,h3] at h
   | some ys=>
    simp only[h2,h3,wM,ug,vt,yc] at h;subst h;have⟨d,ps⟩:=x;have⟨g1,g2,g3⟩:=IH f.type _ d ps e2 h2;have⟨k1,k2⟩:=acv hN IH r _ ys e3 h3;rw[e1] at g1;have e:cs.drop o=(cs.drop o).take (P.cellsOf f.type)++cs.drop (o+P.cellsOf f.type):=by rw[<-vS];exact (wh _ _).symm
    rw[e];exact⟨nZ g1 k1,O5 g2 k2⟩
def aft{bw sz:Nat}{e:yB}{f:xU H->List AV}{cs:List ym}(IH:∀(cs:List ym) (d:xU H) (ps:List wQ),DataW.trod enc P w 0 (fun _=>ydB) held bw e cs=GR (d,ps)->aA ae m S w (f d) cs/\aF (f d)=ydB/\cs.length=sz):
  ∀(k j:Nat) (xs:List (xU H×List wQ)),(xT j k).mapM (fun i=>DataW.trod enc P w 0 (fun _=>ydB) held bw e ((cs.drop (i*sz)).take sz))=GR xs->cs.length=(j+k)*sz->
   aA ae m S w ((xs.map (·.1)).flatMap f) (cs.drop (j*sz))/\aF ((xs.map (·.1)).flatMap f)=ydB
 | 0,j,xs,h,hl=>by
  simp only[ybQ,yaU,vt,yc] at h;subst h;rw[y9 (by rw[hl];simp)]
  simp[aA,aF]
 | k+1,j,xs,h,hl=>by
  rw[vX,ta] at h
  cases h2:DataW.trod enc P w 0 (fun _=>ydB) held bw e ((cs.drop (j*sz)).take sz) with
  | none=>simp[h2] at h
  | some x=>
   cases h3:(xT (j+1) k).mapM (fun i=>DataW.trod enc P w 0 (fun _=>ydB) held bw e ((cs.drop (i*sz)).take sz)) with
   | none=>simp[h2,h3] at h
   | some ys=>
    simp only[h2,h3,wM,ug,vt,yc] at h;subst h;have⟨d,ps⟩:=x;have⟨g1,g2,g3⟩:=IH _ d ps h2;have⟨k1,k2⟩:=aft IH k (j+1) ys h3 (by rw[hl];congr 1;lia)
    have e:cs.drop (j*sz)=(cs.drop (j*sz)).take sz++cs.drop ((j+1)*sz):=by rw[xS,tM,<-vS];exact (wh _ _).symm
    rw[e];exact⟨nZ g1 k1,O5 g2 k2⟩
def aed(hS:∀b,b<w.heap.size->S b):∀(n bw:Nat) (t:yB) (cs:List ym) (d:xU H) (ps:List wQ),flat P n t=ydB->DataW.trod enc P w 0 (fun _=>ydB) held bw t cs=GR (d,ps)->
  aA ae m S w (df P n t d) cs/\aF (df P n t d)=ydB/\cs.length=P.cellsOf t
 | 0,bw,t,cs,d,ps,hf,h=>by simp[flat] at hf
 | n+1,0,t,cs,d,ps,hf,h=>by simp[DataW.trod] at h
 | n+1,bw+1,t,cs,d,ps,hf,h=>by
  have IH:=aed hS n bw;unfold DataW.trod at h;simp only[flat] at hf
  split at h
  .rename_i hu;simp only[hu] at hf;simp only[yc,yr] at h;obtain⟨rfl,rfl⟩:=h;simp only[df,hu];exact⟨by simp[aA,af],by simp[aF,aX],by rw[yi hf];rfl⟩
  .rename_i hu;simp only[hu] at hf
   split at h
   .rename_i hk;simp only[yc,yr] at h;obtain⟨rfl,rfl⟩:=h;simp only[df,hu];refine⟨?_,by simp[aF,aX],by rw[yi hf];rfl⟩
    rw[hk.1];simp[aA,af]
   .cases h
  .rename_i hu;simp only[hu] at hf
   split at h
   .rename_i hk;simp only[yc,yr] at h;obtain⟨rfl,rfl⟩:=h;simp only[df,hu];refine⟨?_,by simp[aF,aX],by rw[yi hf];rfl⟩
    rw[hk.1];simp[aA,af]
   .cases h
  .rename_i hu;simp only[hu] at hf
   split at h
   .simp only [yc,yr] at h;obtain⟨rfl,rfl⟩:=h;simp only[df,hu];refine⟨?_,by simp[aF,aX],by rw[yi hf];rfl⟩
    simp only[aA,af];exact⟨_,_,rfl,⟨_,rfl,rfl⟩,rfl⟩
   .cases h
  .rename_i hu;simp[hu] at hf
  .rename_i hu;simp[hu] at hf
  .rename_i hu;simp only[hu,yf] at hf;simp only[yc,yr] at h;obtain⟨rfl,rfl⟩:=h;simp only[df,hu];exact⟨by simp[aA,af],by simp[aF,aX],by rw[yi hf.1];rfl⟩
  .rename_i e a len cap hu;simp only[hu,yf] at hf;have⟨f1,f2,f3⟩:=hf;have eZ:=se.1 f2;simp only at h
   split at h
   case isFalse=>cases h
   rename_i hc;simp only[xN] at h
   cases h1:(wq len).mapM fun i=>(w.cells? 0 (a.add (i*P.cellsOf e)) (P.cellsOf e)).bind (DataW.trod enc P w 0 (fun _=>ydB) held bw e) with
   | none=>rw[h1] at h;simp at h
   | some lJ=>
    cases h2:(wq (cap-len)).mapM fun j=>(w.cells? 0 (a.add ((len+j)*P.cellsOf e)) (P.cellsOf e)).bind (DataW.trod enc P w 0 (fun _=>ydB) held bw e) with
    | none=>rw[h1] at h;simp[h2] at h
    | some rest=>
     rw[h1] at h;simp only[wM,h2,wS,yc,yr] at h;obtain⟨rfl,rfl⟩:=h;have hIH:=fun cs d ps h=>IH e cs d ps f3 h
     rw[yap] at h1 h2;have⟨k1,k2,k3,k4,k5⟩:=Vm (ae:=ae) (m:=m) (S:=S) eZ hIH len 0 lJ h1;have NT:rest.length=cap-len:=by rw[Pj h2];simp
     have kR:cap≠0->a.spot=GS:=by
      intro YJ;rcases xi len with h0 | h0
      .subst h0;simp only[yd,ycS] at h2;have⟨_,_,_,_,q5⟩:=Vm (ae:=ae) (m:=m) (S:=S) eZ hIH cap 0 rest h2;exact (q5 (by lia)).resolve_right (by lia)
      .exact (k5 h0).resolve_right (by lia)
     simp only[df,hu,y5];refine⟨?_,by simp[aF,aX],by rw[yi f1];rfl⟩
     simp only[aA];refine⟨_,_,rfl,?_,rfl⟩;simp only[af];by_cases YJ:cap=0
     .subst YJ;have mE:len=0:=by lia
      subst mE;have he:lJ=[]:=yE k4;subst he;exact .inr ⟨a,rfl,rfl,rfl⟩
     .have ⟨b,o,sp⟩:=a;have kR:=kR YJ;simp only at kR;subst kR;refine .inl ⟨b,o,cap,by rw[k4],by lia,fun hx=>?_,?_,k2,by simpa using k1⟩
      .have:rest.length=0:=by simpa using hx
       lia
      .generalize hg:((lJ.map (·.1)).flatMap fun x=>df P n e x)=l at k1
       cases l with
       | nil=>exact .inl rfl
       | cons c l=>exact .inr (hS b (arj k1))
  .rename_i Bp x1 NU fs hu;simp only[hu] at hf
   split at h
   case isFalse=>cases h
   rename_i hlen
   cases h1:fs.toList.mapM fun f=>DataW.trod enc P w 0 (fun _=>ydB) held bw f.type ((Bp.drop f.offset).take (P.cellsOf f.type)) with
   | none=>rw[h1] at h;simp at h
   | some xs=>
    rw[h1] at h;simp only[wS,yc,yr] at h;obtain⟨rfl,rfl⟩:=h;have⟨k1,k2⟩:=acv hlen (fun t cs d ps hf h=>IH t cs d ps hf h) fs.toList 0 xs hf h1;simp only[df,hu];exact⟨by simpa using k1,k2,hlen⟩
  .rename_i Bp x1 NU k e hu;simp only[hu,yf] at hf;have⟨f1,f2⟩:=hf;have f1:=yi f1
   split at h
   case isFalse=>cases h
   rename_i hlen
   cases h1:(wq k).mapM fun i=>DataW.trod enc P w 0 (fun _=>ydB) held bw e ((Bp.drop (i*P.cellsOf e)).take (P.cellsOf e)) with
   | none=>rw[h1] at h;simp at h
   | some xs=>
    rw[h1] at h;simp only[wS,yc,yr] at h;obtain⟨rfl,rfl⟩:=h;rw[yap] at h1;have⟨k1,k2⟩:=aft (ae:=ae) (m:=m) (S:=S) (fun cs d ps h=>IH e cs d ps f2 h) k 0 xs h1 (by rw[hlen,f1];simp)
    simp only[df,hu];exact⟨by simpa using k1,k2,hlen⟩
  all_goals first
   | (cases h;done)
   | (simp_all;done)
def nG(P:xp)(n:Nat)(t:yB)(d:xU H):AV:=
 match P.underlying t with
 | some (.struct _) | some (.array _ _)=>.agg (df P n t d)
 | _=>(df P n t d).headD .undef
def atD(hS:∀b,b<w.heap.size->S b){n:Nat}{t:yB}{v:ym}{d:xU H}{ps:List wQ}(hf:flat P n t=ydB)(h:DataW.Trod enc P w 0 (fun _=>ydB) held t v d ps)(hv:Value.okWide P w .any base t v):af ae m S w (nG P n t d) v/\aX (nG P n t d)=ydB:=by
 have⟨bw,h⟩:=h;have⟨h1,h2,h3⟩:=aed (ae:=ae) (m:=m) hS n bw t _ d ps hf h;have one:v.cells=#[v]->(∀fs,P.underlying t≠GR (.struct fs))->(∀k e,P.underlying t≠GR (.array k e))->af ae m S w (nG P n t d) v/\aX (nG P n t d)=ydB:=by
  intro hc IF hna;have e:nG P n t d=(df P n t d).headD .undef:=by
   unfold nG
   grind
  rw[e];rw[hc] at h1;generalize df P n t d=l at h1 h2
  cases l with
  | nil=>simp[aA] at h1
  | cons x l=>
   simp only[aA] at h1;simp only[aF,yf] at h2
   grind
 cases n with
 | zero=>simp[flat] at hf
 | succ n=>
  unfold Value.okWide at hv;simp only[flat] at hf
  cases hu:P.underlying t with
  | none=>simp[hu] at hf
  | some ty=>
   rw[hu] at hv hf;cases ty<;>simp only[yD] at hf hv
   case struct fs=>
    obtain⟨cs,rfl,_,_⟩:=hv;have e:nG P (n+1) t d=.agg (df P (n+1) t d):=by simp only[nG,hu]
    rw[e];exact⟨by simp only[af];exact⟨cs,rfl,h1⟩,by simpa only[aX] using h2⟩
   case array k e=>
    obtain⟨cs,rfl,_,_⟩:=hv;have e:nG P (n+1) t d=.agg (df P (n+1) t d):=by simp only[nG,hu]
    rw[e];exact⟨by simp only[af];exact⟨cs,rfl,h1⟩,by simpa only[aX] using h2⟩
   all_goals
    refine one ?_ (by simp[hu]) (by simp[hu])
    cases v with
    | agg cs=>exfalso;simp only[Cell.okWide,Cell.ok,hu] at hv
    | _=>rfl
def B3(P:xp)(n:Nat):List yB->List (xU H)->List AV
 | t::ts,d::ds=>nG P n t d::B3 P n ts ds
 | _,_=>[]
def aee(hS:∀b,b<w.heap.size->S b){n base:Nat}:∀{ts:List yB} {vs:List ym} {ds:List (xU H)} {ps:List wQ},ts.all (flat P n)=ydB->DataW.TrodAll enc P w 0 (fun _=>ydB) held ts vs ds ps->
  (∀(j:Nat) t v,ts[j]? =GR t->vs[j]? =GR v->Value.okWide P w .any base t v)->aA ae m S w (B3 P n ts ds) vs/\aF (B3 P n ts ds)=ydB
 | [],[],[],_,_,_,_=>by simp[B3,aA,aF]
 | t::ts,v::vs,d::ds,ps,hf,h,hv=>by
  simp only[yaB,yf] at hf;have⟨p,q,h1,h2,_⟩:=h;have⟨a1,a2⟩:=atD (ae:=ae) (m:=m) hS hf.1 h1 (hv 0 t v rfl rfl);have⟨b1,b2⟩:=aee hS hf.2 h2 (fun j t v h1 h2=>hv (j+1) t v h1 h2);simp only[B3,aA,aF,yf]
  grind
 | [],_::_,_,_,_,h,_=>by simp[DataW.TrodAll] at h
 | [],[],_::_,_,_,h,_=>by simp[DataW.TrodAll] at h
 | _::_,[],_,_,_,h,_=>by simp[DataW.TrodAll] at h
 | _::_,_::_,[],_,_,h,_=>by simp[DataW.TrodAll] at h
end
end
section
open Go
section
variable {H:Type}{enc:yB×ym->H}{P:xp}{w w':yo}{held:Bool}{sp:Nat->Bool}
def aok(hs:∀b,b<w.heap.size->w'.heap[b]? =w.heap[b]?){a:uW}{u:ym}(h:w.cell? a=GR u):w'.cell? a=GR u:=by
 unfold World.cell? at h ⊢
 grind
def anP(hs:∀b,b<w.heap.size->w'.heap[b]? =w.heap[b]?){a:uW}{n:Nat}{us:List ym}(h:w.cells? base a n=GR us):w'.cells? base a n=GR us:=by
 unfold World.cells? at h ⊢
 split at h
 .rename_i hb;rw[yC hb];exact mapM_carry h (fun x y _ _ hx=>aok hs hx)
 .cases h
def atE{a:uW}{n:Nat}(h:0<n):MemPlace.cell a.block (a.off+0)∈MemPlace.row a n:=by
 unfold MemPlace.row
 simp_all
def acw(hs:∀b,b<w.heap.size->w'.heap[b]? =w.heap[b]?):∀(n bw:Nat) (t:yB) (cs:List ym) (d:xU H) (ps:List wQ),flat P n t=ydB->DataW.trod enc P w 0 (fun _=>ydB) held bw t cs=GR (d,ps)->
  (∀p,p∈ps->sp p.block=ydB)->DataW.trod enc P w' 0 sp held bw t cs=GR (d,ps)
 | 0,bw,t,cs,d,ps,hf,h,hp=>by simp[flat] at hf
 | n+1,0,t,cs,d,ps,hf,h,hp=>by simp[DataW.trod] at h
 | n+1,bw+1,t,cs,d,ps,hf,h,hp=>by
  have IH:=acw hs n bw;have elem:∀{e:yB} {a:uW} {y:xU H×List wQ},flat P n e=ydB->(w.cells? 0 a (P.cellsOf e)).bind (DataW.trod enc P w 0 (fun _=>ydB) held bw e)=GR y->(∀p,p∈y.2->sp p.block=ydB)->
    (w'.cells? 0 a (P.cellsOf e)).bind (DataW.trod enc P w' 0 sp held bw e)=GR y:=by
   intro e a y he h hq
   cases h1:w.cells? 0 a (P.cellsOf e) with
   | none=>simp[h1] at h
   | some us=>
    rw[h1] at h;rw[anP hs h1]
    grind
  unfold DataW.trod at h ⊢;simp only[flat] at hf
  split at h
  .grind
  .grind
  .grind
  .grind
  .grind
  .grind
  .grind
  .rename_i e a len cap hu;simp only[hu,yf] at hf;obtain⟨f1,f2,f3⟩:=hf;have eZ:=se.1 f2;simp only at h ⊢
   split at h
   case isFalse=>cases h
   rename_i hc;rw[yC hc];simp only[xN] at h
   cases h1:(wq len).mapM fun i=>(w.cells? 0 (a.add (i*P.cellsOf e)) (P.cellsOf e)).bind (DataW.trod enc P w 0 (fun _=>ydB) held bw e) with
   | none=>rw[h1] at h;simp at h
   | some lJ=>
    cases h2:(wq (cap-len)).mapM fun j=>(w.cells? 0 (a.add ((len+j)*P.cellsOf e)) (P.cellsOf e)).bind (DataW.trod enc P w 0 (fun _=>ydB) held bw e) with
    | none=>rw[h1] at h;simp[h2] at h
    | some rest=>
     rw[h1] at h;simp only[wM,h2,wS,yc,yr] at h;obtain⟨rfl,rfl⟩:=h;have k1:((wq len).mapM fun i=>(w'.cells? 0 (a.add (i*P.cellsOf e)) (P.cellsOf e)).bind (DataW.trod enc P w' 0 sp held bw e))=GR lJ:=
      mapM_carry h1 (fun x y _ hy hx=>elem f3 hx (fun p hq=>hp p (ux _ (tF.2 ⟨y,tX _ hy,hq⟩))))
     have k2:((wq (cap-len)).mapM fun j=>(w'.cells? 0 (a.add ((len+j)*P.cellsOf e)) (P.cellsOf e)).bind (DataW.trod enc P w' 0 sp held bw e))=GR rest:=
      mapM_carry h2 (fun x y _ hy hx=>elem f3 hx (fun p hq=>hp p (ux _ (tF.2 ⟨y,ux _ hy,hq⟩))))
     have hr:(if sp a.block=ydB then (wq (cap-len)).mapM fun j=>(w'.cells? 0 (a.add ((len+j)*P.cellsOf e)) (P.cellsOf e)).bind (DataW.trod enc P w' 0 sp held bw e) else GR [])=GR rest:=by
      by_cases kR:sp a.block=ydB
      .rw [yC kR];exact k2
      .rw [yq kR];have h0:¬0<(lJ.length+rest.length)*P.cellsOf e:=fun h0=>kR (hp _ (tX _ (atE h0)))
       have hz:lJ.length+rest.length=0:=by
        rcases xi (lJ.length+rest.length) with h | h
        .exact h
        .exact (h0 (vd h eZ)).elim
       have:rest=[]:=yE (by omega)
       rw[this]
     rw[k1];simp only[wM];rw[hr];rfl
  .rename_i Bp x1 NU fs hu;simp only[hu] at hf
   split at h
   case isFalse=>cases h
   rename_i hlen;rw[yC hlen]
   cases h1:fs.toList.mapM fun f=>DataW.trod enc P w 0 (fun _=>ydB) held bw f.type ((Bp.drop f.offset).take (P.cellsOf f.type)) with
   | none=>rw[h1] at h;simp at h
   | some xs=>
    rw[h1] at h;simp only[wS,yc,yr] at h;obtain⟨rfl,rfl⟩:=h;have nj:∀(r:List uj) (o:Nat),GY P (fun u=>flat P n u) r o (P.cellsOf t)=ydB->∀f,f∈r->flat P n f.type=ydB:=by
     intro r
     induction r with
     | nil=>intro o _ f hm;cases hm
     | cons g r ih=>
      intro o hq f hm;simp only[GY,yf] at hq;rcases List.mem_cons.1 hm with rfl | hm
      .exact hq.2.1
      .exact ih _ hq.2.2 f hm
    have k1:(fs.toList.mapM fun f=>DataW.trod enc P w' 0 sp held bw f.type ((Bp.drop f.offset).take (P.cellsOf f.type)))=GR xs:=
     mapM_carry h1 (fun f y hm hy hx=>IH _ _ y.1 y.2 (nj _ _ hf f hm) hx (fun p hq=>hp p (tF.2 ⟨y,hy,hq⟩)))
    rw[k1];rfl
  .rename_i Bp x1 NU k e hu;simp only[hu,yf] at hf
   split at h
   case isFalse=>cases h
   rename_i hlen;rw[yC hlen]
   cases h1:(wq k).mapM fun i=>DataW.trod enc P w 0 (fun _=>ydB) held bw e ((Bp.drop (i*P.cellsOf e)).take (P.cellsOf e)) with
   | none=>rw[h1] at h;simp at h
   | some xs=>
    rw[h1] at h;simp only[wS,yc,yr] at h;obtain⟨rfl,rfl⟩:=h;have k1:((wq k).mapM fun i=>DataW.trod enc P w' 0 sp held bw e ((Bp.drop (i*P.cellsOf e)).take (P.cellsOf e)))=GR xs:=
     mapM_carry h1 (fun i y _ hy hx=>IH _ _ y.1 y.2 hf.2 hx (fun p hq=>hp p (tF.2 ⟨y,hy,hq⟩)))
    rw[k1];rfl
  all_goals first
   | (cases h;done)
   | (simp_all;done)
def abC(hs:∀b,b<w.heap.size->w'.heap[b]? =w.heap[b]?){n:Nat}:∀{ts:List yB} {vs:List ym} {ds:List (xU H)} {ps:List wQ},ts.all (flat P n)=ydB->DataW.TrodAll enc P w 0 (fun _=>ydB) held ts vs ds ps->
  (∀p,p∈ps->sp p.block=ydB)->DataW.TrodAll enc P w' 0 sp held ts vs ds ps
 | [],[],[],ps,_,h,_=>by simpa only[DataW.TrodAll] using h
 | t::ts,v::vs,d::ds,ps,hf,h,hp=>by
  simp only[yaB,yf] at hf;obtain⟨p,q,⟨bw,h1⟩,h2,rfl⟩:=h;exact⟨p,q,⟨bw,acw hs n bw t _ d p hf.1 h1 (fun x hx=>hp x (tX _ hx))⟩,abC hs hf.2 h2 (fun x hx=>hp x (ux _ hx)),rfl⟩
 | [],_::_,_,_,_,h,_=>by simp[DataW.TrodAll] at h
 | [],[],_::_,_,_,h,_=>by simp[DataW.TrodAll] at h
 | _::_,[],_,_,_,h,_=>by simp[DataW.TrodAll] at h
 | _::_,_::_,[],_,_,h,_=>by simp[DataW.TrodAll] at h
end
end
section
open Go Go.ChangeShapes Go.WideShapes
section
variable {H:Type}{enc:yB×ym->H}{P:xp}{W W':yo}
def apr(hc:Calm W W')(may:wQ->Prop):W.keptBut W' may:=by
 refine⟨hc.os,hc.output,fun i hi=>?_⟩;rw[hc.same i hi]
 cases hq:W.heap[i]? with
 | none=>rfl
 | some o=>cases o<;>simp
def anQ(hc:Calm W W'){b off:Nat}(hb:b<W.heap.size):W'.frozen? ⟨b,off,GS⟩=W.frozen? ⟨b,off,GS⟩:=by
 unfold World.frozen?;rw[hc.same b hb]
def ark{fn:Func}{s:ycT}{args:Array ym}{ds gs:List (xU H)}{before:List wQ}{n:Nat}{tb:yB}(hW:DataW.Whole enc P fn.params.toList s.vars apart W args.toList ds gs before)(hv:s.vars=[])(QU:fn.params.toList.all (flat P n)=ydB)(hc:Calm W W')(nn:s.fn H (ds++gs)={results:=[.lit (.bool ydB)],args:=ds})(oK:fn.resultTypes=#[tb])(mJ:P.underlying tb=GR .bool):
  s.post enc P fn apart fresh handsOn again W args (.bool ydB) W':=by
 have aG:=hW.lt;have hW0:=hW;obtain⟨p,q,hA,hV,hpq,hz,hn⟩:=hW;rw[hv] at hV;have hq:gs=[]/\q=[]:=by
  cases gs with
  | nil=>exact⟨rfl,by simpa only[DataW.TrodVars] using hV⟩
  | cons g gs=>simp[DataW.TrodVars] at hV
 obtain⟨rfl,rfl⟩:=hq;have hbp:before=p:=by simp_all
 subst hbp;have fF:∀sp:Nat->Bool,(∀p∈before,sp p.block=ydB)->DataW.TrodAll enc P W' 0 sp ydB fn.params.toList args.toList ds before:=fun sp h=>abC hc.same QU hA h
 have ahP:∀(b:Nat) (sp:Nat->Bool) (hd:Bool),DataW.TrodAll enc P W' b sp hd fn.resultTypes.toList ((Value.bool ydB).resultList fn.resultTypes.size) [.lit (.bool ydB)] []:=by
  intro b sp hd;rw[oK];refine⟨[],[],⟨1,?_⟩,rfl,rfl⟩;simp[DataW.trod,mJ,Value.cells]
 have hold:∀p∈before,(fun b=>decide (b<W.heap.size)) p.block=ydB:=fun p hp=>by simpa using aG p hp
 have ahQ:∀sp:Nat->Bool,DataW.TrodVars enc P W' sp s.vars ([]:List (xU H)) []:=fun sp=>by rw[hv];rfl
 refine⟨ds,[],before,[],before,[],hW0,by rw[nn];exact ahP _ _ _,by rw[nn];exact fF _ hold,by rw[nn];exact ahQ _,apr hc _,fun _=>?_⟩
 refine⟨?_,[.lit (.bool ydB)]++ds,[],[]++before++[],⟨[]++before,[],trodAll_append (fF _ (fun _ _=>rfl)) (ahP _ _ _),ahQ _,rfl,?_,?_⟩,?_⟩
 .intro j t r h1 h2;rw[oK] at h1 h2
  cases j with
  | zero=>
   simp only[List.getElem?_toArray,uv,yc] at h1;simp only[Value.resultList,List.size_toArray,yH,yR,xN,yd,uv,yc] at h2;subst h1;subst h2;simp[Value.okWide,mJ,Cell.okWide,Cell.ok]
  | succ j=>simp at h1
 .intro b off hp;have hp:MemPlace.cell b off∈before:=by grind
  rw[anQ hc (b:=b) (aG _ hp)];exact hz b off hp
 .grind
 .grind
def aps{O:bE}{n k:Nat}{fn:Func}{s:ycT}{args:Array ym}{ds gs:List (xU H)}{before:List wQ}{tb:yB}(hp:eR O n (B3 O.P k fn.params.toList ds) (.bool ydB))(Ej:O.w0=W)(nn:O.P.funcs[O.ae n]? =GR fn)(hb:fn.body.isSome=ydB)(rJ:fn.name≠ "runtime.NumGoroutine")(aM:∀(j:Nat) t v,fn.params[j]? =GR t->args[j]? =GR v->Value.okWide O.P W .any base t v)(hW:DataW.Whole enc O.P fn.params.toList s.vars apart W args.toList ds gs before)(hv:s.vars=[])(QU:fn.params.toList.all (flat O.P k)=ydB)(hfs:s.fn H (ds++gs)={results:=[.lit (.bool ydB)],args:=ds})(oK:fn.resultTypes=#[tb])(mJ:O.P.underlying tb=GR .bool):
  Calls O.P (O.ae n) args W fun e W'=>∃v,e=.returned v/\s.post enc O.P fn apart fresh handsOn again W args v W':=by
 have hA:=hW;obtain⟨p,q,hA,_⟩:=hA;obtain⟨h1,h2⟩:=aee (ae:=O.ae) (m:=fI) (S:=fun b=>b<W.heap.size) (fun b hb=>hb) QU hA (fun j t v a b=>aM j t v (by simpa using a) (by simpa using b));have hi:=hp W (fun b=>b<W.heap.size) args ⟨fun b _=>by rw[Ej],by rw[Ej];exact yz _⟩ (fun b hb=>hb) h1 h2
 have key:∀e W',adW O W (fun b=>b<W.heap.size) (.bool ydB) e W'->∃v,e=.returned v/\s.post enc O.P fn apart fresh handsOn again W args v W':=by
  rintro e W' ⟨u,S',rfl,hc,_,_,_,hr⟩;obtain⟨_,_,hu,_⟩:=hr;subst hu;exact⟨_,rfl,ark hW hv QU hc hfs oK mJ⟩
 rcases hi with ⟨_,hi⟩ | ⟨u,w',hi,_⟩
 .exact callsIn_wide.1 (hi.mono key)
 .rw [G6 nn hb rJ] at hi;cases hi
end
end
namespace J1
open Go Go.Proofs
noncomputable def O(W:yo):bE:=⟨Tryz.prog,VE.aK,Ch nT.ae,VE.prog,QN nT.bn nT.hd,W⟩
def adn{w:yo}{k:Nat}{os:Array Go.Obj}:Calm w (Go.Sort.grow (w.drewN k) os):=Kd (Lib.below_grow w.heap.size w (yz _) k os)
def aef{W w:yo}(h:Lib.TabIs Tryz.prog W "internal/strconv.uint64pow10" .u64 Lib.pow10Tab)(hg:Dz (O W) w):Lib.TabIs Tryz.prog w "internal/strconv.uint64pow10" .u64 Lib.pow10Tab:=by
 unfold Lib.TabIs World.var? at h ⊢
 cases hn:Tryz.prog.globalNamed "internal/strconv.uint64pow10" with
 | none=>rw[hn] at h;exact h
 | some g=>
  rw[hn] at h;simp only[wM] at h ⊢;have hb:g<W.heap.size:=by
   cases hq:W.heap[g]? with
   | none=>rw[hq] at h;cases h
   | some o=>exact (xx.1 hq).1
  rw[hg.1 g hb];exact h
def aBV:∀args w,(callFunc 145 args).run Tryz.prog w=.ok (.enter 145 args) w:=enters_of Tryz.func145 (by kernel_rfl) rfl
def aBW:∀args w,(callFunc 212 args).run Tryz.prog w=.ok (.enter 212 args) w:=enters_of Tryz.func212 (by kernel_rfl) rfl
def aBX:∀args w,(callFunc 249 args).run Tryz.prog w=.ok (.enter 249 args) w:=enters_of Tryz.func249 (by kernel_rfl) rfl
def aBY:∀args w,(callFunc 251 args).run Tryz.prog w=.ok (.enter 251 args) w:=enters_of Tryz.func251 (by kernel_rfl) rfl
def aBZ:∀args w,(callFunc 252 args).run Tryz.prog w=.ok (.enter 252 args) w:=enters_of Tryz.func252 (by kernel_rfl) rfl
def aB0:∀args w,(callFunc 225 args).run Tryz.prog w=.ok (.enter 225 args) w:=enters_of Tryz.func225 (by kernel_rfl) rfl
def aB1:∀args w,(callFunc 218 args).run Tryz.prog w=.ok (.enter 218 args) w:=enters_of Tryz.func218 (by kernel_rfl) rfl
def aB2:∀args w,(callFunc 219 args).run Tryz.prog w=.ok (.enter 219 args) w:=enters_of Tryz.func219 (by kernel_rfl) rfl
def aB3:∀args w,(callFunc 220 args).run Tryz.prog w=.ok (.enter 220 args) w:=enters_of Tryz.func220 (by kernel_rfl) rfl
def aB4:∀args w,(callFunc 266 args).run Tryz.prog w=.ok (.enter 266 args) w:=enters_of Tryz.func266 (by kernel_rfl) rfl
def aB5:∀args w,(callFunc 278 args).run Tryz.prog w=.ok (.enter 278 args) w:=enters_of Tryz.func278 (by kernel_rfl) rfl
def aB6:∀args w,(callFunc 259 args).run Tryz.prog w=.ok (.enter 259 args) w:=enters_of Tryz.func259 (by kernel_rfl) rfl
def atF(b:Nat)(w:yo):(callFunc 277 #[.float .f64 b]).run Tryz.prog w=.ok (.value (.int .u64 b)) w:=by
 rw[run_callFunc_extern Tryz.func277 (by kernel_rfl) (by kernel_rfl) (by kernel_rfl) (e:=Extern.MathFloatBits.float64bits) (by kernel_rfl)];rfl
def anR(b:Nat)(w:yo):(callFunc 276 #[.int .u64 b]).run Tryz.prog w=.ok (.value (.float .f64 b)) w:=by
 rw[run_callFunc_extern Tryz.func276 (by kernel_rfl) (by kernel_rfl) (by kernel_rfl) (e:=Extern.MathFloatBits.float64frombits) (by kernel_rfl)];rfl
def aAf(W:yo)(n:Nat)(sp:List AV->Option AV):Prop:=∀ax r,sp ax=GR r->eR (O W) n ax r
section
variable {W:yo}{m:Int}(hm:W.cell? ⟨4,0,GS⟩=GR (.int .i64 m))(ht:Lib.TabIs Tryz.prog W "internal/strconv.uint64pow10" .u64 Lib.pow10Tab)
include hm ht
theorem awW:ai9.nl (aAf W):=
 (Tr.lI (ara (O:=O W) (f:=220) (by rfl) aB3 (fun s z w hl h=>(Tryz.strconv_Atoi s z hl h w).mono fun _ _ ⟨h1,t,h2⟩=>⟨h1,h2▸Kd (Lib.bytesWorld_below _ _ _)⟩))
  (Tr.lI (aoi (O:=O W) (f:=252) (by rfl) aBZ Tryz.strings_Repeat)
  (Tr.lI (aq9 (O:=O W) (f:=249) (by rfl) aBX (fun z w h0 h1 hg=>(Tryz.strconv_Itoa z h0 h1 w (aef ht hg)).mono fun _ _ ⟨h1,k,os,h2⟩=>⟨h1,h2▸adn⟩))
  (Tr.lI (ana (O:=O W) (f:=212) (by rfl) aBW Tryz.strings_CutPrefix)
  (Tr.lI (atm (O:=O W) (f:=145) (by rfl) aBV (a:=⟨4,0,GS⟩) (m:=m) hm (fun s sep w hs hc=>Tryz.strings_Cut s sep m w hs hc))
  Tr.kL Tr.kL) Tr.kL) (Tr.lI (am8 (O:=O W) (f:=251) (by rfl) aBY (fun z w hz hg=>(Tryz.amZ z hz w (aef ht hg)).mono fun _ _ ⟨h1,k,os,h2⟩=>⟨h1,h2▸adn⟩))
  Tr.kL Tr.kL)) (Tr.lI (anb (O:=O W) (f:=218) (by rfl) aB1 Tryz.strings_HasPrefix)
  (Tr.lI (api (O:=O W) (f:=225) (by rfl) aB0 (fun x y w hx hy=>Tryz.bits_Mul64 x y hx hy w))
  Tr.kL Tr.kL) (Tr.lI (am7 (O:=O W) (f:=219) (by rfl) aB2 Tryz.strings_TrimPrefix)
  Tr.kL Tr.kL))) (Tr.lI (apl (O:=O W) (f:=274) (by rfl) (fun x y b w h=>Tryz.bits_Sub64 x y b h w))
  (Tr.lI (arb (O:=O W) (f:=278) (by rfl) aB5 (fun x w h0 h1=>Tryz.bits_LeadingZeros64 x w h0 h1))
  (Tr.lI (aq8 (O:=O W) (f:=266) (by rfl) aB4 (fun s cs w hs iG ha=>Tryz.anq s cs w hs iG ha))
  Tr.kL Tr.kL) (Tr.lI (apk (O:=O W) (f:=272) (by rfl) (fun x y c w h=>Tryz.bits_Add64 x y c h w))
  Tr.kL Tr.kL)) (Tr.lI (anE (O:=O W) (f:=277) (by rfl) atF)
  (Tr.lI (apj (O:=O W) (f:=259) (by rfl) aB6 (fun x w h0 h1=>Tryz.bits_Len64 x w h0 h1))
  Tr.kL Tr.kL) (Tr.lI (am4 (O:=O W) (f:=276) (by rfl) anR)
  Tr.kL Tr.kL))))
theorem atG:jo (O W) where
 hint n f g h:=Tr.EU (p:=fun f g=>Ch nT.ae g=f) (UQ nT.av0) h
 mixed:=by kernel_rfl
 prog n F h:=Tr.EU nT.atA h
 aK n sp ax r h hs:=Tr.EU (awW hm ht) h ax r hs
 HX n sp hp ct ax v ap aQ h:=by cases h
end
end J1
def bP:List Int->Int
 | []=>0
 | a::r=>if a=0 then bP r else a
def UE{l:List Int}{i:Nat}(h:i<l.length):bP (l.drop i)=if l[i]=0 then bP (l.drop (i+1)) else l[i]:=by
 rw[yX h,bP]
def qZ(lo hi:Int):List Int->Bool
 | []=>ydC
 | a::r=>if a<lo\/hi<a then ydB else qZ lo hi r
def aeg{lo:Int}{l:List Int}(h:qZ lo hi l=ydC):∀i (b6:i<l.length),lo<=l[i]/\l[i]<=hi:=by
 induction l with
 | nil=>intro i b6;exact absurd b6 (Nat.not_lt_zero _)
 | cons a r ih=>
  simp only[qZ] at h
  grind
def apt{lo:Int}{l:List Int}(h:qZ lo hi l=ydC):∀i,qZ lo hi (l.take i)=ydC:=by
 induction l with
 | nil=>intro i;simp[qZ]
 | cons a r ih=>
  intro i;simp only[qZ] at h
  split at h
  .grind
  .rename_i hc
   cases i with
   | zero=>simp[qZ]
   | succ i=>simp only[List.take_succ_cons,qZ,hc,xv,ih h i]
section
variable {x:Int}{a b l:List Int}
def dv:List Int->Nat
 | []=>0
 | a::r=>a.toNat+1000000000*dv r
def n7:∀(a b:List Int),dv (a++b)=dv a+1000000000^a.length*dv b
 | [],b=>by simp[dv]
 | x::a,b=>by
  simp only[yI,dv,n7 a b,yH,xh,xH]
  grind
def sh(i:Nat):dv (l.take (i+1))=dv (l.take i)+1000000000^i*(l.getD i 0).toNat:=by
 by_cases h:i<l.length
 .rw [xm h,n7,yU,xo (by lia)];simp[dv,yV,xn h]
 .rw [yK (by lia),yK (by lia)]
  grind
abbrev dg(l:List Int):Prop:=qZ 0 999999999 l=ydC
def jl:dg (a++b)↔dg a/\dg b:=by
 induction a with
 | nil=>simp[dg,qZ]
 | cons x a ih=>
  simp only[dg,yI,qZ] at ih ⊢
  grind
def mu:dg [x]↔0<=x/\x<1000000000:=by
 simp only[dg,qZ]
 grind
def jO(h:dg l)(i:Nat):0<=l.getD i 0/\l.getD i 0<1000000000:=by
 by_cases hi:i<l.length
 .have:=aeg h i hi
  grind
 .grind
def E1(h:dg l)(i:Nat):dg (l.take i):=apt h i
def lK:∀{l:List Int},dg l->dv l<1000000000^l.length
 | [],_=>by simp[dv]
 | x::l,h=>by
  have h':dg ([x]++l):=h;have⟨h1,h2⟩:=jl.1 h';have h1:=mu.1 h1
  have:=lK h2
  simp only[dv,yH,xh]
  lia
def eL:List Int->List Int
 | []=>[]
 | a::r=>match eL r with | []=>if a=0 then [] else [a] | t::q=>a::t::q
def Kf:∀l:List Int,eL (l++[0])=eL l
 | []=>rfl
 | a::l=>by simp only[yI,eL,Kf l]
def O6{a:Int}(h:a≠0):∀l:List Int,eL (l++[a])=l++[a]
 | []=>by simp[eL,h]
 | b::l=>by
  simp only[yI,eL,O6 h l]
  cases hq:l++[a] with
  | nil=>simp at hq
  | cons t q=>rfl
def BO:∀l:List Int,dv (eL l)=dv l
 | []=>rfl
 | a::l=>by
  have ih:=BO l;simp only[eL,dv]
  split
  .rename_i h;rw[h] at ih
   split
   .rename_i h0;subst h0;simp[dv,<-ih]
   .simp [dv,<-ih]
  .rename_i t q h;rw[h] at ih;simp only[dv] at ih ⊢
   lia
def Db:∀{l:List Int},dg l->dg (eL l)
 | [],_=>rfl
 | a::l,h=>by
  have h':dg ([a]++l):=h;have⟨h1,h2⟩:=jl.1 h';have ih:=Db h2;simp only[eL]
  split
  .grind
  .rename_i t q hq;rw[hq] at ih
   exact (jl (a:=[a]) (b:=t::q)).2 ⟨h1,ih⟩
def Pk:∀l:List Int,(eL l).length<=l.length
 | []=>yz _
 | a::l=>by
  have ih:=Pk l;simp only[eL]
  grind
def snoc{α:Type}(l:List α):l=[]\/∃m a,l=m++[a]:=by
 rcases List.eq_nil_or_concat l with h | ⟨m,a,h⟩
 .grind
 .grind
def anS:∀(n:Nat) (l:List Int),l.length=n->eL (eL l)=eL l:=by
 intro n
 induction n with
 | zero=>intro l h;rw[yE h];rfl
 | succ n ih=>
  intro l h;rcases snoc l with rfl | ⟨m,a,rfl⟩
  .rfl
  .by_cases h0:a=0
   .subst h0;rw[Kf]
    grind
   .rw [O6 h0,O6 h0]
def aol(l:List Int):eL (eL l)=eL l:=anS _ l rfl
abbrev nz(l:List Int):Prop:=eL l=l
def Hc(l:List Int):nz (eL l):=aol l
def QV(h:nz l)(hd:dg l)(h0:l≠[]):1000000000^(l.length-1)<=dv l:=by
 rcases snoc l with rfl | ⟨m,a,rfl⟩
 .grind
 .by_cases ha:a=0
  .subst ha
   have:=Pk m
   have e:=congrArg uy h;rw[Kf] at e
   grind
  .rw [n7]
   have:=mu.1 (jl.1 hd).2
   simp only[dv,yO,vZ,tg,xF,yY];have h1:1<=a.toNat:=by lia
   have:=yW (1000000000^m.length) h1
   lia
def Wk(h:nz l)(hd:dg l)(h0:dv l=0):l=[]:=by
 by_cases hl:l=[]
 .grind
 .have:=QV h hd hl
  grind
def WU(ha:dg a)(hb:nz b)(aS:dg b)(h:a.length<b.length):dv a<dv b:=by
 have h1:=lK ha;have h2:=QV hb aS (fun e=>by subst e;simp at h);have h3:1000000000^a.length<=1000000000^(b.length-1):=xc (by decide) (by lia)
 lia
def eD(m n:Nat):Int:=if m<n then -1 else if n<m then 1 else 0
def agd{i:Nat}(h:i<l.length):dv l=dv (l.take i)+1000000000^i*(l[i].toNat+1000000000*dv (l.drop (i+1))):=by
 have e:l=l.take i++l[i]::l.drop (i+1):=by simp_all
 have:dv l=dv (l.take i++l[i]::l.drop (i+1)):=congrArg dv e
 rw[this,n7,yU,xo (by lia)];rfl
def afu{i:Nat}(ha:dg a)(hb:dg b)(h1:i<a.length)(h2:i<b.length)(he:a.drop (i+1)=b.drop (i+1))(h:a[i]<b[i]):dv a<dv b:=by
 rw[agd h1,agd h2,he];have hl:=lK (E1 ha i);have g1:=aeg ha i h1;have h3:a[i].toNat+1000000000*dv (b.drop (i+1))+1<=b[i].toNat+1000000000*dv (b.drop (i+1)):=by lia
 have:=yW (1000000000^i) h3
 grind
def WV:∀{l:List Int} {j:Nat} {x:Int},j<l.length->dv (l.set j x)+1000000000^j*(l.getD j 0).toNat=dv l+1000000000^j*x.toNat
 | [],j,x,h=>by simp at h
 | a::l,0,x,_=>by simp[dv];lia
 | a::l,j+1,x,h=>by
  have ih:=WV (l:=l) (j:=j) (x:=x) (by simpa using h);simp only[ybz,dv,ybs,xh]
  grind
def Qq(h:dg l){j:Nat}(hx:0<=x/\x<1000000000):dg (l.set j x):=by
 by_cases hj:j<l.length
 .rw [yan,yC hj];have e:l=l.take (j+1)++l.drop (j+1):=(wh _ _).symm;have hd:dg (l.drop (j+1)):=by rw[e] at h;exact (jl.1 h).2
  exact jl.2 ⟨E1 h j,(jl (a:=[x]) (b:=l.drop (j+1))).2 ⟨mu.2 hx,hd⟩⟩
 .rw [List.set_eq_of_length_le (by lia)];exact h
def aeh{j m:Nat}(h:m≠j):(l.set j x).getD m 0=l.getD m 0:=by grind
def arl{V0 V' p q X o c s:Nat}(hs:s=o+A*X+c)(aJ:V'+p*q*o=V+p*q*(s%1000000000))(hv:V+p*q*c=V0+p*(A*Y)):
  V'+p*(q*1000000000)*(s/1000000000)=V0+p*(A*(Y+q*X)):=by
 have e:=uz s 1000000000;have e2:p*q*s=p*q*(s%1000000000)+p*(q*1000000000)*(s/1000000000):=by
  conv=>lhs;rw[<-e]
  rw[xH,<-xf (p*q),<-xf p q]
 have e3:p*q*s=p*q*o+p*q*(A*X)+p*q*c:=by rw[hs,xH,xH]
 have e4:p*(A*(Y+q*X))=p*(A*Y)+p*q*(A*X):=by
  rw[xH,xH,xf p q,<-xf A q X,xd A q,xf q A X]
 lia
def aei(n:Nat):dv (yj n 0)=0:=by
 induction n with
 | zero=>rfl
 | succ n ih=>simp[wG,dv,ih]
def aej(n:Nat):dg (yj n 0):=by
 induction n with
 | zero=>rfl
 | succ n ih=>exact (jl (a:=[0]) (b:=yj n 0)).2 ⟨by decide,ih⟩
end
section
variable {l m:List Nat}{U V i p u0 u1 u2 ur v1 v2 vr x:Nat}
def bv(b:Nat):List Nat->Nat
 | []=>0
 | a::r=>a+b*bv b r
def lo(b:Nat)(l:List Nat):Prop:=∀x,x∈l->x<b
section
variable {b:Nat}
def Du(a:Nat):bv b [a]=a:=by simp[bv]
def AE:∀(l m:List Nat),bv b (l++m)=bv b l+b^l.length*bv b m
 | [],m=>by simp[bv]
 | x::l,m=>by
  simp only[yI,bv,AE l m,yH,xh,xH]
  grind
def gd(h:i<l.length):l[i]=l.getD i 0:=by simp_all
def WW(h:l.length<=i):l.getD i 0=0:=by simp_all
def kH(i:Nat):bv b (l.take (i+1))=bv b (l.take i)+b^i*l.getD i 0:=by
 by_cases h:i<l.length
 .rw [xm h,AE,yU,xo (by lia),Du,gd h]
 .rw [yK (by lia),yK (by lia),WW (by lia),xF,yY]
def Qr:lo b []:=fun _ h=>by simp at h
def Pm:lo b (l++m)↔lo b l/\lo b m:=by
 constructor
 .intro h;exact⟨fun x hx=>h x (by simp[hx]),fun x hx=>h x (by simp[hx])⟩
 .rintro ⟨h1,h2⟩ x hx;rcases wD.1 hx with h | h
  .exact h1 x h
  .exact h2 x h
def HG:lo b [x]↔x<b:=by simp[lo]
def iW(hb:0<b)(h:lo b l)(i:Nat):l.getD i 0<b:=by
 by_cases hi:i<l.length
 .rw [<-gd hi];exact h _ (List.getElem_mem hi)
 .grind
def BS(h:lo b l)(i:Nat):lo b (l.take i):=fun x hx=>h x (List.mem_of_mem_take hx)
def afv(h:lo b l)(i:Nat):lo b (l.drop i):=fun x hx=>h x (List.mem_of_mem_drop hx)
def ot(h:lo b l)(hx:x<b):lo b (l.set i x):=fun y hy=>by
 rcases List.mem_or_eq_of_mem_set hy with h1 | h1
 .exact h y h1
 .lia
def HH(hb:0<b)(n:Nat):lo b (yj n 0):=fun x hx=>by
 grind
def HI(n:Nat):bv b (yj n 0)=0:=by
 induction n with
 | zero=>rfl
 | succ n ih=>simp[wG,bv,ih]
def E2(n m:Nat):(yj n (0:Nat)).getD m 0=0:=by grind
def nH:∀{l:List Nat},lo b l->bv b l<b^l.length
 | [],_=>by simp[bv]
 | x::l,h=>by
  have h1:=h x (by simp);have h2:=nH (l:=l) (fun y hy=>h y (by simp[hy]));simp only[bv,yH,xh,xd _ b]
  have:=yW b (show bv b l+1<=b^l.length from h2)
  grind
def qO:∀{l:List Nat} {i x:Nat},i<l.length->bv b (l.set i x)+b^i*l.getD i 0=bv b l+b^i*x
 | [],i,x,h=>by simp at h
 | a::l,0,x,_=>by simp[bv];lia
 | a::l,i+1,x,h=>by
  have ih:=qO (l:=l) (i:=i) (x:=x) (by simpa using h)
  have:=congrArg (fun t=>b*t) ih
  simp only[xH] at this;simp only[ybz,bv,ybs,xh,xd _ b,xf] at this ⊢
  lia
def sj{m:Nat}(h:i≠m):(l.set i x).getD m 0=l.getD m 0:=by simp_all
def aom(h:i<l.length):(l.set i x).getD i 0=x:=by simp_all
def Ku(l:List Nat)(i:Nat)(h:i<=l.length):bv b l=bv b (l.take i)+b^i*bv b (l.drop i):=by
 have:=AE (b:=b) (l.take i) (l.drop i)
 simp_all
def eM:List Nat->List Nat
 | []=>[]
 | a::r=>match eM r with | []=>if a=0 then [] else [a] | t::q=>a::t::q
def O7:∀l:List Nat,eM (l++[0])=eM l
 | []=>rfl
 | a::l=>by simp only[yI,eM,O7 l]
def GZ{a:Nat}(h:a≠0):∀l:List Nat,eM (l++[a])=l++[a]
 | []=>by simp[eM,h]
 | b::l=>by
  simp only[yI,eM,GZ h l]
  cases hq:l++[a] with
  | nil=>simp at hq
  | cons t q=>rfl
abbrev jj(l:List Nat):Prop:=eM l=l
def aon:∀(n:Nat) (l:List Nat),l.length=n->∃i,i<=n/\eM l=l.take i/\jj (l.take i)/\bv b (l.take i)=bv b l:=by
 intro n
 induction n with
 | zero=>intro l h;rw[yE h];exact⟨0,yz _,rfl,rfl,rfl⟩
 | succ n ih=>
  intro l h;rcases snoc l with rfl | ⟨m,a,rfl⟩
  .grind
  .have hm:m.length=n:=by simp_all
   by_cases h0:a=0
   .subst h0;have⟨i,h1,h2,h3,h4⟩:=ih m hm;have e:(m++[0]).take i=m.take i:=by grind
    refine⟨i,by lia,by rw[O7,h2,e],by rw[e];exact h3,?_⟩
    rw[e,h4,AE];simp[bv]
   .have e:(m++[a]).take (n+1)=m++[a]:=yK (by simp[hm]);exact⟨n+1,yz _,by rw[e,GZ h0],by rw[e];exact GZ h0 m,by rw[e]⟩
def Pn(l:List Nat):∃i,i<=l.length/\eM l=l.take i/\jj (eM l)/\bv b (eM l)=bv b l:=by
 have⟨i,h1,h2,h3,h4⟩:=aon (b:=b) l.length l rfl
 grind
def Dc(l:List Nat):bv b (eM l)=bv b l:=by
 have⟨_,_,_,_,h⟩:=Pn (b:=b) l;exact h
def Dd(l:List Nat):jj (eM l):=by
 have⟨_,_,_,h,_⟩:=Pn (b:=2) l;exact h
def De(h:lo b l):lo b (eM l):=by
 have⟨i,_,h2,_⟩:=Pn (b:=b) l;rw[h2];exact BS h i
def apu(l:List Nat):(eM l).length<=l.length:=by
 have⟨i,_,h2,_⟩:=Pn (b:=2) l
 grind
def Kv(h:jj l)(h0:l≠[]):l.getD (l.length-1) 0≠0:=by
 rcases snoc l with rfl | ⟨m,a,rfl⟩
 .grind
 .intro ha
  have:a=0:=by
   grind
  subst this;have e:=congrArg uy h;rw[O7] at e
  have:=apu m
  grind
def WX(hb:0<b)(h:jj l)(h0:l≠[]):b^(l.length-1)<=bv b l:=by
 rcases snoc l with rfl | ⟨m,a,rfl⟩
 .grind
 .have ha:=Kv h h0;simp[yV] at ha;rw[AE,Du];simp only[yO,vZ,tg]
  have:=yW (b^m.length) (show 1<=a by lia)
  lia
def P0(hb:1<b)(hl:lo b l)(hm:jj m)(h:l.length<m.length):bv b l<bv b m:=by
 have h1:=nH hl;have h2:=WX (b:=b) (by lia) hm (fun e=>by subst e;simp at h);have h3:b^l.length<=b^(m.length-1):=xc (by lia) (by lia)
 lia
def afw(hl:lo b l)(h1:i<l.length)(h2:i<m.length)(he:l.drop (i+1)=m.drop (i+1))(h:l.getD i 0<m.getD i 0):bv b l<bv b m:=by
 rw[Ku l (i+1) (by lia),Ku m (i+1) (by lia),he,kH,kH]
 have:=nH (BS hl i)
 have:=yW (b^i) (show l.getD i 0+1<=m.getD i 0 from h)
 grind
def apv(hb:1<b){k:Nat}(h:jj l)(hk:bv b l<b^k):l.length<=k:=by
 by_cases h0:l=[]
 .grind
 .have h1:=WX (b:=b) (by lia) h h0;have h2:b^(l.length-1)<b^k:=xL h1 hk
  have:=(uo hb).1 h2
  lia
def acx{t r:Nat}(hV:V=(v1*b+v2)*p+vr)(hU:U=((u0*b+u1)*b+u2)*p+ur)(hur:ur<p)(ht:t*v1+r=u0*b+u1)(h:r*b+u2<t*v2):U/V<=t-1:=by
 have h1:U<t*V:=by
  have e:t*((v1*b+v2)*p)=((t*v1)*b+t*v2)*p:=by
   grind
  have h2:((u0*b+u1)*b+u2)+1<=(t*v1)*b+t*v2:=by rw[<-ht,xS];lia
  have h3:=yT p h2;rw[hV,hU,xH,e]
  grind
 have Ao:0<V:=by
  grind
 have:=(xC Ao).2 h1
 lia
def ado{t r:Nat}(hb:0<b)(hV:V=(v1*b+v2)*p+vr)(zm:vr<p)(hU:U=((u0*b+u1)*b+u2)*p+ur)(fJ:0<v1)(de:v2<b)(mJ:t<b)(ht:t*v1+r=u0*b+u1)(h:b<=r\/t*v2<=r*b+u2):t<=U/V+1:=by
 have h2:t*v2<=r*b+u2:=by
  rcases h with h | h
  .have:=y8 (uY mJ) (uY de)
   have:=yT b h
   lia
  .exact h
 have h3:t*(v1*b+v2)<=(u0*b+u1)*b+u2:=by
  rw[xH,<-xf,<-ht,xS];lia
 have hp:0<p:=by lia
 have aIW:b<=v1*b:=Nat.le_mul_of_pos_left b fJ;have Ao:0<V:=by
  have:=vd (show 0<v1*b+v2 by lia) hp
  lia
 rcases xi t with h0 | h0
 .grind
 .obtain ⟨s,rfl⟩:∃s,t=s+1:=⟨t-1,by lia⟩;have h4:s*V<=U:=by
   have h5:V<=(v1*b+v2+1)*p:=by grind
   have h6:=yW s h5;have h7:s*(v1*b+v2+1)<=(s+1)*(v1*b+v2):=by
    grind
   have h8:=yT p (y7 h7 h3)
   grind
  exact Nat.succ_le_succ ((tV Ao).2 h4)
def UF(hV:V=(v1*b+v2)*p+vr)(hU:U=((u0*b+u1)*b+u2)*p+ur)(hur:ur<p)(CK:u2<b)(fJ:0<v1):U/V<=(u0*b+u1)/v1:=by
 by_cases Ao:V=0
 .grind
 .refine (tV fJ).2 ?_;have h1:=Nat.div_mul_le_self U V;generalize U/V=q at h1 ⊢;have h2:q*v1*(b*p)<=q*V:=by
   rw[hV,xf]
   grind
  have h3:U<(u0*b+u1+1)*(b*p):=by
   have:(u0*b+u1)*b+u2+1<=(u0*b+u1+1)*b:=by grind
   have:=yT p this
   grind
  have h4:q*v1*(b*p)<(u0*b+u1+1)*(b*p):=by lia
  have:=th h4
  lia
def adp(hV:V=(v1*b+v2)*p+vr)(hU:U=((u0*b+u1)*b+u2)*p+ur)(zm:vr<p)(de:v2<b)(h:U<b*V):u0<=v1:=by
 refine Nat.le_of_lt_succ ?_;have h1:V<(v1+1)*(b*p):=by
  have:v1*b+v2+1<=(v1+1)*b:=by grind
  have:=yT p this
  grind
 have h2:u0*(b*(b*p))<=U:=by
  grind
 have h3:=yW b (uY h1);have e:b*((v1+1)*(b*p))=(v1+1)*(b*(b*p)):=by grind
 rw[e] at h3;have h4:u0*(b*(b*p))<(v1+1)*(b*(b*p)):=xL h2 (yF h h3);exact th h4
end
end
section
variable {P:aE}{L:Lib}{f:cp}{F:Nat->cp}
def Ek(f:cp)(F:Nat->cp):Prop:=∀c s r,f c s=GR r->∃n,F n c s=GR r
def Mon(F:Nat->cp):Prop:=∀n m,n<=m->Le (F n) (F m)
def ON(h:Ek f F)(n:Nat)(ax:List AV)(r:AV)(hr:bZ P L f n ax=GR r):∃k,bZ P L (F k) n ax=GR r:=by
 unfold bZ at hr ⊢
 cases hL:L.pure n with
 | some sp=>exact⟨0,by simpa only[hL] using hr⟩
 | none=>
  simp only[hL] at hr ⊢
  cases hP:P n with
  | none=>simp[hP] at hr
  | some G=>
   simp only[hP] at hr ⊢
   cases hf:f G.body ⟨fw 0 ax,[],0,0⟩ with
   | none=>simp[hf] at hr
   | some q=>
    have⟨k,hk⟩:=h _ _ _ hf
    grind
def UR(h:Ek f F)(hp:Hp)(ct:Nat)(n:Nat)(ax:List AV)(r:AV×Hp×Nat)(hr:jZ P L f hp ct n ax=GR r):∃k,jZ P L (F k) hp ct n ax=GR r:=by
 unfold jZ at hr ⊢
 cases hL:L.heap n with
 | some sp=>exact⟨0,by simpa only[hL] using hr⟩
 | none=>
  simp only[hL] at hr ⊢
  cases hP:P n with
  | none=>simp[hP] at hr
  | some G=>
   simp only[hP] at hr ⊢
   cases hf:f G.body ⟨fw 0 ax,hp,ct,ct⟩ with
   | none=>simp[hf] at hr
   | some q=>
    have⟨k,hk⟩:=h _ _ _ hf
    grind
def ab1(h:Ek f F)(hm:Mon F)(hp:Hp)(ct:Nat)(l:Nat)(xs:List AV)(r:AV×Hp×Nat)(hr:kG f hp ct l xs=GR r):∃k,kG (F k) hp ct l xs=GR r:=by
 have key:∃k,∀g,Le (F k) g->kG g hp ct l xs=GR r:=by
  unfold kG at hr
  cases hl:ah hp l with
  | none=>simp[hl] at hr
  | some o=>
   split at hr
   .rename_i tm ps as_ body pe Al
    cases hb:zQ tm ps xs with
    | none=>simp[hb] at hr
    | some tm'=>
     simp only[hb] at hr
     cases h1:f as_ ⟨tm',hp,ct,ct⟩ with
     | none=>simp[h1] at hr
     | some q=>
      have⟨k1,gC⟩:=h _ _ _ h1
      split at hr
      .rename_i s1 aBT
       split at hr
       .rename_i jC Bj D4 Fv ze aBU
        cases h2:f body ⟨s1.tm,aJ s1.hp l (.lp jC Bj D4 Fv 1 ze),s1.ct,s1.ct⟩ with
        | none=>simp[h2] at hr
        | some q2=>
         have⟨k2,jG⟩:=h _ _ _ h2;refine⟨max k1 k2,fun g hg=>?_⟩;have e1:=hg _ _ _ (hm k1 _ (uU k1 k2) _ _ _ gC);have e2:=hg _ _ _ (hm k2 _ (uE k1 k2) _ _ _ jG);unfold kG
         grind
       .simp at hr
      .simp at hr
   .simp at hr
 have⟨k,hk⟩:=key;exact⟨k,hk _ (fun _ _ _ h=>h)⟩
def acy(h:Ek f F)(hm:Mon F)(hp:Hp)(ct:Nat)(m:Md)(fv:AV)(xs:List AV)(r:AV×Hp×Nat)(hr:fA P L f hp ct m fv xs=GR r):∃k,fA P L (F k) hp ct m fv xs=GR r:=by
 unfold fA at hr ⊢
 split at hr
 .rename_i n first cap
  cases m with
  | pure=>
   cases hz:cD deep hp (first++(xs++cap)) with
   | none=>simp[hz] at hr
   | some q=>
    simp only[hz] at hr ⊢
    cases hc:bZ P L f n q.1 with
    | none=>simp[hc] at hr
    | some u=>
     have⟨k,hk⟩:=ON h n q.1 u hc
     grind
  | own=>
   cases hz:cD deep hp (first++(xs++cap)) with
   | none=>simp[hz] at hr
   | some q=>
    simp only[hz] at hr ⊢
    cases hc:bZ P L f n q.1 with
    | none=>simp[hc] at hr
    | some u=>
     have⟨k,hk⟩:=ON h n q.1 u hc
     grind
  | heap=>exact UR h _ _ _ _ _ hr
  | dyn=>
   cases hz:aF (first++(xs++cap)) with
   | true=>
    simp only[hz,yx] at hr ⊢
    cases hc:bZ P L f n (first++(xs++cap)) with
    | none=>simp[hc] at hr
    | some u=>
     have⟨k,hk⟩:=ON h n _ u hc
     grind
   | false=>
    simp only[hz,yS] at hr ⊢;exact UR h _ _ _ _ _ hr
 .split at hr
  .exact ab1 h hm _ _ _ _ _ hr
  .exact ab1 h hm _ _ _ _ _ hr
  .simp at hr
 .simp at hr
def arm(h:Ek f F)(hm:Mon F)(tm:Env)(hp:Hp)(ct:Nat)(o:Op)(r:AV×Hp×Nat)(hr:bc P L f tm hp ct o=GR r):∃k,bc P L (F k) tm hp ct o=GR r:=by
 unfold bc at hr ⊢
 split at hr
 .exact acy h hm _ _ _ _ _ _ hr
 .rename_i rs fv xs
  cases hc:fA P L f hp ct .dyn (az tm fv) (dV tm xs) with
  | none=>simp[hc] at hr
  | some q=>
   have⟨k,hk⟩:=acy h hm _ _ _ _ _ _ hc
   grind
 all_goals exact⟨0,by simpa only using hr⟩
def Vn(h:Ek f F)(hm:Mon F):∀(ops:List aV) (s s':St),dF P L f ops s=GR s'->∃k,dF P L (F k) ops s=GR s'
 | [],s,s',hr=>⟨0,by simpa only[dF] using hr⟩
 | ⟨d,gd,o⟩::r,s,s',hr=>by
  simp only[dF] at hr ⊢
  split at hr
  .rename_i hw
   cases ho:bc P L f s.tm s.hp s.ct o with
   | none=>simp[ho] at hr
   | some q=>
    have⟨k1,gC⟩:=arm h hm _ _ _ _ _ ho;simp only[ho] at hr;have⟨k2,jG⟩:=Vn h hm r _ _ hr;refine⟨max k1 k2,?_⟩;rw[adh (hm k1 _ (uU k1 k2)) _ _ _ _ _ gC];exact O2 (hm k2 _ (uE k1 k2)) r _ _ jG
  .rename_i hw;exact Vn h hm r _ _ hr
  .simp at hr
def EN(h:Ek f F)(hm:Mon F):∀(c:VC) (s:St) (r:Ex×St),bI P L f c s=GR r->∃k,bI P L (F k) c s=GR r
 | .skip,s,r,hr=>⟨0,by simpa only[bI] using hr⟩
 | .jA ops,s,r,hr=>by
  simp only[bI] at hr ⊢
  cases ho:dF P L f ops s with
  | none=>simp[ho] at hr
  | some s'=>
   have⟨k,hk⟩:=Vn h hm _ _ _ ho
   grind
 | .seq a b,s,r,hr=>by
  simp only[bI] at hr ⊢
  cases ha:bI P L f a s with
  | none=>simp[ha] at hr
  | some q=>
   have⟨k1,gC⟩:=EN h hm a s q ha;have⟨ex,s1⟩:=q
   cases ex with
   | normal=>
    simp only[ha] at hr;have⟨k2,jG⟩:=EN h hm b s1 r hr;refine⟨max k1 k2,?_⟩;rw[zD (hm k1 _ (uU k1 k2)) a s _ gC];exact zD (hm k2 _ (uE k1 k2)) b s1 r jG
   | ret=>exact⟨k1,by rw[gC];simpa only[ha] using hr⟩
   | exit id=>exact⟨k1,by rw[gC];simpa only[ha] using hr⟩
 | .cond x a b,s,r,hr=>by
  simp only[bI] at hr ⊢
  split at hr
  .rename_i t ht
   cases t with
   | true=>simp only[yx] at hr ⊢;exact EN h hm a s r hr
   | false=>simp only[yS] at hr ⊢;exact EN h hm b s r hr
  .simp at hr
 | .eS id a,s,r,hr=>by
  simp only[bI] at hr ⊢
  cases ha:bI P L f a s with
  | none=>simp[ha] at hr
  | some q=>
   have⟨k,hk⟩:=EN h hm a s q ha
   grind
 | .kp live,s,r,hr=>⟨0,by simpa only[bI] using hr⟩
 | .fz ts,s,r,hr=>⟨0,by simpa only[bI] using hr⟩
 | .loop live a,s,r,hr=>by
  simp only[bI] at hr ⊢
  cases ha:bI P L f a (bH live s) with
  | none=>simp[ha] at hr
  | some q=>
   have⟨k1,gC⟩:=EN h hm a _ q ha;have⟨ex,s1⟩:=q
   cases ex with
   | normal=>
    simp only[ha] at hr;have⟨k2,jG⟩:=h _ _ _ hr;refine⟨max k1 k2,?_⟩;rw[zD (hm k1 _ (uU k1 k2)) a _ _ gC];exact hm k2 _ (uE k1 k2) _ _ _ jG
   | ret=>exact⟨k1,by rw[gC];simpa only[ha] using hr⟩
   | exit id=>exact⟨k1,by rw[gC];simpa only[ha] using hr⟩
 | .rf fv ps as_ body,s,r,hr=>by
  simp only[bI] at hr ⊢
  split at hr
  .rename_i n first cap hx
   split at hr
   .grind
   .rename_i hL
    cases hc:jZ P L f ((s.ct,.lp s.tm ps as_ body 0 .none)::s.hp) (s.ct+1) n (first++(.fn (.y s.ct) [] []::cap)) with
    | none=>simp[hc] at hr
    | some q=>
     have⟨k,hk⟩:=UR h _ _ _ _ _ hc
     grind
  .simp at hr
 | .exit id,s,r,hr=>⟨0,by simpa only[bI] using hr⟩
 | .ret,s,r,hr=>⟨0,by simpa only[bI] using hr⟩
end
section
variable (P:aE)(L:Lib)
noncomputable def D:cp:=fun c s=>@dite _ (∃r n,ev P L n c s=GR r) (tj _) (fun h=>GR h.choose) (fun _=>GS)
variable {P L}
def ajb{c:VC}{s:St}{r:Ex×St}{n:Nat}(h:ev P L n c s=GR r):D P L c s=GR r:=by
 have hx:∃r n,ev P L n c s=GR r:=⟨r,n,h⟩;unfold D;have⟨m,hm⟩:=hx.choose_spec;have e1:=Wh P L (uU n m) _ _ _ h;have e2:=Wh P L (uE n m) _ _ _ hm
 grind
def YK{c:VC}{s:St}{r:Ex×St}(h:D P L c s=GR r):∃n,ev P L n c s=GR r:=by
 unfold D at h;by_cases hx:∃r n,ev P L n c s=GR r
 .grind
 .grind
def aB7(n:Nat):Le (ev P L n) (D P L):=fun _ _ _ h=>ajb h
def ahR:Ek (D P L) (ev P L):=fun _ _ _ h=>YK h
def awX:Mon (ev P L):=fun _ _ h=>Wh P L h
def mw(c:VC)(s:St):D P L c s=bI P L (D P L) c s:=by
 cases h:D P L c s with
 | some r=>
  have⟨n,hn⟩:=YK h
  cases n with
  | zero=>rw[KJ] at hn;cases hn
  | succ n=>rw[PZ] at hn;exact (zD (aB7 n) c s r hn).symm
 | none=>
  cases hs:bI P L (D P L) c s with
  | none=>rfl
  | some r=>
   have⟨n,hn⟩:=EN ahR awX c s r hs;rw[<-PZ] at hn;rw[ajb hn] at h;cases h
def age{f:Nat}{r:AV}(h:bZ P L (D P L) f ax=GR r):∃n,ZL P L n f ax=GR r:=ON ahR f ax r h
end
section
open Go (IntKind BinOp UnOp)
structure Has(P:aE)(L:Lib)(n:Nat)(F:aw):Prop where
 pure:L.pure n=GS
 heap:L.heap n=GS
 code:P n=GR F
noncomputable def zS(P:aE)(L:Lib)(r:Option (Ex×St))(b:VC):Option (Ex×St):=match r with | some (.normal,s)=>D P L b s | r=>r
def B7(id:Nat)(r:Option (Ex×St)):Option (Ex×St):=match r with | some (.exit j,s)=>bif yu j id then GR (.normal,s) else GR (.exit j,s) | r=>r
noncomputable def L7(P:aE)(L:Lib)(live:List Nat)(a:VC)(r:Option (Ex×St)):Option (Ex×St):=match r with | some (.normal,s)=>D P L (.loop live a) s | r=>r
def norm(r:Option St):Option (Ex×St):=match r with | some s=>GR (.normal,s) | none=>GS
noncomputable def QW(P:aE)(L:Lib)(v:AV)(a b:VC)(s:St):Option (Ex×St):=match v with | .bool t=>bif t then D P L a s else D P L b s | _=>GS
def awY(s:St):D P L .skip s=GR (.normal,s):=by rw[mw];rfl
def awZ(id:Nat)(s:St):D P L (.exit id) s=GR (.exit id,s):=by rw[mw];rfl
def aAg(s:St):D P L .ret s=GR (.ret,s):=by rw[mw];rfl
def ajc(live:List Nat)(s:St):D P L (.kp live) s=GR (.normal,bH live s):=by rw[mw];rfl
def aB8(ts:List Nat)(s:St):D P L (.fz ts) s=norm (sG ts s):=by rw[mw];rfl
def aAh(ops:List aV)(s:St):D P L (.jA ops) s=norm (dF P L (D P L) ops s):=by rw[mw];rfl
def qS(a b:VC)(s:St):D P L (.seq a b) s=zS P L (D P L a s) b:=by
 rw[mw,mw a];simp only[bI,zS]
 cases bI P L (D P L) a s with
 | none=>rfl
 | some q=>
  have⟨e,s1⟩:=q
  cases e with
  | normal=>exact (mw b s1).symm
  | ret=>rfl
  | exit id=>rfl
def aw0(x:X)(a b:VC)(s:St):D P L (.cond x a b) s=QW P L (az s.tm x) a b s:=by
 rw[mw];simp only[bI,QW]
 cases az s.tm x with
 | bool t=>
  cases t with
  | true=>exact (mw a s).symm
  | false=>exact (mw b s).symm
 | _=>rfl
def aAi(id:Nat)(a:VC)(s:St):D P L (.eS id a) s=B7 id (D P L a s):=by
 rw[mw,mw a];simp only[bI,B7]
 cases bI P L (D P L) a s with
 | none=>rfl
 | some q=>have⟨e,s1⟩:=q;cases e<;>rfl
def HJ(live:List Nat)(a:VC)(s:St):D P L (.loop live a) s=L7 P L live a (D P L a (bH live s)):=by
 rw[mw,mw a];simp only[bI,L7]
 cases bI P L (D P L) a (bH live s) with
 | none=>rfl
 | some q=>have⟨e,s1⟩:=q;cases e<;>rfl
def ml(s:St)(b:VC):zS P L (GR (.normal,s)) b=D P L b s:=rfl
def atH(s:St)(b:VC):zS P L (GR (.ret,s)) b=GR (.ret,s):=rfl
def atI(id:Nat)(s:St)(b:VC):zS P L (GR (.exit id,s)) b=GR (.exit id,s):=rfl
def afx(live:List Nat)(a:VC)(s:St):L7 P L live a (GR (.normal,s))=D P L (.loop live a) s:=rfl
def atJ(live:List Nat)(a:VC)(s:St):L7 P L live a (GR (.ret,s))=GR (.ret,s):=rfl
def atK(live:List Nat)(a:VC)(id:Nat)(s:St):L7 P L live a (GR (.exit id,s))=GR (.exit id,s):=rfl
def atL(id:Nat)(s:St):B7 id (GR (.normal,s))=GR (.normal,s):=rfl
def atM(id:Nat)(s:St):B7 id (GR (.ret,s))=GR (.ret,s):=rfl
def afy(id:Nat)(s:St):B7 id (GR (.exit id,s))=GR (.normal,s):=by simp only[B7,wL,yx]
def atN{id j:Nat}(s:St)(h:j≠id):B7 id (GR (.exit j,s))=GR (.exit j,s):=by
 have:yu j id=ydC:=by
  cases hq:yu j id with
  | false=>rfl
  | true=>exact absurd (yi hq) h
 simp only[B7,this,yS]
def aw1(s:St):norm (GR s)=GR (.normal,s):=rfl
def aw2:norm GS=GS:=rfl
def atO(a b:VC)(s:St):QW P L (.bool ydB) a b s=D P L a s:=rfl
def atP(a b:VC)(s:St):QW P L (.bool ydC) a b s=D P L b s:=rfl
noncomputable def XK(P:aE)(L:Lib)(d:Option Nat)(r:List aV)(tm:Env)(base:Nat)(q:gZ):Option St:=
 match q with | some (v,hp,ct)=>dF P L (D P L) r ⟨put d v tm,hp,ct,base⟩ | none=>GS
noncomputable def Fk(P:aE)(L:Lib)(v:AV)(b:Bool)(d:Option Nat)(o:Op)(r:List aV)(s:St):Option St:=
 match v with
 | .bool c=>bif c==b then dF P L (D P L) (⟨d,GS,o⟩::r) s else dF P L (D P L) r ⟨put d (.av []) s.tm,s.hp,s.ct,s.base⟩
 | .av []=>dF P L (D P L) r ⟨put d (.av []) s.tm,s.hp,s.ct,s.base⟩
 | _=>GS
def atQ(s:St):dF P L (D P L) [] s=GR s:=rfl
def arn(d:Option Nat)(o:Op)(r:List aV)(tm:Env)(hp:Hp)(ct base:Nat):
  dF P L (D P L) (⟨d,GS,o⟩::r) ⟨tm,hp,ct,base⟩=XK P L d r tm base (bc P L (D P L) tm hp ct o):=by
 simp only[dF,XK]
 grind
def apw(d:Option Nat)(t:Nat)(b:Bool)(o:Op)(r:List aV)(tm:Env)(hp:Hp)(ct base:Nat):
  dF P L (D P L) (⟨d,GR (t,b),o⟩::r) ⟨tm,hp,ct,base⟩=Fk P L (ak tm t) b d o r ⟨tm,hp,ct,base⟩:=by
 simp only[dF,Fk]
 cases ak tm t with
 | bool c=>
  simp only
  cases hc:(c==b) with
  | true=>simp only[yx]
  | false=>simp only[yS]
 | av vs=>cases vs<;>rfl
 | _=>rfl
def atS(d:Option Nat)(r:List aV)(tm:Env)(base:Nat)(v:AV)(hp:Hp)(ct:Nat):XK P L d r tm base (GR (v,hp,ct))=dF P L (D P L) r ⟨put d v tm,hp,ct,base⟩:=rfl
def aAj(i:Nat)(v:AV)(tm:Env):put (GR i) v tm=(i,v)::tm:=rfl
def aAk(v:AV)(tm:Env):put GS v tm=tm:=rfl
def aro(d:Option Nat)(o:Op)(r:List aV)(s:St):Fk P L (.bool ydB) ydB d o r s=dF P L (D P L) (⟨d,GS,o⟩::r) s:=rfl
def arp(d:Option Nat)(o:Op)(r:List aV)(s:St):Fk P L (.bool ydC) ydC d o r s=dF P L (D P L) (⟨d,GS,o⟩::r) s:=rfl
def arq(d:Option Nat)(o:Op)(r:List aV)(tm:Env)(hp:Hp)(ct base:Nat):Fk P L (.bool ydB) ydC d o r ⟨tm,hp,ct,base⟩=dF P L (D P L) r ⟨put d (.av []) tm,hp,ct,base⟩:=rfl
def ars(d:Option Nat)(o:Op)(r:List aV)(tm:Env)(hp:Hp)(ct base:Nat):Fk P L (.bool ydC) ydB d o r ⟨tm,hp,ct,base⟩=dF P L (D P L) r ⟨put d (.av []) tm,hp,ct,base⟩:=rfl
def atT(b:Bool)(d:Option Nat)(o:Op)(r:List aV)(tm:Env)(hp:Hp)(ct base:Nat):Fk P L (.av []) b d o r ⟨tm,hp,ct,base⟩=dF P L (D P L) r ⟨put d (.av []) tm,hp,ct,base⟩:=rfl
def iB{j i:Nat}(h:j≠i):yu j i=ydC:=by
 cases hq:yu j i with
 | false=>rfl
 | true=>exact absurd (yi hq) h
def aw3(tm:Env)(i:Nat):az tm (.t i)=ak tm i:=rfl
def aw4(tm:Env)(v:AV):az tm (.c v)=v:=rfl
def apx(tm:Env):dV tm []=[]:=rfl
def aoo(tm:Env)(x:X)(r:List X):dV tm (x::r)=az tm x::dV tm r:=rfl
def art(i:Nat)(v:AV)(r:Env):ak ((i,v)::r) i=v:=by simp only[ak,wL,yx]
def apy{j i:Nat}(v:AV)(r:Env)(h:j≠i):ak ((j,v)::r) i=ak r i:=by simp only[ak,iB h,yS]
def jW(i:Nat)(o:Obj)(r:Hp):ah ((i,o)::r) i=GR o:=by simp only[ah,wL,yx]
def eK{j i:Nat}(o:Obj)(r:Hp)(h:j≠i):ah ((j,o)::r) i=ah r i:=by simp only[ah,iB h,yS]
def PD(i:Nat)(o u:Obj)(r:Hp):aJ ((i,o)::r) i u=(i,u)::r:=by simp only[aJ,wL,yx]
def qD{j i:Nat}(o u:Obj)(r:Hp)(h:j≠i):aJ ((j,o)::r) i u=(j,o)::aJ r i u:=by simp only[aJ,iB h,yS]
def aru(i:Nat):cS [] i=[]:=rfl
def VR(i:Nat)(o:Obj)(r:Hp):cS ((i,o)::r) i=cS r i:=by simp only[cS,wL,yx]
def Po{j i:Nat}(o:Obj)(r:Hp)(h:j≠i):cS ((j,o)::r) i=(j,o)::cS r i:=by simp only[cS,iB h,yS]
def rd(hp:Hp)(ct:Nat)(q:Option AV):gZ:=match q with | some v=>GR (v,hp,ct) | none=>GS
def mk(hp:Hp)(ct:Nat)(q:Option (AV×Obj)):gZ:=match q with | some (v,b)=>GR (v,(ct,b)::hp,ct+1) | none=>GS
def aB9(hp:Hp)(ct:Nat)(v:AV):rd hp ct (GR v)=GR (v,hp,ct):=rfl
def aCa(hp:Hp)(ct:Nat)(v:AV)(b:Obj):mk hp ct (GR (v,b))=GR (v,(ct,b)::hp,ct+1):=rfl
def XL(c a b:AV):Option AV:=match c with | .bool t=>GR (bif t then a else b) | _=>GS
def NV(k:Nat->Option AV)(n:Option Nat):Option AV:=match n with | some i=>k i | none=>GS
def ahS(r:Option (List AV)):Option AV:=match r with | some cs=>GR (.agg cs) | none=>GS
def Il(ne:Bool)(r:Option Bool):Option AV:=match r with | some b=>GR (.bool (ne !=b)) | none=>GS
def aCb:AV->Option AV
 | .ptr id o=>GR (.ptr id o)
 | .bC cs=>GR (.bC cs)
 | .fn f a b=>GR (.fn f a b)
 | _=>GS
def MR(i:Nat):AV->Option AV | .av vs=>vs[i]? | _=>GS
section
variable {f:cp}{tm:Env}{hp:Hp}{ct:Nat}
def aw5(x:X):bc P L f tm hp ct (.za x)=GR (az tm x,hp,ct):=rfl
def atU(c a b:X):bc P L f tm hp ct (.pick c a b)=rd hp ct (XL (az tm c) (az tm a) (az tm b)):=by
 rfl
def arv(z:List AV)(ps:List (Nat×Nat×X)):bc P L f tm hp ct (.pM z ps)=rd hp ct (ahS (fill tm z ps)):=by
 rfl
def aAl(sz:Nat)(ag:Bool)(x:X):bc P L f tm hp ct (.ld sz ag x)=rd hp ct (gk hp sz ag (az tm x)):=rfl
def atV(x:X):bc P L f tm hp ct (.Mh x)=rd hp ct (aCb (az tm x)):=by
 rfl
def aw6(op:BinOp)(x y:X):bc P L f tm hp ct (.bin op x y)=rd hp ct (binOp op (az tm x) (az tm y)):=rfl
def aAm(ne:Bool)(k:Th)(x y:X):bc P L f tm hp ct (.eq ne k x y)=rd hp ct (Il ne (lm k (az tm x) (az tm y))):=by
 rfl
def aAn(op:UnOp)(x:X):bc P L f tm hp ct (.un op x)=rd hp ct (unOp op (az tm x)):=rfl
def aAo(k:Conv)(x:X):bc P L f tm hp ct (.cv k x)=rd hp ct (iC k (az tm x)):=rfl
def aw7(g:Fr)(a b:List X):bc P L f tm hp ct (.Gb g a b)=GR (.fn g (dV tm a) (dV tm b),hp,ct):=rfl
def aw8(k:Cut)(x:X)(lo hi:Option X):bc P L f tm hp ct (.zb k x lo hi)=rd hp ct (gg hp k (az tm x) tm lo hi):=rfl
def aw9(k:Nat)(x:X):bc P L f tm hp ct (.off k x)=rd hp ct (B4 k (az tm x)):=rfl
def axa(o sz:Nat)(ag:Bool)(x:X):bc P L f tm hp ct (.Ns o sz ag x)=rd hp ct (QF o sz ag (az tm x)):=rfl
def axb(sz:Nat)(x i:X):bc P L f tm hp ct (.bk sz x i)=rd hp ct (NV (fun j=>jq sz j (az tm x)) (bY (az tm i))):=by
 rfl
def axc(n sz:Nat)(x i:X):bc P L f tm hp ct (.D1 n sz x i)=rd hp ct (NV (fun j=>sF n sz j (az tm x)) (bY (az tm i))):=by
 rfl
def axd(x i:X):bc P L f tm hp ct (.IB x i)=rd hp ct (NV (fun j=>AR j (az tm x)) (bY (az tm i))):=by
 rfl
def axe(n sz:Nat)(ag:Bool)(x i:X):bc P L f tm hp ct (.IC n sz ag x i)=rd hp ct (NV (fun j=>QG n sz ag j (az tm x)) (bY (az tm i))):=by
 rfl
def axf(i:Nat)(x:X):bc P L f tm hp ct (.ext i x)=rd hp ct (MR i (az tm x)):=by
 rfl
def axg(k:Nat)(x:X):bc P L f tm hp ct (.len k x)=rd hp ct (jr hp k (az tm x)):=rfl
def axh(sz:Nat)(x:X):bc P L f tm hp ct (.box sz x)=mk hp ct (cR tm hp ct (.box sz x)):=rfl
def atW(n sz:Nat)(z:List AV)(ps:List (Nat×Nat×X)):bc P L f tm hp ct (.km n sz z ps)=mk hp ct (cR tm hp ct (.km n sz z ps)):=rfl
def axi(sz by':Nat)(z:List AV)(l c:X):bc P L f tm hp ct (.oP sz by' z l c)=mk hp ct (cR tm hp ct (.oP sz by' z l c)):=rfl
def axj:bc P L f tm hp ct .Bi=GR (.map ct,(ct,.mp ydB [] [])::hp,ct+1):=rfl
def axk(x:X):bc P L f tm hp ct (.zc x)=mk hp ct (cR tm hp ct (.zc x)):=rfl
def aAp(sz:Nat)(x v:X):bc P L f tm hp ct (.st sz x v)=cx tm hp ct (.st sz x v):=rfl
def axl(sz by':Nat)(s x:X):bc P L f tm hp ct (.eE sz by' s x)=cx tm hp ct (.eE sz by' s x):=rfl
def QX(hp:Hp)(ct:Nat)(r:Option AV):gZ:=match r with | some v=>GR (shut v,hp,ct) | none=>GS
def Sl(hp:Hp)(ct:Nat)(r:Option AV):gZ:=match r with | some v=>GR (own hp ct v) | none=>GS
def XM(P:aE)(L:Lib)(f:cp)(ct n:Nat)(q:Option (List AV×Hp)):gZ:=match q with | some (ax,hp)=>QX hp ct (bZ P L f n ax) | none=>GS
def XN(P:aE)(L:Lib)(f:cp)(ct n:Nat)(q:Option (List AV×Hp)):gZ:=match q with | some (ax,hp)=>Sl hp ct (bZ P L f n ax) | none=>GS
def XO(P:aE)(L:Lib)(f:cp)(hp:Hp)(ct:Nat)(fv:AV)(xs:List AV):gZ:=fA P L f hp ct .pure fv xs
def XP(P:aE)(L:Lib)(f:cp)(hp:Hp)(ct:Nat)(fv:AV)(xs:List AV):gZ:=fA P L f hp ct .own fv xs
def arw(g:X)(xs:List X):bc P L f tm hp ct (.call .pure g xs)=XO P L f hp ct (az tm g) (dV tm xs):=rfl
def arx(g:X)(xs:List X):bc P L f tm hp ct (.call .own g xs)=XP P L f hp ct (az tm g) (dV tm xs):=rfl
def ary(g:X)(xs:List X):bc P L f tm hp ct (.call .heap g xs)=fA P L f hp ct .heap (az tm g) (dV tm xs):=rfl
def atX(n:Nat)(first cap xs:List AV):XO P L f hp ct (.fn (.f n) first cap) xs=XM P L f ct n (cD deep hp (first++(xs++cap))):=by
 simp only[XO,fA,XM,QX]
 cases cD deep hp (first++(xs++cap)) with
 | none=>rfl
 | some q=>cases bZ P L f n q.1<;>rfl
def atY(n:Nat)(first cap xs:List AV):XP P L f hp ct (.fn (.f n) first cap) xs=XN P L f ct n (cD deep hp (first++(xs++cap))):=by
 simp only[XP,fA,XN,Sl]
 cases cD deep hp (first++(xs++cap)) with
 | none=>rfl
 | some q=>cases bZ P L f n q.1<;>rfl
def atZ(n:Nat)(ax:List AV):XM P L f ct n (GR (ax,hp))=QX hp ct (bZ P L f n ax):=rfl
def at0(n:Nat)(ax:List AV):XN P L f ct n (GR (ax,hp))=Sl hp ct (bZ P L f n ax):=rfl
def at1(v:AV):QX hp ct (GR v)=GR (shut v,hp,ct):=rfl
def axm(v:AV):Sl hp ct (GR v)=GR (own hp ct v):=rfl
def Sm(hp:Hp)(r:Option AV):Option AV:=match r with | some v=>result hp v | none=>GS
def fS(rs:List RV)(q:Option (Ex×St)):Option AV:=
 match q with
 | some (.normal,s) | some (.ret,s)=>Sm s.hp (jU s rs)
 | _=>GS
def aB{n:Nat}{F:aw}(h:Has P L n F)(ax:List AV):bZ P L f n ax=fS F.dC (f F.body ⟨fw 0 ax,[],0,0⟩):=by
 simp only[bZ,h.pure,h.code]
 cases hq:f F.body ⟨fw 0 ax,[],0,0⟩ with
 | none=>rfl
 | some q=>
  have⟨e,s⟩:=q
  cases e with
  | normal=>rfl
  | ret=>rfl
  | exit id=>rfl
def axn(rs:List RV)(s:St):fS rs (GR (.normal,s))=Sm s.hp (jU s rs):=rfl
def axo(rs:List RV)(s:St):fS rs (GR (.ret,s))=Sm s.hp (jU s rs):=rfl
def axp(v:AV):Sm hp (GR v)=result hp v:=rfl
def YL(r:RV)(s:St):jU s [r]=results1 s r:=by
 simp only[jU,nB];cases results1 s r<;>rfl
def ajd(r:Option (List AV)):Option AV:=match r with | some vs=>GR (.av vs) | none=>GS
def aCc(r q:RV)(l:List RV)(s:St):jU s (r::q::l)=ajd (nB s (r::q::l)):=by
 simp only[jU,nB];cases results1 s r<;>cases results1 s q<;>cases nB s l<;>rfl
def ahT(r:Option AV)(l:Option (List AV)):Option (List AV):=match r,l with | some v,GR vs=>GR (v::vs) | _,_=>GS
def arz(s:St):nB s []=GR []:=rfl
def apz(r:RV)(l:List RV)(s:St):nB s (r::l)=ahT (results1 s r) (nB s l):=rfl
def at2(v:AV)(vs:List AV):ahT (GR v) (GR vs)=GR (v::vs):=rfl
def axq(vs:List AV):ajd (GR vs)=GR (.av vs):=rfl
def XQ(i:Nat)(s:St):results1 s (.t i)=GR (ak s.tm i):=rfl
def aAq(a:AV):fw 0 [a]=[(0,a)]:=rfl
def aAr(a b:AV):fw 0 [a,b]=[(0,a),(1,b)]:=rfl
def aAs(a b c:AV):fw 0 [a,b,c]=[(0,a),(1,b),(2,c)]:=rfl
def aAt(a b c d:AV):fw 0 [a,b,c,d]=[(0,a),(1,b),(2,c),(3,d)]:=rfl
def aAu(a b c d e:AV):fw 0 [a,b,c,d,e]=[(0,a),(1,b),(2,c),(3,d),(4,e)]:=rfl
def aop(k:xg)(n:Int):result hp (.int k n)=GR (.int k n):=rfl
def anT(b:Bool):result hp (.bool b)=GR (.bool b):=rfl
def aoq(s:List Nat):result hp (.str s)=GR (.str s):=rfl
def anU:result hp .aj=GR .aj:=rfl
def aor(e:Bool)(n:Nat)(cs:List AV):result hp (.au e n cs)=GR (.au e n cs):=rfl
def shut_int(k:xg)(n:Int):shut (.int k n)=.int k n:=rfl
def shut_bool(b:Bool):shut (.bool b)=.bool b:=rfl
def arA(s:List Nat):shut (.str s)=.str s:=rfl
def apA:shut .aj=.aj:=rfl
def arB(e:Bool)(n:Nat)(cs:List AV):shut (.au e n cs)=.au e n cs:=rfl
def arC(e:Bool)(sz n:Nat)(cs:List AV):shut (.c9 e sz n cs)=.au e n cs:=rfl
def bz(cs:List AV):shut (.agg cs)=.agg cs:=rfl
def at3(g:Fr)(a b:List AV):shut (.fn g a b)=.fn g a b:=rfl
def iA(vs:List AV):shut (.av vs)=.av (Fs vs):=rfl
def iz:Fs []=[]:=rfl
def iw(v:AV)(r:List AV):Fs (v::r)=bN v::Fs r:=rfl
def Ko(k:xg)(n:Int):bN (.int k n)=.int k n:=rfl
def aos(b:Bool):bN (.bool b)=.bool b:=rfl
def apB(s:List Nat):bN (.str s)=.str s:=rfl
def US:bN .aj=.aj:=rfl
def apC(e:Bool)(n:Nat)(cs:List AV):bN (.au e n cs)=.au e n cs:=rfl
def apD(e:Bool)(sz n:Nat)(cs:List AV):bN (.c9 e sz n cs)=.au e n cs:=rfl
def AF(cs:List AV):bN (.agg cs)=.agg cs:=rfl
def YM(n:Nat)(r:List AV)(q:Option (AV×Hp)):Option (List AV×Hp):=match q with | some (v,hp)=>(match cD n hp r with | some (vs,jB)=>GR (v::vs,jB) | none=>GS) | none=>GS
def aje(v:AV)(q:Option (List AV×Hp)):Option (List AV×Hp):=match q with | some (vs,hp)=>GR (v::vs,hp) | none=>GS
def arD(n:Nat):cD (n+1) hp []=GR ([],hp):=rfl
def adq(n:Nat)(v:AV)(r:List AV):cD (n+1) hp (v::r)=YM n r (freeze n hp v):=by
 simp only[cD,YM];cases freeze n hp v<;>rfl
def agf(n:Nat)(r:List AV)(v:AV):YM n r (GR (v,hp))=aje v (cD n hp r):=by
 rfl
def agh(v:AV)(vs:List AV):aje v (GR (vs,hp))=GR (v::vs,hp):=rfl
def at4(n:Nat)(k:xg)(a:Int):freeze (n+1) hp (.int k a)=GR (.int k a,hp):=rfl
def arE(n:Nat)(b:Bool):freeze (n+1) hp (.bool b)=GR (.bool b,hp):=rfl
def at5(n:Nat)(s:List Nat):freeze (n+1) hp (.str s)=GR (.str s,hp):=rfl
def arG(n:Nat):freeze (n+1) hp .aj=GR (.aj,hp):=rfl
def at6(n:Nat)(e:Bool)(k:Nat)(cs:List AV):freeze (n+1) hp (.au e k cs)=GR (.au e k cs,hp):=rfl
def arH(n:Nat)(cs:List AV):freeze (n+1) hp (.bC cs)=GR (.bC cs,hp):=rfl
end
section
variable {hp:Hp}
def axr(a b:AV):XL (.bool ydB) a b=GR a:=rfl
def axs(a b:AV):XL (.bool ydC) a b=GR b:=rfl
def aAv(k:Nat->Option AV)(n:Nat):NV k (GR n)=k n:=rfl
def aot(k:xg)(n:Nat):bY (.int k (n:Int))=GR n:=rfl
def axt(k:xg):bY (.int k 0)=GR 0:=rfl
def axu(k:xg):bY (.int k 1)=GR 1:=rfl
def axv(k:xg):bY (.int k 2)=GR 2:=rfl
def axw(k:xg):bY (.int k 3)=GR 3:=rfl
def axx(k:xg):bY (.int k 4)=GR 4:=rfl
def axy(k:xg):bY (.int k 5)=GR 5:=rfl
def axz(k:xg):bY (.int k 6)=GR 6:=rfl
def axA(k:xg):bY (.int k 7)=GR 7:=rfl
def axB(k:xg):bY (.int k 8)=GR 8:=rfl
def axC(k:xg):bY (.int k 9)=GR 9:=rfl
def at7(cs:List AV):ahS (GR cs)=GR (.agg cs):=rfl
def afz(k:xg)(a b:Int):binOp .add (.int k a) (.int k b)=GR (.int k (k.wrap (a+b))):=by simp[binOp,nE]
def P1(k:xg)(a b:Int):binOp .sub (.int k a) (.int k b)=GR (.int k (k.wrap (a-b))):=by simp[binOp,nE]
def afA(k:xg)(a b:Int):binOp .mul (.int k a) (.int k b)=GR (.int k (k.wrap (a*b))):=by simp[binOp,nE]
def eP(k:xg)(a b:Int)(h:b≠0):binOp .quo (.int k a) (.int k b)=GR (.int k (k.wrap (a.tdiv b))):=by simp[binOp,nE,h]
def fM(k:xg)(a b:Int)(h:b≠0):binOp .rem (.int k a) (.int k b)=GR (.int k (a.tmod b)):=by simp[binOp,nE,h]
def aua(k:xg)(a b:Int):binOp .eql (.int k a) (.int k b)=GR (.bool (decide (a=b))):=by
 simp[binOp,nE,intCmp,BEq.beq]
def aub(k:xg)(a b:Int):binOp .neq (.int k a) (.int k b)=GR (.bool (!decide (a=b))):=by
 simp[binOp,nE,intCmp,bne,BEq.beq]
def auc(k:xg)(a b:Int):binOp .lss (.int k a) (.int k b)=GR (.bool (decide (a<b))):=by simp[binOp,nE,intCmp]
def aud(k:xg)(a b:Int):binOp .leq (.int k a) (.int k b)=GR (.bool (decide (a<=b))):=by simp[binOp,nE,intCmp]
def aue(k:xg)(a b:Int):binOp .gtr (.int k a) (.int k b)=GR (.bool (decide (b<a))):=by simp[binOp,nE,intCmp]
def auf(k:xg)(a b:Int):binOp .geq (.int k a) (.int k b)=GR (.bool (decide (b<=a))):=by simp[binOp,nE,intCmp]
def axD(k:xg)(a:Int):unOp .neg (.int k a)=GR (.int k (k.wrap (0-a))):=rfl
def axE(b:Bool):unOp .not (.bool b)=GR (.bool !b):=rfl
def arI:jr hp 1 .aj=GR (.int .i64 0):=rfl
def aug(e:Bool)(n:Nat)(cs:List AV):jr hp 1 (.au e n cs)=GR (.int .i64 n):=rfl
def auh(id o n:Nat):jr hp 1 (.ay id o n)=GR (.int .i64 n):=rfl
def aui(s:List Nat):jr hp 0 (.str s)=GR (.int .i64 s.length):=rfl
def P2{i n:Nat}(e:Bool)(cs:List AV)(h:i<n):jq sz i (.au e n cs)=GR (.bC (cs.drop (i*sz))):=by
 have hb:yP i n=ydB:=yy h;simp only[jq]
 grind
def dd{i n:Nat}(id o:Nat)(h:i<n):jq sz i (.ay id o n)=GR (.ptr id (o+i*sz)):=by
 have hb:yP i n=ydB:=yy h;simp only[jq]
 grind
def arJ(v:AV)(cs:List AV):gk hp 1 ydC (.bC (v::cs))=GR v:=rfl
def IU(sz:Nat)(ag:Bool)(o:Nat)(q:Option Obj):Option AV:=match q with | some (.cells _ _ _ _ cs)=>gY sz ag (cs.drop o) | _=>GS
def axF(sz:Nat)(ag:Bool)(id o:Nat):gk hp sz ag (.ptr id o)=IU sz ag o (ah hp id):=by
 rfl
def aAw(sz:Nat)(ag:Bool)(o:Nat)(rw pu ex:Bool)(z:Nat)(cs:List AV):IU sz ag o (GR (.cells rw pu ex z cs))=gY sz ag (cs.drop o):=rfl
def aAx(sz:Nat)(v:AV)(cs:List AV):gY sz ydC (v::cs)=GR v:=rfl
def aCd(a:AV)(l:List AV):MR 0 (.av (a::l))=GR a:=rfl
def ext1(a b:AV)(l:List AV):MR 1 (.av (a::b::l))=GR b:=rfl
def aCe(a b c:AV)(l:List AV):MR 2 (.av (a::b::c::l))=GR c:=rfl
def aCf(a b c d:AV)(l:List AV):MR 3 (.av (a::b::c::d::l))=GR d:=rfl
end
def qU:Env->Bool
 | []=>ydB
 | (_,v)::r=>aX v&&qU r
mutual
def mQ:∀{v:AV},aX v=ydB->refs v=[]
 | .int _ _,_ | .bool _,_ | .an _ _,_ | .dI _ _ _,_ | .str _,_ | .ll,_ | .bC _,_ | .aj,_ | .au _ _ _,_ | .fQ,_ | .gU,_ | .kj _ _,_ | .undef,_=>rfl
 | .ptr _ _,h | .ay _ _ _,h | .map _,h | .it _,h | .c9 _ _ _ _,h=>by simp[aX] at h
 | .fn (.y _) _ _,h=>by simp[aX] at h
 | .fn (.f _) first cap,h=>by
  simp only[aX,yf] at h;simp only[refs,EO h.1,EO h.2,wZ]
 | .agg cs,h=>by simp only[aX] at h;simp only[refs,EO h]
 | .av cs,h=>by simp only[aX] at h;simp only[refs,EO h]
def EO:∀{vs:List AV},aF vs=ydB->fY vs=[]
 | [],_=>rfl
 | v::r,h=>by
  simp only[aF,yf] at h;simp only[fY,mQ h.1,EO h.2,wZ]
end
mutual
def Kw(f:Nat->Option Nat):∀{v:AV},aX v=ydB->bn f v=v
 | .int _ _,_ | .bool _,_ | .an _ _,_ | .dI _ _ _,_ | .str _,_ | .ll,_ | .bC _,_ | .aj,_ | .au _ _ _,_ | .fQ,_ | .gU,_ | .kj _ _,_ | .undef,_=>rfl
 | .ptr _ _,h | .ay _ _ _,h | .map _,h | .it _,h | .c9 _ _ _ _,h=>by simp[aX] at h
 | .fn (.y _) _ _,h=>by simp[aX] at h
 | .fn (.f _) first cap,h=>by
  simp only[aX,yf] at h;simp only[bn,ET f h.1,ET f h.2]
 | .agg cs,h=>by simp only[aX] at h;simp only[bn,ET f h]
 | .av cs,h=>by simp only[aX] at h;simp only[bn,ET f h]
def ET(f:Nat->Option Nat):∀{vs:List AV},aF vs=ydB->dA f vs=vs
 | [],_=>rfl
 | v::r,h=>by
  simp only[aF,yf] at h;simp only[dA,Kw f h.1,ET f h.2]
end
def UT:∀{tm:Env},qU tm=ydB->dw tm=[]
 | [],_=>rfl
 | (i,v)::r,h=>by
  simp only[qU,yf] at h;simp only[dw,mQ h.1,UT h.2,wZ]
def adr(f:Nat->Option Nat):∀{tm:Env},qU tm=ydB->gj f tm=tm
 | [],_=>rfl
 | (i,v)::r,h=>by
  simp only[qU,yf] at h;simp only[gj,Kw f h.1,adr f h.2]
def OO(h:qU (bF tm live)=ydB):bH live ⟨tm,[],ct,0⟩=⟨bF tm live,[],0,0⟩:=by
 simp only[bH,UT h,cE,wZ];simp only[reach,ep,fZ,adr _ h,yR,yY]
def anV:bH [] ⟨tm,[],ct,0⟩=⟨[],[],0,0⟩:=rfl
def PE{P:aE}{L:Lib}{a:VC}(I:Nat->St->Prop)(Q:Ex->St->Prop)(step:∀k s,I k s->(∃s' k',D P L a (bH live s)=GR (.normal,s')/\k'<k/\I k' s')\/(∃ex s',D P L a (bH live s)=GR (ex,s')/\ex≠.normal/\Q ex s')):
  ∀k s,I k s->∃ex s',D P L (.loop live a) s=GR (ex,s')/\Q ex s':=by
 intro k
 induction k using vY with
 | _ k ih=>
  intro s hI;rw[HJ];rcases step k s hI with ⟨s',k',h1,h2,h3⟩ | ⟨ex,s',h1,h2,h3⟩
  .rw [h1,afx];exact ih k' h2 s' h3
  .rw [h1]
   cases ex with
   | normal=>exact absurd rfl h2
   | ret=>exact⟨.ret,s',rfl,h3⟩
   | exit id=>exact⟨.exit id,s',rfl,h3⟩
def VS{P:aE}{L:Lib}{a:VC}(I:Nat->St->Prop)(Q:Ex->St->Prop)(step:∀k s,I k s->(∃s' k',D P L a s=GR (.normal,s')/\k'<k/\I k' (bH live s'))\/(∃ex s',D P L a s=GR (ex,s')/\ex≠.normal/\Q ex s')):
  ∀k s,I k (bH live s)->∃ex s',D P L (.loop live a) s=GR (ex,s')/\Q ex s':=
 PE (fun k s=>I k (bH live s)) Q (fun k s h=>step k _ h)
def cG(P:aE)(L:Lib)(live:List Nat)(a:VC)(I:Nat->St->Prop)(Q:Ex->St->Prop):Prop:=∀k s,I k (bH live s)->∃ex s',D P L (.loop live a) s=GR (ex,s')/\Q ex s'
def cI{P:aE}{L:Lib}{a:VC}(step:∀k s,I k s->(∃s' k',D P L a s=GR (.normal,s')/\k'<k/\I k' (bH live s'))\/(∃ex s',D P L a s=GR (ex,s')/\ex≠.normal/\Q ex s')):cG P L live a I Q:=VS I Q step
def aIK{P:aE}{L:Lib}{a:VC}(step:∀k s,I k s->(∃s' k',D P L a s=GR (.normal,s')/\k'<k/\I k' (bH live s'))\/(∃ex s',D P L a s=GR (ex,s')/\ex≠.normal/\Q ex s')):
  ∀k s s0,bH live s=s0->I k s0->∃ex s',D P L (.loop live a) s=GR (ex,s')/\Q ex s':=fun k s s0 h hi=>VS I Q step k s (h▸hi)
def aD(h:aX v=ydB):refs v=[]/\∀f,bn f v=v:=⟨mQ h,fun f=>Kw f h⟩
def iX(P:aE)(L:Lib)(live:List Nat)(a:VC)(I:Nat->St->Prop)(Q:Ex->St->Prop)(step:∀k s,I k s->(∃s' k',D P L a s=GR (.normal,s')/\k'<k/\I k' (bH live s'))\/(∃ex s',D P L a s=GR (ex,s')/\ex≠.normal/\Q ex s')):
  ∀k s,I k (bH live s)->∃ex s',D P L (.loop live a) s=GR (ex,s')/\Q ex s':=VS I Q step
def bt{P:aE}{L:Lib}{c:VC}{s:St}{q:Option (Ex×St)}{I:St->Prop}(hq:D P L c s=q)(key:∀s,I s->∃ex s',D P L c s=GR (ex,s')/\Q ex s')(hI:I s):
  ∃ex s',q=GR (ex,s')/\Q ex s':=by
 rw[<-hq];exact key s hI
def arK(tm:Env):bF tm []=[]:=rfl
def apE(tm:Env)(i:Nat)(r:List Nat):bF tm (i::r)=(i,ak tm i)::bF tm r:=rfl
def apF:qU []=ydB:=rfl
def aou(i:Nat)(v:AV)(r:Env):qU ((i,v)::r)=(aX v&&qU r):=rfl
def agi(k:xg)(n:Int):aX (.int k n)=ydB:=(rfl)
def auj(b:Bool):aX (.bool b)=ydB:=(rfl)
def axG(s:List Nat):aX (.str s)=ydB:=(rfl)
def auk:aX .aj=ydB:=(rfl)
def axH(e:Bool)(n:Nat)(cs:List AV):aX (.au e n cs)=ydB:=(rfl)
def aul(cs:List AV):aX (.bC cs)=ydB:=(rfl)
def arL:aX .undef=ydB:=(rfl)
attribute [go_sem] deep anV arK apE apF aou agi auj axG auk axH aul arL uX wE
attribute [go_sem] awY awZ aAg ajc aB8 aAh qS aw0 aAi ml atH atI afx atJ atK atL atM afy atN aw1 aw2 atO atP
 atQ arn apw atS aAj aAk aro arp arq ars atT aw3 aw4 apx aoo art apy jW eK PD qD aru VR Po
 aB9 aCa aw5 atU arv aAl atV aw6 aAm aAn aAo aw7 aw8 aw9 axa axb axc axd axe axf axg axh atW axi axj axk aAp axl arw arx ary
 atX atY atZ at0 at1 axm axn axo axp YL aCc arz apz at2 axq XQ aAq aAr aAs aAt aAu
 aop anT aoq anU aor shut_int shut_bool arA apA arB arC bz at3 iA iz iw Ko aos apB US apC apD AF
 arD adq agf agh at4 arE at5 arG at6 arH
 axr axs aAv aot axt axu axv axw axx axy axz axA axB axC at7 afz P1 afA aua aub auc aud aue auf axD axE arI aug auh aui arJ axF aAw aAx aCd ext1 aCe aCf
 yN wZ yI yp yt Bool.not_true Bool.not_false uO xG
end
abbrev aa(n:Int):AV:=.int .i64 n
def cB(v:AV)(cs:List AV):Prop:=(v=.aj/\cs=[])\/∃e,v=.au e cs.length cs
section
variable {v:AV}{cs:List AV}{hp:Hp}
def cB.len(h:cB v cs){hp:Hp}:jr hp 1 v=GR (.int .i64 (cs.length:Nat)):=by
 rcases h with ⟨rfl,rfl⟩ | ⟨e,rfl⟩<;>rfl
def cB.pu(h:cB v cs):aX v=ydB:=by
 rcases h with ⟨rfl,rfl⟩ | ⟨e,rfl⟩<;>rfl
def cB.ai(h:cB v cs)(n:Nat){hp:Hp}:freeze (n+1) hp v=GR (v,hp):=by
 rcases h with ⟨rfl,rfl⟩ | ⟨e,rfl⟩<;>rfl
def cB.shut(h:cB v cs):shut v=v:=by
 rcases h with ⟨rfl,rfl⟩ | ⟨e,rfl⟩<;>rfl
def cB.bN(h:cB v cs):bN v=v:=by
 rcases h with ⟨rfl,rfl⟩ | ⟨e,rfl⟩<;>rfl
def cB.dC(h:cB v cs){hp:Hp}:result hp v=GR v:=by
 rcases h with ⟨rfl,rfl⟩ | ⟨e,rfl⟩<;>rfl
def cB.bk(h:cB v cs){i:Nat}(hi:i<cs.length):jq 1 i v=GR (.bC (cs[i]::cs.drop (i+1))):=by
 rcases h with ⟨rfl,rfl⟩ | ⟨e,rfl⟩
 .grind
 .rw [P2 e _ hi,yg,yX hi]
def cB.one(h:cB v cs):dN v=ydB:=by
 rcases h with ⟨rfl,rfl⟩ | ⟨e,rfl⟩<;>rfl
def cB.cells(h:cB v cs):cellsOf v=[v]:=by
 rcases h with ⟨rfl,rfl⟩ | ⟨e,rfl⟩<;>rfl
def KL(e:Bool)(cs:List AV):cB (.au e cs.length cs) cs:=.inr ⟨e,rfl⟩
def AG:cB .aj []:=.inl ⟨rfl,rfl⟩
end
def bB(v:AV)(l:List Int):Prop:=cB v (l.map aa)
section
variable {v:AV}{l:List Int}
def bB.len(h:bB v l):jr hp 1 v=GR (.int .i64 (l.length:Nat)):=by
 have:=cB.len (hp:=hp) h
 grind
def bB.pu(h:bB v l):aX v=ydB:=cB.pu h
def bB.ai(h:bB v l)(n:Nat):freeze (n+1) hp v=GR (v,hp):=cB.ai h n
def bB.shut(h:bB v l):VE.shut v=v:=cB.shut h
def bB.bN(h:bB v l):VE.bN v=v:=cB.bN h
def bB.dC(h:bB v l):result hp v=GR v:=cB.dC h
def bB.one(h:bB v l):dN v=ydB:=cB.one h
def bB.cells(h:bB v l):cellsOf v=[v]:=cB.cells h
def bB.bk(h:bB v l){i:Nat}(hi:i<l.length):jq 1 i v=GR (.bC (.int .i64 l[i]::(l.map aa).drop (i+1))):=by
 have:=cB.bk h (i:=i) (by simpa using hi)
 grind
def jn(e:Bool)(l:List Int):bB (.au e l.length (l.map aa)) l:=by
 have:=KL e (l.map aa)
 rwa[y5] at this
end
def eN{α β:Type}(p:α->β->Prop):List α->List β->Prop
 | [],[]=>True
 | a::r,b::s=>p a b/\eN p r s
 | _,_=>False
section
variable {α β:Type}{p:α->β->Prop}
def eN.len:∀{l:List α} {m:List β},eN p l m->l.length=m.length
 | [],[],_=>rfl
 | _::_,_::_,h=>by rw[yH,yH,h.2.len]
def eN.get:∀{l:List α} {m:List β} (_:eN p l m) {i:Nat} (h1:i<l.length) (h2:i<m.length),p l[i] m[i]
 | a::r,b::s,h,0,_,_=>h.1
 | a::r,b::s,h,i+1,h1,h2=>by
  exact h.2.get (by simpa using h1) (by simpa using h2)
end
def IsS(v:AV)(s:List (List Int)):Prop:=∃rows,cB v rows/\eN bB rows s
def wrap64{n:Int}(h1: -9223372036854775808<=n)(h2:n<9223372036854775808):IntKind.wrap .i64 n=n:=by
 simp only[IntKind.wrap,IntKind.bits,IntKind.signed,wE]
 grind
def wrapN{n:Nat}(h:n<9223372036854775808):IntKind.wrap .i64 (n:Int)=n:=wrap64 (by lia) (by lia)
abbrev ab(P:aE)(L:Lib)(f:Nat)(ax:List AV)(r:AV):Prop:=bZ P L (D P L) f ax=GR r
section
variable {v:AV}{ex pu:Bool}{cs new:List AV}{by' n o sz z:Nat}
section
variable {P:aE}{L:Lib}{f:cp}{tm:Env}{hp:Hp}{ct:Nat}
def apG(k:xg)(n:Int):cellsOf (.int k n)=[.int k n]:=(rfl)
def aov(b:Bool):cellsOf (.bool b)=[.bool b]:=(rfl)
def apH(s:List Nat):cellsOf (.str s)=[.str s]:=(rfl)
def aow:cellsOf .aj=[.aj]:=(rfl)
def apI(e:Bool)(n:Nat)(cs:List AV):cellsOf (.au e n cs)=[.au e n cs]:=(rfl)
def apJ(id o n:Nat):cellsOf (.ay id o n)=[.ay id o n]:=(rfl)
def apK(id o:Nat):cellsOf (.ptr id o)=[.ptr id o]:=(rfl)
def arM(g:Fr)(a b:List AV):cellsOf (.fn g a b)=[.fn g a b]:=(rfl)
def apL(cs:List AV):cellsOf (.agg cs)=cs:=(rfl)
def afB(k:xg)(n:Int):dN (.int k n)=ydB:=(rfl)
def arN(b:Bool):dN (.bool b)=ydB:=(rfl)
def aum(s:List Nat):dN (.str s)=ydB:=(rfl)
def arO:dN .aj=ydB:=(rfl)
def aun(e:Bool)(n:Nat)(cs:List AV):dN (.au e n cs)=ydB:=(rfl)
def auo(id o n:Nat):dN (.ay id o n)=ydB:=(rfl)
def aup(id o:Nat):dN (.ptr id o)=ydB:=(rfl)
def axI(g:Fr)(a b:List AV):dN (.fn g a b)=ydB:=(rfl)
def arP:cf []=ydB:=(rfl)
def ads(v:AV)(r:List AV):cf (v::r)=(dN v&&cf r):=(rfl)
def apM:aF []=ydB:=(rfl)
def aox(v:AV)(r:List AV):aF (v::r)=(aX v&&aF r):=(rfl)
def axJ(id o:Nat):aX (.ptr id o)=ydC:=(rfl)
def axK(id o n:Nat):aX (.ay id o n)=ydC:=(rfl)
def aAy(g:Nat)(a b:List AV):aX (.fn (.f g) a b)=(aF a&&aF b):=(rfl)
def aCg(l:Nat)(a b:List AV):aX (.fn (.y l) a b)=ydC:=(rfl)
def axL(cs:List AV):aX (.agg cs)=aF cs:=(rfl)
def axM(cs:List AV):aX (.av cs)=aF cs:=(rfl)
def mY(ct sz:Nat)(cs:List AV):Option (AV×Obj):=bif yu cs.length sz&&cf cs then GR (.ptr ct 0,.cells ydB (aF cs) ydB sz cs) else GS
def axN(sz:Nat)(x:X):cR tm hp ct (.box sz x)=mY ct sz (cellsOf (az tm x)):=rfl
def aAz(h:dN v=ydB):mY ct 1 [v]=GR (.ptr ct 0,.cells ydB (aX v&&ydB) ydB 1 [v]):=by
 simp[mY,cf,aF,h]
def aT(hn:cs.length=n)(h:cf cs=ydB):mY ct n cs=GR (.ptr ct 0,.cells ydB (aF cs) ydB n cs):=by
 subst hn;simp[mY,h]
def iM(hp:Hp)(ct id o sz:Nat)(new:List AV)(q:Option Obj):gZ:=
 match q with
 | some (.cells ydB pu ex z cs)=>bif yu new.length sz&&yG (o+sz) cs.length&&cf new then GR (.av [],aJ hp id (.cells ydB (pu&&aF new) ex z (over o new cs)),ct) else GS
 | _=>GS
def stV(hp:Hp)(ct sz:Nat)(p:AV)(new:List AV):gZ:=match p with | .ptr id o=>iM hp ct id o sz new (ah hp id) | _=>GS
def aek(sz:Nat)(x v:X):cx tm hp ct (.st sz x v)=stV hp ct sz (az tm x) (cellsOf (az tm v)):=rfl
def ahU(sz id o:Nat)(new:List AV):stV hp ct sz (.ptr id o) new=iM hp ct id o sz new (ah hp id):=rfl
def aCh{u:AV}{id:Nat}(h:dN v=ydB):iM hp ct id 0 1 [v] (GR (.cells ydB pu ex z [u]))=GR (.av [],aJ hp id (.cells ydB (pu&&(aX v&&ydB)) ex z [v]),ct):=by
 simp[iM,cf,aF,h,over];rfl
def HQ{id:Nat}(h1:new.length=sz)(h2:o+sz<=cs.length)(h:cf new=ydB):
  iM hp ct id o sz new (GR (.cells ydB pu ex z cs))=GR (.av [],aJ hp id (.cells ydB (pu&&aF new) ex z (over o new cs)),ct):=by
 subst h1;simp[iM,h,yy h2]
def QY(ct n sz:Nat)(q:Option (List AV)):Option (AV×Obj):=match q with | some cs=>bif yu cs.length (n*sz) then GR (.ay ct 0 n,.cells ydB (aF cs) ydB sz cs) else GS | none=>GS
def auq(n sz:Nat)(z:List AV)(ps:List (Nat×Nat×X)):cR tm hp ct (.km n sz z ps)=QY ct n sz (fill tm z ps):=by
 simp only[cR,QY];cases fill tm z ps<;>rfl
def cM(h:cs.length=n*sz):QY ct n sz (GR cs)=GR (.ay ct 0 n,.cells ydB (aF cs) ydB sz cs):=by
 simp[QY,h]
def lL(tm:Env)(cs:List AV)(o sz:Nat)(new:List AV)(r:List (Nat×Nat×X)):Option (List AV):=
 bif yu new.length sz&&yG (o+sz) cs.length&&cf new then fill tm (over o new cs) r else GS
def arQ(cs:List AV):fill tm cs []=GR cs:=rfl
def apN(cs:List AV)(o sz:Nat)(x:X)(r:List (Nat×Nat×X)):fill tm cs ((o,sz,x)::r)=lL tm cs o sz (cellsOf (az tm x)) r:=rfl
def afC{r:List (Nat×Nat×X)}(h1:o+1<=cs.length)(h2:dN v=ydB):lL tm cs o 1 [v] r=fill tm (over o [v] cs) r:=by
 simp[lL,cf,h2,yy h1]
def Wl{r:List (Nat×Nat×X)}(h0:new.length=sz)(h1:o+sz<=cs.length)(h2:cf new=ydB):lL tm cs o sz new r=fill tm (over o new cs) r:=by
 subst h0;simp[lL,h2,yy h1]
def aAA(v u:AV)(r:List AV):over 0 [v] (u::r)=v::r:=rfl
def aAB(v a u:AV)(r:List AV):over 1 [v] (a::u::r)=a::v::r:=rfl
def aAC(v a b u:AV)(r:List AV):over 2 [v] (a::b::u::r)=a::b::v::r:=rfl
def aAD(v a b c u:AV)(r:List AV):over 3 [v] (a::b::c::u::r)=a::b::c::v::r:=rfl
def aAE(v a b c d u:AV)(r:List AV):over 4 [v] (a::b::c::d::u::r)=a::b::c::d::v::r:=rfl
def aAF(v a b c d e u:AV)(r:List AV):over 5 [v] (a::b::c::d::e::u::r)=a::b::c::d::e::v::r:=rfl
def zY(ct sz by':Nat)(zero:List AV)(l c:Option Nat):Option (AV×Obj):=
 match l,c with
 | some l,GR c=>bif yG l c&&(yG c room&&(yG (c*by') room&&(yu zero.length sz&&cf zero))) then GR (.ay ct 0 l,.cells ydB (aF zero) (yu l c) sz (yj l zero).flatten) else GS
 | _,_=>GS
def axO(sz by':Nat)(z:List AV)(l c:X):cR tm hp ct (.oP sz by' z l c)=zY ct sz by' z (bY (az tm l)) (bY (az tm c)):=by
 simp only[cR,zY]
 grind
def Fm{l:Nat}{z:List AV}(h1:l<=1099511627776)(h2:l*by'<=1099511627776)(h3:z.length=sz)(h4:cf z=ydB):
  zY ct sz by' z (GR l) (GR l)=GR (.ay ct 0 l,.cells ydB (aF z) ydB sz (yj l z).flatten):=by
 subst h3;simp[zY,h4,yy (show l<=room from h1),yy (show l*by'<=room from h2),yy (yz l)]
def FY(hp:Hp)(ct sz by':Nat)(s:AV)(src:Option (Nat×List AV)):gZ:=
 match src with
 | none=>GS
 | some (m,new)=>
  match s with
  | .aj=>
   bif yu m 0 then GR (.aj,hp,ct)
   else bif yG m room&&(yG (m*by') room&&yP 0 sz) then GR (.ay ct 0 m,(ct,.cells ydB (aF new) ydC sz new)::hp,ct+1) else GS
  | .au ydB n cs=>
   bif yu m 0 then GR (.au ydB n cs,hp,ct)
   else bif yG (n+m) room&&(yG ((n+m)*by') room&&(yu cs.length (n*sz)&&yP 0 sz)) then GR (.ay ct 0 (n+m),(ct,.cells ydB (aF cs&&aF new) ydC sz (cs++new))::hp,ct+1) else GS
  | .ay id o n=>
   match ah hp id with
   | some (.cells ydB pu _ z cs)=>
    bif yu z sz&&(yG (n+m) room&&(yG ((n+m)*by') room&&(yG (o+n*sz) cs.length&&(yP 0 sz&&cf new)))) then
     GR (.ay ct 0 (n+m),(ct,.cells ydB (pu&&aF new) ydC sz (slice o (n*sz) cs++new))::cS hp id,ct+1)
    else GS
   | _=>GS
  | _=>GS
def apO(sz by':Nat)(s x:X):cx tm hp ct (.eE sz by' s x)=FY hp ct sz by' (az tm s) (sq hp sz (az tm x)):=by
 simp only[cx,FY]
 cases sq hp sz (az tm x) with
 | none=>rfl
 | some q=>have⟨m,new⟩:=q;cases az tm s<;>rfl
def mP(sz id o n:Nat):sq hp sz (.ay id o n)=pE hp sz (.ay id o n):=rfl
def acz(sz:Nat)(e:Bool)(n:Nat)(cs:List AV):sq hp sz (.au e n cs)=pE hp sz (.au e n cs):=rfl
def ab2(sz:Nat):sq hp sz .aj=GR (0,[]):=rfl
def Ap(o n sz:Nat)(q:Option Obj):Option (Nat×List AV):=match q with | some (.cells _ _ _ _ cs)=>bif yG (o+n*sz) cs.length then GR (n,slice o (n*sz) cs) else GS | _=>GS
def mO(sz id o n:Nat):pE hp sz (.ay id o n)=Ap o n sz (ah hp id):=rfl
def aAG(rw pu ex:Bool)(z:Nat)(v:AV):Ap 0 1 1 (GR (.cells rw pu ex z [v]))=GR (1,[v]):=rfl
def afD{rw:Bool}(h:cs.length=n*sz):Ap 0 n sz (GR (.cells rw pu ex z cs))=GR (n,cs):=by
 simp only[Ap,yd,<-h,yy (yz cs.length),yx,slice,ye,xR]
def jm{m:Nat}(hm:0<m)(h1:m<=1099511627776)(h2:m*by'<=1099511627776)(hs:0<sz):
  FY hp ct sz by' .aj (GR (m,new))=GR (.ay ct 0 m,(ct,.cells ydB (aF new) ydC sz new)::hp,ct+1):=by
 have e1:yu m 0=ydC:=iB (by lia);have e2:yP 0 sz=ydB:=yy hs;simp[FY,e1,e2,yy (show m<=room from h1),yy (show m*by'<=room from h2)]
def gR{id m:Nat}(hg:ah hp id=GR (.cells ydB pu ex sz cs))(hl:cs.length=n*sz)(h1:n+m<=1099511627776)(h2:(n+m)*by'<=1099511627776)(hs:0<sz)(ho:cf new=ydB):
  FY hp ct sz by' (.ay id 0 n) (GR (m,new))=GR (.ay ct 0 (n+m),(ct,.cells ydB (pu&&aF new) ydC sz (cs++new))::cS hp id,ct+1):=by
 have e2:yP 0 sz=ydB:=yy hs;simp only[FY,hg];simp[e2,ho,yy (show n+m<=room from h1),yy (show (n+m)*by'<=room from h2),<-hl,slice,yy (yz cs.length)]
def ajf(n:Nat)(g:Nat)(cap:List AV)(q:Option (List AV×Hp)):Option (AV×Hp):=match q with | some (first,hp)=>(match cD n hp cap with | some (Rk,jB)=>GR (.fn (.f g) first Rk,jB) | none=>GS) | none=>GS
def ajg(g:Nat)(first:List AV)(q:Option (List AV×Hp)):Option (AV×Hp):=match q with | some (cap,hp)=>GR (.fn (.f g) first cap,hp) | none=>GS
def axP(n g:Nat)(first cap:List AV):freeze (n+1) hp (.fn (.f g) first cap)=ajf n g cap (cD n hp first):=rfl
def axQ(n g:Nat)(first cap:List AV):ajf n g cap (GR (first,hp))=ajg g first (cD n hp cap):=rfl
def axR(g:Nat)(first cap:List AV):ajg g first (GR (cap,hp))=GR (.fn (.f g) first cap,hp):=rfl
def ajh(o:Nat)(q:Option (Bool×Nat×List AV×Hp)):Option (AV×Hp):=match q with | some (_,_,cs,hp)=>GR (.bC (cs.drop o),hp) | none=>GS
def KM(n id o:Nat):freeze (n+1) hp (.ptr id o)=ajh o (zF n hp id):=rfl
def LF(o:Nat)(ex:Bool)(sz:Nat)(cs:List AV):ajh o (GR (ex,sz,cs,hp))=GR (.bC (cs.drop o),hp):=rfl
def mZ(o k:Nat)(q:Option (Bool×Nat×List AV×Hp)):Option (AV×Hp):=
 match q with
 | some (ex,sz,cs,hp)=>bif yG (o+k*sz) cs.length then GR (.au (ex&&yP 0 sz&&yu (o+k*sz) cs.length) k (slice o (k*sz) cs),hp) else GS
 | none=>GS
def Wm(n id o k:Nat):freeze (n+1) hp (.ay id o k)=mZ o k (zF n hp id):=rfl
def jX{k:Nat}(ex:Bool)(hl:cs.length=k*sz)(hs:0<sz):mZ 0 k (GR (ex,sz,cs,hp))=GR (.au ex k cs,hp):=by
 have e2:yP 0 sz=ydB:=yy hs;simp[mZ,<-hl,e2,slice,yy (yz cs.length)]
def Cn(n id:Nat)(hp:Hp)(q:Option Obj):Option (Bool×Nat×List AV×Hp):=
 match q with
 | some (.cells rw pu ex sz cs)=>
  bif pu then GR (ex,sz,cs,bif rw then aJ hp id (.cells ydC ydB ex sz cs) else hp)
  else match cD n hp cs with
   | some (dJ,ap)=>GR (ex,sz,dJ,aJ ap id (.cells ydC ydC ex sz cs))
   | none=>GS
 | _=>GS
def E3(n id:Nat):zF (n+1) hp id=Cn n id hp (ah hp id):=rfl
def WY(n id:Nat)(ex:Bool)(sz:Nat)(cs:List AV):Cn n id hp (GR (.cells ydB ydB ex sz cs))=GR (ex,sz,cs,aJ hp id (.cells ydC ydB ex sz cs)):=rfl
def WZ(n id:Nat)(ex:Bool)(sz:Nat)(cs:List AV):Cn n id hp (GR (.cells ydC ydB ex sz cs))=GR (ex,sz,cs,hp):=rfl
def bS(n:Nat)(cs:List AV)(h:cD n hp cs=GR (cs,hp)):freeze (n+1) hp (.agg cs)=GR (.agg cs,hp):=by
 simp only[freeze,h]
def acA{id:Nat}(hg:ah hp id=GR (.cells ydB ydB ex sz cs))(hl:cs.length=n*sz)(hs:0<sz):result hp (.ay id 0 n)=GR (.c9 ex sz n cs):=by
 have e2:yP 0 sz=ydB:=yy hs;simp only[result,zP,hg,yd,<-hl,yy (yz cs.length),yx,e2,uX,slice,ye,xR]
 simp
def apP{k id:Nat}(hg:ah hp id=GR (.cells ydB ydB ex sz cs))(hl:cs.length=n*sz)(hs:0<sz):zP k hp (.ay id 0 n)=GR (.c9 ex sz n cs,cS hp id):=by
 have e2:yP 0 sz=ydB:=yy hs;simp only[zP,hg,yd,<-hl,yy (yz cs.length),yx,e2,uX,slice,ye,xR]
 simp
def abG{id:Nat}{k:xg}{b:Int}(hg:ah hp id=GR (.cells ydB ydB ex sz cs))(hl:cs.length=n*sz)(hs:0<sz):result hp (.av [.ay id 0 n,.int k b])=GR (.av [.c9 ex sz n cs,.int k b]):=by
 have h1:Qj [.ay id 0 n,.int k b]=GR [id]:=rfl;simp only[result,h1,EY,apP hg hl hs];rfl
def anc(b:Bool):result hp (.av [.aj,.bool b])=GR (.av [.aj,.bool b]):=rfl
def ane(k:xg)(b:Int):result hp (.av [.aj,.int k b])=GR (.av [.aj,.int k b]):=rfl
def anf(e:Bool)(n:Nat)(cs:List AV)(k:xg)(b:Int):result hp (.av [.au e n cs,.int k b])=GR (.av [.au e n cs,.int k b]):=rfl
def apQ(s:St):sG [] s=GR s:=rfl
def fzC(t:Nat)(r:List Nat)(tm:Env)(ct base:Nat)(q:Option (AV×Hp)):Option St:=match q with | some (v,hp)=>sG r ⟨(t,v)::tm,hp,ct,base⟩ | none=>GS
def aoy(t:Nat)(r:List Nat)(tm:Env)(hp:Hp)(ct base:Nat):sG (t::r) ⟨tm,hp,ct,base⟩=fzC t r tm ct base (freeze deep hp (ak tm t)):=by
 simp only[sG,fzC];cases freeze deep hp (ak tm t)<;>rfl
def aAH(t:Nat)(r:List Nat)(tm:Env)(ct base:Nat)(v:AV)(hp:Hp):fzC t r tm ct base (GR (v,hp))=sG r ⟨(t,v)::tm,hp,ct,base⟩:=rfl
end
attribute [go_sem] anc ane anf apG aov apH aow apI apJ apK arM apL afB arN aum arO aun auo aup axI arP ads
 apM aox axJ axK aAy aCg axL axM axN aAz aek ahU aCh auq arQ apN aAA aAB aAC aAD aAE aAF axO
 apO mP acz ab2 mO aAG axP axQ axR KM LF Wm jX cM afC E3 WY WZ apQ aoy aAH
 Bool.and_false ve ye eq_self
end
def ael:∀hp:Hp,cE 0 hp=[]
 | []=>rfl
 | (id,o)::r=>by
  have:yP id 0=ydC:=rfl
  simp only[cE,this,yS,ael r]
def agj(f:Nat->Option Nat):∀hp:Hp,fZ 0 f hp=[]
 | []=>rfl
 | (id,o)::r=>by
  have:yP id 0=ydC:=rfl
  simp only[fZ,this,yS,agj f r]
def pos(seen:List Nat):Nat->Option Nat:=fun id=>gV id seen 0
def YN(tm:Env)(hp:Hp)(seen:List Nat):St:=⟨gj (pos seen) tm,ep hp (pos seen) seen 0 [],seen.length,0⟩
def jR(hp:Hp):Nat->List Nat->List Nat->List Nat:=reach hp 0
def aq(live:List Nat)(tm:Env)(hp:Hp)(ct:Nat):bH live ⟨tm,hp,ct,0⟩=YN (bF tm live) hp (jR hp 100000 (dw (bF tm live)) []):=by
 have e:∀seen,iZ 0 seen=pos seen:=fun seen=>by
  funext id
  have:yP id 0=ydC:=rfl
  simp only[iZ,this,yS,pos]
 simp only[bH,ael,wZ,e,agj,YN,jR,yd]
def apR:dw []=[]:=rfl
def acB(i:Nat)(v:AV)(r:Env):dw ((i,v)::r)=refs v++dw r:=rfl
def arR(k:xg)(n:Int):refs (.int k n)=[]:=rfl
def apS(b:Bool):refs (.bool b)=[]:=rfl
def arS(s:List Nat):refs (.str s)=[]:=rfl
def apT:refs .aj=[]:=rfl
def arT(e:Bool)(n:Nat)(cs:List AV):refs (.au e n cs)=[]:=rfl
def apU(cs:List AV):refs (.bC cs)=[]:=rfl
def aoz:refs .undef=[]:=rfl
def arU(id o:Nat):refs (.ptr id o)=[id]:=rfl
def arV(id o n:Nat):refs (.ay id o n)=[id]:=rfl
def aur(g:Nat)(a b:List AV):refs (.fn (.f g) a b)=fY a++fY b:=rfl
def axS(l:Nat)(a b:List AV):refs (.fn (.y l) a b)=[l]:=rfl
def arW(cs:List AV):refs (.agg cs)=fY cs:=rfl
def apV:fY []=[]:=rfl
def aoA(v:AV)(r:List AV):fY (v::r)=refs v++fY r:=rfl
def Sn(hp:Hp)(n id:Nat)(dh seen:List Nat)(q:Option Obj):List Nat:=match q with | some o=>jR hp n (dz o++dh) (seen++[id]) | none=>jR hp n dh seen
def So(hp:Hp)(n id:Nat)(dh seen:List Nat)(b:Bool):List Nat:=bif b then jR hp n dh seen else Sn hp n id dh seen (ah hp id)
def afE(hp:Hp)(n:Nat)(seen:List Nat):jR hp (n+1) [] seen=seen:=rfl
def kX(hp:Hp)(n id:Nat)(dh seen:List Nat):jR hp (n+1) (id::dh) seen=So hp n id dh seen (jt id seen):=by
 have:yP id 0=ydC:=rfl
 simp only[jR,reach,this,vI,So,Sn]
 cases jt id seen with
 | true=>rfl
 | false=>simp only[yS];cases ah hp id<;>rfl
def agk(hp:Hp)(n id:Nat)(dh seen:List Nat):So hp n id dh seen ydB=jR hp n dh seen:=rfl
def lF(hp:Hp)(n id:Nat)(dh seen:List Nat):So hp n id dh seen ydC=Sn hp n id dh seen (ah hp id):=rfl
def lG(hp:Hp)(n id:Nat)(dh seen:List Nat)(o:Obj):Sn hp n id dh seen (GR o)=jR hp n (dz o++dh) (seen++[id]):=rfl
def aem(i:Nat):jt i []=ydC:=rfl
def aen(i:Nat)(r:List Nat):jt i (i::r)=ydB:=by simp only[jt,wL,yx]
def adt{i j:Nat}(r:List Nat)(h:j≠i):jt i (j::r)=jt i r:=by simp only[jt,iB h,yS]
def afF(rw ex:Bool)(sz:Nat)(cs:List AV):dz (.cells rw ydB ex sz cs)=[]:=rfl
def P3(rw ex:Bool)(sz:Nat)(cs:List AV):dz (.cells rw ydC ex sz cs)=fY cs:=rfl
def arX(tm:Env)(ps:List Nat)(a b:VC)(st:Nat)(pe:A0):dz (.lp tm ps a b st pe)=dw tm:=rfl
def afG(i:Nat)(r:List Nat)(k:Nat):gV i (i::r) k=GR k:=by simp only[gV,wL,yx]
def aeo{i j:Nat}(r:List Nat)(k:Nat)(h:j≠i):gV i (j::r) k=gV i r (k+1):=by simp only[gV,iB h,yS]
def pos_eq(seen:List Nat)(i:Nat):pos seen i=gV i seen 0:=rfl
def QZ(o:Nat)(q:Option Nat):AV:=match q with | some j=>.ptr j o | none=>.undef
def Q0(o n:Nat)(q:Option Nat):AV:=match q with | some j=>.ay j o n | none=>.undef
def arY(s:List Nat):gj (pos s) []=[]:=rfl
def apW(s:List Nat)(i:Nat)(v:AV)(r:Env):gj (pos s) ((i,v)::r)=(i,bn (pos s) v)::gj (pos s) r:=rfl
def aus(s:List Nat)(k:xg)(n:Int):bn (pos s) (.int k n)=.int k n:=rfl
def arZ(s:List Nat)(b:Bool):bn (pos s) (.bool b)=.bool b:=rfl
def aut(s:List Nat)(t:List Nat):bn (pos s) (.str t)=.str t:=rfl
def ar0(s:List Nat):bn (pos s) .aj=.aj:=rfl
def auu(s:List Nat)(e:Bool)(n:Nat)(cs:List AV):bn (pos s) (.au e n cs)=.au e n cs:=rfl
def ar1(s:List Nat)(cs:List AV):bn (pos s) (.bC cs)=.bC cs:=rfl
def apX(s:List Nat):bn (pos s) .undef=.undef:=rfl
def auv(s:List Nat)(id o:Nat):bn (pos s) (.ptr id o)=QZ o (gV id s 0):=rfl
def auw(s:List Nat)(id o n:Nat):bn (pos s) (.ay id o n)=Q0 o n (gV id s 0):=rfl
def axT(s:List Nat)(g:Nat)(a b:List AV):bn (pos s) (.fn (.f g) a b)=.fn (.f g) (dA (pos s) a) (dA (pos s) b):=rfl
def auy(s:List Nat)(cs:List AV):bn (pos s) (.agg cs)=.agg (dA (pos s) cs):=rfl
def ar2(s:List Nat):dA (pos s) []=[]:=rfl
def apY(s:List Nat)(v:AV)(r:List AV):dA (pos s) (v::r)=bn (pos s) v::dA (pos s) r:=rfl
def auz(o j:Nat):QZ o (GR j)=.ptr j o:=rfl
def auA(o n j:Nat):Q0 o n (GR j)=.ay j o n:=rfl
def YO(hp:Hp)(f:Nat->Option Nat)(r:List Nat)(k:Nat)(acc:Hp)(q:Option Obj):Hp:=match q with | some o=>ep hp f r (k+1) ((k,dY f o)::acc) | none=>ep hp f r (k+1) acc
def apZ(hp:Hp)(s:List Nat)(k:Nat)(acc:Hp):ep hp (pos s) [] k acc=acc:=rfl
def aoB(hp:Hp)(s:List Nat)(id:Nat)(r:List Nat)(k:Nat)(acc:Hp):ep hp (pos s) (id::r) k acc=YO hp (pos s) r k acc (ah hp id):=by
 simp only[ep,YO];cases ah hp id<;>rfl
def axU(hp:Hp)(s r:List Nat)(k:Nat)(acc:Hp)(o:Obj):YO hp (pos s) r k acc (GR o)=ep hp (pos s) r (k+1) ((k,dY (pos s) o)::acc):=rfl
def W0(f:Nat->Option Nat)(rw ex:Bool)(sz:Nat)(cs:List AV):dY f (.cells rw ydB ex sz cs)=.cells rw ydB ex sz cs:=rfl
def LH(f:Nat->Option Nat)(rw ex:Bool)(sz:Nat)(cs:List AV):dY f (.cells rw ydC ex sz cs)=.cells rw ydC ex sz (dA f cs):=rfl
def auB(f:Nat->Option Nat)(tm:Env)(ps:List Nat)(a b:VC)(st:Nat)(pe:A0):dY f (.lp tm ps a b st pe)=.lp (gj f tm) ps a b st pe:=rfl
def Wn(tm:Env)(hp:Hp)(seen:List Nat):YN tm hp seen=⟨gj (pos seen) tm,ep hp (pos seen) seen 0 [],seen.length,0⟩:=rfl
attribute [go_sem] apR acB arR apS arS apT arT apU aoz arU arV aur axS arW apV aoA afE kX agk lF lG
 aem aen adt afF P3 arX afG aeo arY apW aus arZ aut ar0 auu ar1 apX auv auw axT auy ar2 apY auz auA
 apZ aoB axU W0 LH auB Wn yH yR
def G7{α:Type}{p:α->Bool}{l:List α}{i:Nat}(h:i<l.length):(l.drop i).any p=(p l[i]||(l.drop (i+1)).any p):=by
 rw[yX h,List.any_cons]
def Sp(f:Nat->Int):Nat->Int
 | 0=>0
 | n+1=>Sp f n+f n
def aP(k id o:Nat):B4 k (.ptr id o)=GR (.ptr id (o+k)):=rfl
def dt{α:Type}(a:α)(l:List α):vP 1 (a::l)=l:=rfl
def aAI{α:Type}(a b:α)(l:List α):vP 2 (a::b::l)=l:=rfl
def ahV{α:Type}(a b c:α)(l:List α):vP 3 (a::b::c::l)=l:=rfl
abbrev Nm(n:Int):AV:=.agg [aa n,.aj]
def AP(hp:Hp)(ct id:Nat)(a:Int)(x y:AV):iM hp ct id 0 2 [.int .i64 a,.aj] (GR (.cells ydB ydB ydB 2 [x,y]))=GR (.av [],aJ hp id (.cells ydB ydB ydB 2 [.int .i64 a,.aj]),ct):=rfl
def eQ(b:Bool):Il ydC (GR b)=GR (.bool b):=by cases b<;>rfl
def Fo(f:cp)(tm:Env)(hp:Hp)(ct:Nat)(x y:X):bc P L f tm hp ct (.mn [x,y])=rd hp ct (min2 (az tm x) (az tm y)):=by
 simp only[bc,rd,bm,dV,Dx]
 grind
def fB(f:cp)(tm:Env)(hp:Hp)(ct:Nat)(x y:X):bc P L f tm hp ct (.mx [x,y])=rd hp ct (max2 (az tm x) (az tm y)):=by
 simp only[bc,rd,bm,dV,Dx]
 grind
def EV(k k':xg)(x y:Int):min2 (.int k x) (.int k' y)=GR (.int k (if y<x then y else x)):=rfl
def fL(k k':xg)(x y:Int):max2 (.int k x) (.int k' y)=GR (.int k (if y>x then y else x)):=rfl
def b7(n:Int):Int:=if n<0 then -1 else if n=0 then 0 else 1
def axV(n:Int):(if (if n<1 then n else 1)> -1 then (if n<1 then n else 1) else -1)=b7 n:=by
 unfold b7
 grind
def n117(h:Has P L 117 RA)(n:Int):ab P L 117 [aa n] (Nm n):=by
 unfold ab;rw[aB h];simp only[go_sem,ya,yb,yh,RA,aT,yd,AP];rfl
def sK(hp:Hp)(p q:Bool):lm .b (.bool p) (.bool q)=GR (p==q):=rfl
def jY{n:Nat}{sp:List AV->Option AV}(h:L.pure n=GR sp){f:cp}(ax:List AV):bZ P L f n ax=sp ax:=by simp only[bZ,h]
abbrev U64(n:Int):AV:=.int .u64 n
def aAJ{n:Int}(h1:0<=n)(h2:n<18446744073709551616):IntKind.wrap .u64 n=n:=by
 simp only[IntKind.wrap,IntKind.signed,IntKind.bits]
 grind
def agl(n:Int):iC (.toInt .u64) (aa n)=GR (U64 (IntKind.wrap .u64 n)):=rfl
def Qs(n:Int):iC (.toInt .i64) (U64 n)=GR (aa (IntKind.wrap .i64 n)):=rfl
def LI(b:Bool):Il ydB (GR b)=GR (.bool (!b)):=by cases b<;>rfl
def cd(a b:AV)(r:List AV):gY 2 ydB (a::b::r)=GR (.agg [a,b]):=rfl
def eC(a b c d:AV)(r:List AV):gY 4 ydB (a::b::c::d::r)=GR (.agg [a,b,c,d]):=rfl
def ap0{a b:Int}(hb:0<b):(a.tmod b<0->a/b=a.tdiv b-1/\a%b=a.tmod b+b)/\(¬a.tmod b<0->a/b=a.tdiv b/\a%b=a.tmod b):=by
 have h1:=Int.mul_tdiv_add_tmod a b;have h2:a.tmod b<b:=Int.tmod_lt_of_pos a hb;have h3: -b<a.tmod b:=Int.lt_tmod_of_pos a hb;refine⟨fun h=>(yaz hb).2 ⟨?_,?_,?_⟩,fun h=>(yaz hb).2 ⟨?_,?_,?_⟩⟩
 .grind
 .lia
 .lia
 .lia
 .lia
 .lia
def ar3(a b:Nat)(hb:b≠0):vJ b (a%b)=vJ a b:=by
 rw[yak b,<-ydi,yak]
def dR(a b:Int):Int:=a/(vC a b:Nat)
def dX(a b:Int):Int:=b/(vC a b:Nat)
def P4{a b:Int}(hb:0<b):(0:Int)<(vC a b:Nat):=by
 have:=Int.gcd_pos_of_ne_zero_right a (show b≠0 by lia)
 lia
def axW(a b:Int):a=(vC a b:Nat)*dR a b:=(ybt (yaC a b)).symm
def axX(a b:Int):b=(vC a b:Nat)*dX a b:=(ybt (yat a b)).symm
def Kx{a b:Int}(hb:0<b):0<dX a b:=by
 have h1:=P4 (a:=a) hb;have h2:=axX a b;rcases Int.lt_trichotomy (dX a b) 0 with h | h | h
 .have:=Int.mul_neg_of_pos_of_neg h1 h;lia
 .grind
 .exact h
def aep(a b:Int):(dR a b).natAbs<=a.natAbs:=by
 unfold dR;rw[tx (yaC a b)];exact wU _ _
def aeq(a b:Int):(dX a b).natAbs<=b.natAbs:=by
 unfold dX;rw[tx (yat a b)];exact wU _ _
def sR(a b:Int):List Nat:=if dX a b=1 then bh (dR a b) else bh (dR a b)++[47]++bh (dX a b)
section
variable {s:List Nat}{n:Nat}
def ahW{b:Nat}(h:¬a<b):yP a b=ydC:=by
 cases hb:yP a b with
 | false=>rfl
 | true=>exact absurd (yA hb) (by lia)
def Wo:∀(f n:Nat) (acc:List Nat),n<f->pG f n acc=pG f n []++acc
 | 0,_,_,h=>by lia
 | f+1,n,acc,h=>by
  simp only[pG];by_cases h1:n<10
  .rw [show yP n 10=ydB from yy h1];rfl
  .rw [show yP n 10=ydC from ahW (by lia)];rw[Wo f (n/10) _ (by lia),Wo f (n/10) [48+n%10] (by lia)]
   simp
def Vo{f:Nat}(h:n<10):pG (f+1) n []=[48+n]:=by
 simp only[pG];rw[show yP n 10=ydB from yy h];rfl
def Wp{f:Nat}(h:¬n<10)(hf:n<=f):pG (f+1) n []=pG f (n/10) []++[48+n%10]:=by
 rw[<-Wo f (n/10) _ (by lia)];simp only[pG];rw[show yP n 10=ydC from ahW (by lia)];rfl
def ar4:∀(n f:Nat),n<f->pG f n []=aC n:=by
 intro n
 induction n using vY with
 | _ n ih=>
  intro f hf;obtain⟨g,rfl⟩:∃g,f=g+1:=⟨f-1,by lia⟩;by_cases h:n<10
  .rw [Vo h];unfold aC;rw[Vo h]
  .rw [Wp h (by lia),ih (n/10) (by lia) g (by lia)];unfold aC;rw[Wp h (yz n),ih (n/10) (by lia) n (by lia)];rfl
def qC(h:n<10):aC n=[48+n]:=Vo h
def rY(h:¬n<10):aC n=aC (n/10)++[48+n%10]:=by
 rw[show aC n=pG (n+1) n [] from rfl,Wp h (yz n),ar4 (n/10) n (by lia)]
def zI:∀{k n:Nat},n<10^(k+1)->(aC n).length<=k+1
 | 0,n,h=>by rw[qC (by simpa using h)];simp
 | k+1,n,h=>by
  by_cases h1:n<10
  .rw [qC h1];simp
  .rw [rY h1,yO]
   have:n/10<10^(k+1):=by
    grind
   have:=zI this
   grind
def O8(h:n<18446744073709551616):(aC n).length<=20:=zI (k:=19) (by lia)
def pC(n:Nat):bh (n:Int)=aC n:=rfl
def rZ{n:Int}(h:n<0):bh n=45::aC n.natAbs:=by
 cases n with
 | ofNat n=>exact absurd h (by simp)
 | negSucc n=>rfl
def cW:List Nat->Nat
 | []=>0
 | b::r=>if b=47 then 0 else cW r+1
def anW{i:Nat}(h:i<s.length):cW (s.drop i)=if s[i]=47 then 0 else cW (s.drop (i+1))+1:=by
 rw[yX h];rfl
def adu:∀s:List Nat,cW s<=s.length
 | []=>yz _
 | b::r=>by
  unfold cW
  have:=adu r
  grind
def fj:List Nat->Bool
 | []=>ydB
 | b::r=>yG 48 b&&yG b 57&&fj r
def OQ:∀(a b:List Nat),fj (a++b)=(fj a&&fj b)
 | [],b=>by simp[fj]
 | x::a,b=>by simp[fj,OQ a b,Bool.and_assoc]
def C8(n:Nat):fj (aC n)=ydB:=by
 induction n using vY with
 | _ n ih=>
  by_cases h:n<10
  .rw [qC h];simp[fj];lia
  .rw [rY h,OQ,ih (n/10) (by lia)];simp[fj];lia
def Ka:∀{s:List Nat} (r:List Nat),fj s=ydB->cW (s++r)=s.length+cW r
 | [],r,_=>by simp
 | b::s,r,h=>by
  simp only[fj,yf] at h;have h1:=yA h.1.1;simp only[yI,cW,yH];rw[yq (by lia),Ka r h.2]
  lia
def OR:∀(l:List Nat) (a d:Nat),d<10->cZ (l++[48+d]) a=(cZ l a).map (fun v=>10*v+d)
 | [],a,d,h=>by
  simp only[yN,cZ];rw[show yG 48 (48+d)=ydB from yy (by lia),show yG (48+d) 57=ydB from yy (by lia)]
  simp
 | b::l,a,d,h=>by
  simp only[yI,cZ]
  cases (yG 48 b&&yG b 57) with
  | true=>exact OR l _ d h
  | false=>rfl
def BM(n:Nat):cZ (aC n) 0=GR n:=by
 induction n using vY with
 | _ n ih=>
  by_cases h:n<10
  .rw [qC h]
   have:=OR [] 0 n h
   simpa[cZ] using this
  .rw [rY h,OR _ _ _ (by lia),ih (n/10) (by lia)]
   simp;lia
def ap1{i v:Nat}(h:i<s.length)(hv:cZ (s.drop i) a=GR v):48<=s[i]/\s[i]<=57/\cZ (s.drop (i+1)) (10*a+(s[i]-48))=GR v:=by
 rw[yX h] at hv;simp only[cZ] at hv
 cases hb:(yG 48 s[i]&&yG s[i] 57) with
 | false=>rw[hb] at hv;cases hv
 | true=>
  simp_all
def kC:Nat->Nat->List Nat
 | 0,_=>[]
 | k+1,n=>kC k (n/10)++[48+n%10]
def VT:∀k n,(kC k n).length=k
 | 0,_=>rfl
 | k+1,n=>by simp[kC,VT k]
def PF:∀(k m r:Nat),0<m->r<10^k->aC (m*10^k+r)=aC m++kC k r
 | 0,m,r,_,h=>by simp at h;subst h;simp[kC]
 | k+1,m,r,hm,h=>by
  have h1:m*10^(k+1)+r=(m*10^k)*10+r:=by grind
  have hp:0<m*10^k:=vd hm (ycm (by decide));have e1:(m*10^(k+1)+r)/10=m*10^k+r/10:=by lia
  have e2:(m*10^(k+1)+r)%10=r%10:=by lia
  rw[rY (by lia),e1,e2,PF k m (r/10) hm (by rw[xh] at h;lia)]
  simp[kC]
def aer:∀(k r a:Nat),r<10^k->cZ (kC k r) a=GR (a*10^k+r)
 | 0,r,a,h=>by simp at h;subst h;simp[kC,cZ]
 | k+1,r,a,h=>by
  rw[kC,OR _ _ _ (xq _ (by decide)),aer k (r/10) a (by lia)];simp only[wS,yc,xh]
  grind
def ar5{m:Nat}(h:1000000000<=m):aC m=aC (m/1000000000)++kC 9 (m%1000000000):=by
 have:=PF 9 (m/1000000000) (m%1000000000) (by lia) (by lia)
 grind
end
def lS(s:List Nat)(l h:Option Nat):Option AV:=
 match l,h with
 | some l,GR h=>bif yG l h&&yG h s.length then GR (.str ((s.take h).drop l)) else GS
 | _,_=>GS
def mR(hp:Hp)(s:List Nat)(tm:Env)(lo hi:Option X):gg hp .str (.str s) tm lo hi=lS s (dn tm 0 lo) (dn tm s.length hi):=by
 unfold lS;simp only[gg]
 grind
def oc(tm:Env)(d:Nat):dn tm d GS=GR d:=rfl
def jN(tm:Env)(d:Nat)(x:X):dn tm d (GR x)=bY (az tm x):=rfl
def pH{s:List Nat}{l h:Nat}(h1:l<=h)(h2:h<=s.length):lS s (GR l) (GR h)=GR (.str ((s.take h).drop l)):=by
 simp[lS,yy h1,yy h2]
def iV{a b:List Nat}(h:a.length+b.length<=9223372036854775807):binOp .add (.str a) (.str b)=GR (.str (a++b)):=by
 show LR .add a b=_
 simp only[LR,yy h,yx]
def auC(k:xg)(n:Int):iC (.toInt .i64) (.int k n)=GR (aa (IntKind.wrap .i64 n)):=rfl
def Hd(a b:List Nat):binOp .eql (.str a) (.str b)=GR (.bool (dZ a b)):=rfl
def Dj{s:List Nat}{i:Nat}(h:i<s.length):AR i (.str s)=GR (.int .u8 (s[i]:Nat)):=by
 simp only[AR,xn h]
def acC{r:Nat}(h:r<10):lS [48,49,50,51,52,53,54,55,56,57] (GR r) (GR (r+1))=GR (.str [48+r]):=by
 have:r=0\/r=1\/r=2\/r=3\/r=4\/r=5\/r=6\/r=7\/r=8\/r=9:=by lia
 rcases this with rfl | rfl | rfl | rfl | rfl | rfl | rfl | rfl | rfl | rfl<;>rfl
def YP(h:Has P L 292 Cj){n:Nat}(hn:n<9223372036854775808):ab P L 292 [aa n,aa 1] (.str (aC n)):=by
 have key:=iX P L [0,1,5] qM
  (fun k st=>∃(m:Nat) (s:List Nat),st=⟨[(0,aa m),(1,aa 1),(5,.str s)],[],0,0⟩/\m<=n/\m+(1-s.length)=k/\s.length<=20/\((s=[]/\m=n)\/(0<s.length/\(m=0->s=aC n)/\(0<m->aC n=aC m++s))))
  (fun ex st=>∃tm ct,st=⟨tm,[],ct,0⟩/\ex=.exit 0/\ak tm 5=.str (aC n)) ?_
 .unfold ab;rw[aB h];simp only[go_sem,Cj];generalize hq:D P L (.loop _ qM) _=q;obtain⟨ex,st,rfl,tm,ct,rfl,rfl,h2⟩:=bt hq (key (n+1)) ⟨n,[],by simp only[go_sem,ya,aq]<;>rfl,by lia,rfl,by simp,.inl ⟨rfl,rfl⟩⟩
  simp only[go_sem,aq,h2]
 .rintro k st ⟨m,s,rfl,hm,hk,hl,hs⟩;by_cases Bu:0<m\/s.length<1
  .left
   have hc:((decide ((0:Int)<m))=ydB)\/((decide ((0:Int)<m))=ydC/\((s.length:Nat):Int)<1):=by
    by_cases h0:0<m
    .exact .inl (yZ (by lia))
    .exact .inr ⟨yJ (by lia),by lia⟩
   have hr:((m:Int)).tmod 10=((m%10:Nat):Int):=by rw[xK (by lia)];rfl
   have hq:((m:Int)).tdiv 10=((m/10:Nat):Int):=by rw[xQ (by lia)];rfl
   have hd:=acC (r:=m%10) (by lia);have fin:∃s' k',D P L qM ⟨[(0,aa m),(1,aa 1),(5,.str s)],[],0,0⟩=GR (.normal,s')/\k'<k/\bH [0,1,5] s'=⟨[(0,aa (m/10:Nat)),(1,aa 1),(5,.str ([48+m%10]++s))],[],0,0⟩/\m/10+(1-([48+m%10]++s).length)=k':=by
    rcases hc with hc | ⟨hc,Eb⟩
    .have hc:(0:Int)<m:=of_decide_eq_true hc
     simp only[go_sem,ya,yb,qM,hc,fM _ _ _ (show (10:Int)≠0 by decide),eP _ _ _ (show (10:Int)≠0 by decide),hr,hq,wrapN (n:=m%10+1) (by lia),wrap64 (n:=((m/10:Nat):Int)) (by lia) (by lia),mR,jN,show ((m%10:Nat):Int)+1=((m%10+1:Nat):Int) from rfl,hd,iV (a:=[48+m%10]) (b:=s) (by simp;lia)]
     refine⟨_,_,rfl,?_,by simp only[go_sem,ya,aq],rfl⟩
     simp;lia
    .have hc:¬(0:Int)<m:=of_decide_eq_false hc
     simp only[go_sem,ya,yb,qM,hc,Eb,fM _ _ _ (show (10:Int)≠0 by decide),eP _ _ _ (show (10:Int)≠0 by decide),hr,hq,wrapN (n:=m%10+1) (by lia),wrap64 (n:=((m/10:Nat):Int)) (by lia) (by lia),mR,jN,show ((m%10:Nat):Int)+1=((m%10+1:Nat):Int) from rfl,hd,iV (a:=[48+m%10]) (b:=s) (by simp;lia)]
     refine⟨_,_,rfl,?_,by simp only[go_sem,ya,aq],rfl⟩
     simp;lia
   have⟨s',k',f1,f2,f3,f4⟩:=fin;refine⟨s',k',f1,f2,m/10,[48+m%10]++s,f3,by lia,f4,?_,.inr ⟨by simp,fun h0=>?_,fun h0=>?_⟩⟩
   .have aIX:=O8 (n:=n) (by lia);rcases hs with ⟨rfl,rfl⟩ | ⟨h1,h2,h3⟩
    .simp
    .by_cases h0:0<m
     .have e:=congrArg uy (h3 h0);have e2:0<(aC m).length:=by
       by_cases h9:m<10
       .rw [qC h9];simp
       .rw [rY h9];simp
      simp only[yO] at e
      simp;lia
     .lia
   .have h9:m<10:=by lia
    rcases hs with ⟨rfl,rfl⟩ | ⟨h1,h2,h3⟩
    .rw [qC h9,yQ h9];rfl
    .have:0<m:=by lia
     rw[h3 this,qC h9,yQ h9]
   .have h9:¬m<10:=by lia
    rcases hs with ⟨rfl,rfl⟩ | ⟨h1,h2,h3⟩
    .rw [rY h9];simp
    .rw [h3 (by lia),rY h9];simp
  .right
   simp only[go_sem,ya,qM,show ¬(0:Int)<m by lia,show ¬((s.length:Nat):Int)<1 by lia];refine⟨_,_,rfl,by simp,_,_,rfl,rfl,?_⟩;simp only[go_sem,ya];rcases hs with ⟨rfl,rfl⟩ | ⟨h1,h2,h3⟩
   .simp at Bu
   .rw [h2 (by lia)]
def aCi(h:Has P L 291 Mz){b:Nat}(ha:a<9223372036854775808)(hb:b<9223372036854775808):ab P L 291 [aa a,aa b] (aa (vJ a b)):=by
 have key:=iX P L [0,1] Lm
  (fun k st=>∃x y:Nat,st=⟨[(0,aa x),(1,aa y)],[],0,0⟩/\y=k/\vJ x y=vJ a b)
  (fun ex st=>∃tm ct,st=⟨tm,[],ct,0⟩/\ex=.exit 0/\ak tm 0=aa (vJ a b)) ?_
 .unfold ab;rw[aB h];simp only[go_sem,Mz];generalize hq:D P L (.loop _ Lm) _=q;obtain⟨ex,st,rfl,tm,ct,rfl,rfl,h2⟩:=bt hq (key b) ⟨a,b,by simp only[go_sem,ya,aq]<;>rfl,rfl,rfl⟩
  simp only[go_sem,aq,h2]
 .rintro k st ⟨x,y,rfl,rfl,hg⟩;by_cases hy:y=0
  .right
   subst hy;simp only[go_sem,ya,Lm,show ¬(0:Int)<((0:Nat):Int) by lia];refine⟨_,_,rfl,by simp,_,_,rfl,rfl,?_⟩;simp only[go_sem,ya];rw[<-hg,Nat.gcd_zero_right]
  .left
   have hr:((x:Int)).tmod y=((x%y:Nat):Int):=by rw[xK (by lia)];rfl
   simp only[go_sem,ya,Lm,show (0:Int)<y by lia,fM _ _ _ (show (y:Int)≠0 by lia),hr];refine⟨_,x%y,rfl,xq _ (by lia),y,x%y,by simp only[go_sem,ya,aq],rfl,?_⟩;rw[<-hg,yak y,<-ydi,yak]
def Sq(h:Has P L 272 Mx){s:List Nat}(hl:s.length<9223372036854775808):ab P L 272 [.str s] (aa (cW s)):=by
 have key:=iX P L [0,3] Hr
  (fun k st=>∃i:Nat,st=⟨[(0,.str s),(3,aa i)],[],0,0⟩/\i+k=s.length/\i+cW (s.drop i)=cW s)
  (fun ex st=>∃tm ct,st=⟨tm,[],ct,0⟩/\((ex=.ret/\ak tm 2=aa (cW s))\/(ex=.exit 0/\ak tm 0=.str s/\cW s=s.length))) ?_
 .unfold ab;rw[aB h];simp only[go_sem,Mx];generalize hq:D P L (.loop _ Hr) _=q;obtain⟨ex,st,rfl,tm,ct,rfl,h2⟩:=bt hq (key s.length) ⟨0,by simp only[go_sem,ya,aq]<;>rfl,by lia,by simp⟩
  rcases h2 with ⟨rfl,h2⟩ | ⟨rfl,h2,h3⟩
  .simp only [go_sem,h2]
  .simp only [go_sem,aq,h2,h3]
 .rintro k st ⟨i,rfl,hk,hs⟩;by_cases hi:i<s.length
  .rw [anW hi] at hs;by_cases h7:s[i]=47
   .right
    rw[yC h7] at hs;simp only[go_sem,ya,Hr,show (i:Int)<s.length by lia,Dj hi,show ((s[i]:Nat):Int)=47 by lia];refine⟨_,_,rfl,by simp,_,_,rfl,.inl ⟨rfl,?_⟩⟩;simp only[go_sem];rw[<-hs];rfl
   .left
    rw[yq h7] at hs;simp only[go_sem,ya,Hr,show (i:Int)<s.length by lia,Dj hi,show ¬((s[i]:Nat):Int)=47 by lia];refine⟨_,k-1,rfl,by lia,i+1,?_,by lia,by lia⟩;rw[wrap64 (by lia) (by lia)];simp only[go_sem,ya,aq]<;>rfl
  .right
   simp only[go_sem,ya,Hr,show ¬(i:Int)<s.length by lia];refine⟨_,_,rfl,by simp,_,_,rfl,.inr ⟨rfl,rfl,?_⟩⟩;rw[y9 (by lia)] at hs;simp only[cW] at hs
   lia
def MS(h:Has P L 290 Ie){s:List Nat}{v:Nat}(hl:s.length<=18)(hv:cZ s 0=GR v):ab P L 290 [.str s] (aa v):=by
 have key:=iX P L [0,3,4] Ll
  (fun k st=>∃i a:Nat,st=⟨[(0,.str s),(3,aa a),(4,aa i)],[],0,0⟩/\i+k=s.length/\a<10^i/\cZ (s.drop i) a=GR v)
  (fun ex st=>∃tm ct,st=⟨tm,[],ct,0⟩/\ex=.exit 0/\ak tm 3=aa v) ?_
 .unfold ab;rw[aB h];simp only[go_sem,Ie];generalize hq:D P L (.loop _ Ll) _=q;obtain⟨ex,st,rfl,tm,ct,rfl,rfl,h2⟩:=bt hq (key s.length) ⟨0,0,by simp only[go_sem,ya,aq]<;>rfl,by lia,by simp,hv⟩
  simp only[go_sem,aq,h2]
 .rintro k st ⟨i,a,rfl,hk,ha,hs⟩;by_cases hi:i<s.length
  .left
   have⟨h1,h2,h3⟩:=ap1 hi hs;have hp:10^i<=10^17:=xc (by decide) (by lia);have hb:IntKind.wrap .i64 ((s[i]:Nat):Int)=((s[i]:Nat):Int):=wrap64 (by lia) (by lia)
   simp only[go_sem,ya,Ll,show (i:Int)<s.length by lia,Dj hi,auC,hb,wrap64 (n:=10*(a:Int)) (by lia) (by lia),wrap64 (n:=10*(a:Int)+(s[i]:Nat)) (by lia) (by lia),wrap64 (n:=10*(a:Int)+(s[i]:Nat)-48) (by lia) (by lia)];refine⟨_,k-1,rfl,by lia,i+1,10*a+(s[i]-48),?_,by lia,?_,h3⟩
   .rw [wrap64 (by lia) (by lia),show 10*(a:Int)+(s[i]:Nat)-48=((10*a+(s[i]-48):Nat):Int) by lia];simp only[go_sem,ya,aq]<;>rfl
   .rw [xh];lia
  .right
   simp only[go_sem,ya,Ll,show ¬(i:Int)<s.length by lia];refine⟨_,_,rfl,by simp,_,_,rfl,rfl,?_⟩;rw[y9 (by lia)] at hs;simp only[cZ,yc] at hs;subst hs;simp only[go_sem,ya]
def P5(a:Int):(if 0-a>a then 0-a else a)=(a.natAbs:Int):=by lia
def PG(a b:Int):a.tdiv (vC a b:Nat)=dR a b:=ybe (yaC a b)
def PH(a b:Int):b.tdiv (vC a b:Nat)=dX a b:=ybe (yat a b)
def qF(n:Int):(if n<0 then [45] else [])++aC n.natAbs=bh n:=by
 split
 .rename_i h;rw[rZ h];rfl
 .rename_i h;obtain⟨m,rfl⟩:∃m:Nat,n=m:=⟨n.toNat,by lia⟩;rfl
def ar6{n:Int}(h:n.natAbs<18446744073709551616):(bh n).length<=21:=by
 rw[<-qF]
 have:=O8 h
 grind
def auD{a b:Int}(hb:0<b):sR a b=(if 1<dX a b then (bh (dR a b)++[47])++aC (dX a b).natAbs else bh (dR a b)):=by
 have h:=Kx (a:=a) hb;unfold sR;by_cases h1:dX a b=1
 .grind
 .rw [yq h1,yC (by lia)];obtain⟨m,hm⟩:∃m:Nat,dX a b=m:=⟨(dX a b).toNat,by lia⟩;rw[hm];rfl
def aCj(h:Has P L 277 FU)(YQ:Has P L 291 Mz)(q9:Has P L 292 Cj){a b:Int}(ha: -4000000000000000000<=a/\a<=4000000000000000000)(hb:0<b/\b<=4000000000000000000):
  ab P L 277 [aa a,aa b] (.str (sR a b)):=by
 have hn:=aep a b;have hd:=aeq a b;have hp:=Kx (a:=a) hb.1;have e1:=aCi YQ (a:=a.natAbs) (b:=b.natAbs) (by lia) (by lia);have e2:=YP q9 (n:=(dR a b).natAbs) (by lia);have e3:=YP q9 (n:=(dX a b).natAbs) (by lia);have hg:=P4 (a:=a) hb.1;rw[show ((b.natAbs:Nat):Int)=b by lia,show vJ a.natAbs b.natAbs=vC a b from rfl] at e1;rw[show (((dX a b).natAbs:Nat):Int)=dX a b by lia] at e3;have rE:=ar6 (n:=dR a b) (by lia);have rF:=O8 (n:=(dR a b).natAbs) (by lia);have hl3:=O8 (n:=(dX a b).natAbs) (by lia);have hT:=auD (a:=a) hb.1;have hS:=qF (dR a b);unfold ab at e1 e2 e3 ⊢;rw[aB h];by_cases h0:dR a b<0
 .rw [yC h0] at hS;by_cases h1:1<dX a b
  .rw [yC h1] at hT
   simp only[go_sem,ya,FU,show ¬a< -4000000000000000000 by lia,show ¬4000000000000000000<a by lia,show ¬b< -4000000000000000000 by lia,show ¬4000000000000000000<b by lia,show ¬b<0 by lia,wrap64 (n:=0-a) (by lia) (by lia),fB,fL,P5,e1,eP _ _ _ (show ((vC a b:Nat):Int)≠0 by lia),PG,PH,wrap64 (n:=dR a b) (by lia) (by lia),wrap64 (n:=dX a b) (by lia) (by lia),h0,wrap64 (n:=0-dR a b) (by lia) (by lia),e2,iV (a:=[45]) (b:=aC (dR a b).natAbs) (by simp;lia),hS,h1,iV (a:=bh (dR a b)) (b:=[47]) (by simp;lia),e3,iV (a:=bh (dR a b)++[47]) (b:=aC (dX a b).natAbs) (by simp;lia),hT]
  .rw [yq h1] at hT
   simp only[go_sem,ya,FU,show ¬a< -4000000000000000000 by lia,show ¬4000000000000000000<a by lia,show ¬b< -4000000000000000000 by lia,show ¬4000000000000000000<b by lia,show ¬b<0 by lia,wrap64 (n:=0-a) (by lia) (by lia),fB,fL,P5,e1,eP _ _ _ (show ((vC a b:Nat):Int)≠0 by lia),PG,PH,wrap64 (n:=dR a b) (by lia) (by lia),wrap64 (n:=dX a b) (by lia) (by lia),h0,wrap64 (n:=0-dR a b) (by lia) (by lia),e2,iV (a:=[45]) (b:=aC (dR a b).natAbs) (by simp;lia),hS,h1,hT]
 .rw [yq h0] at hS;by_cases h1:1<dX a b
  .rw [yC h1] at hT
   simp only[go_sem,ya,FU,show ¬a< -4000000000000000000 by lia,show ¬4000000000000000000<a by lia,show ¬b< -4000000000000000000 by lia,show ¬4000000000000000000<b by lia,show ¬b<0 by lia,wrap64 (n:=0-a) (by lia) (by lia),fB,fL,P5,e1,eP _ _ _ (show ((vC a b:Nat):Int)≠0 by lia),PG,PH,wrap64 (n:=dR a b) (by lia) (by lia),wrap64 (n:=dX a b) (by lia) (by lia),h0,wrap64 (n:=0-dR a b) (by lia) (by lia),e2,iV (a:=[]) (b:=aC (dR a b).natAbs) (by simp;lia),hS,h1,iV (a:=bh (dR a b)) (b:=[47]) (by simp;lia),e3,iV (a:=bh (dR a b)++[47]) (b:=aC (dX a b).natAbs) (by simp;lia),hT]
  .rw [yq h1] at hT
   simp only[go_sem,ya,FU,show ¬a< -4000000000000000000 by lia,show ¬4000000000000000000<a by lia,show ¬b< -4000000000000000000 by lia,show ¬4000000000000000000<b by lia,show ¬b<0 by lia,wrap64 (n:=0-a) (by lia) (by lia),fB,fL,P5,e1,eP _ _ _ (show ((vC a b:Nat):Int)≠0 by lia),PG,PH,wrap64 (n:=dR a b) (by lia) (by lia),wrap64 (n:=dX a b) (by lia) (by lia),h0,wrap64 (n:=0-dR a b) (by lia) (by lia),e2,iV (a:=[]) (b:=aC (dR a b).natAbs) (by simp;lia),hS,h1,hT]
def TT(n:Int)(d:Nat):List Nat:=bh n++(if d=1 then [] else 47::aC d)
def auE{a b:Int}(hb:0<b):sR a b=TT (dR a b) (dX a b).toNat:=by
 have h:=Kx (a:=a) hb;unfold sR TT;by_cases h1:dX a b=1
 .grind
 .rw [yq h1,yq (by lia)];obtain⟨m,hm⟩:∃m:Nat,dX a b=m:=⟨(dX a b).toNat,by lia⟩;rw[hm,xt];rfl
def BP(n:Nat):0<(aC n).length:=by
 by_cases h:n<10
 .rw [qC h];simp
 .rw [rY h];simp
def afH:∀(n:Nat),n<10^(aC n).length:=by
 intro n
 induction n using vY with
 | _ n ih=>
  by_cases h:n<10
  .rw [qC h];simpa using h
  .have:=ih (n/10) (by lia)
   rw[rY h,yO,vZ,xh]
   lia
def aes{n:Nat}(h:(aC n).length<=9):n<1000000000:=
 yF (afH n) (by simpa using xc (show 0<10 by decide) h)
def G2(n:Nat):∃b r,aC n=b::r/\48<=b/\b<=57:=by
 cases hq:aC n with
 | nil=>have:=BP n;rw[hq] at this;simp at this
 | cons b r=>
  have:=C8 n
  rw[hq] at this;simp only[fj,yf] at this
  simp_all
def Im(s:List Nat):AR 0 (.str (45::s))=GR (.int .u8 45):=rfl
def W1(q:Bool)(n:Int)(d:Nat):AV:=if q=ydB then .av [aa n,aa d,.bool ydB] else .av [aa 0,aa 0,.bool ydC]
def lj(d:Nat):List Nat:=if d=1 then [] else 47::aC d
def acD(d:Nat):cW (lj d)=0:=by unfold lj;split<;>rfl
def aCk(h:Has P L 276 sQ)(Io:Has P L 272 Mx)(Co:Has P L 290 Ie){n:Int}(hl:(TT n d).length<=20000000000):
  ∃q:Bool,ab P L 276 [.str (TT n d)] (W1 q n d)/\(q=ydB->n.natAbs<1000000000/\d<1000000000):=by
 generalize hs:TT n d=s at hl;by_cases qj:20<s.length
 .refine ⟨ydC,?_,fun h=>by cases h⟩;unfold ab;rw[aB h];simp only[go_sem,ya,sQ,show (20:Int)<s.length by lia];rfl
 .have hu:∃u,u=aC n.natAbs++lj d:=⟨_,rfl⟩;have⟨u,hu⟩:=hu;have hK:∃K,K=(aC n.natAbs).length:=⟨_,rfl⟩;have⟨K,hK⟩:=hK;have IJ:cW u=K:=by rw[hu,Ka _ (C8 _),acD,hK];rfl
  have hlen:u.length=K+(lj d).length:=by rw[hu,hK,yO]
  have hp:=BP n.natAbs;have⟨b,r,hb,jh,ns⟩:=G2 n.natAbs;have Gv:(n<0/\s=45::u)\/(¬n<0/\s=u):=by
   by_cases h0:n<0
   .left;refine⟨h0,?_⟩;rw[<-hs,hu,TT,rZ h0];rfl
   .right;refine⟨h0,?_⟩;rw[<-hs,hu,TT,<-qF,yq h0];rfl
  have hul:u.length<=s.length:=by rcases Gv with ⟨_,e⟩ | ⟨_,e⟩<;>rw[e]<;>simp
  have Bv:0<u.length:=by lia
  have Am:u[0]=b:=by
   have:u=b::(r++lj d):=by rw[hu,hb];rfl
   simp[this]
  have e1:=Sq Io (s:=u) (by lia);rw[IJ] at e1;have fk:lS u (GR 0) (GR K)=GR (.str (aC n.natAbs)):=by
   rw[pH (by lia) (by lia),ye,hu,hK,List.take_left]
  unfold ab at e1;by_cases h9:9<K
  .refine ⟨ydC,?_,fun h=>by cases h⟩;unfold ab;rw[aB h];rcases Gv with ⟨h0,e⟩ | ⟨h0,e⟩
   .have qj:¬20<u.length+1:=by rw[e] at qj;exact qj
    have ma:lS (45::u) (GR 1) (GR (u.length+1))=GR (.str u):=by rw[pH (s:=45::u) (l:=1) (h:=u.length+1) (by lia) (by simp)];simp
    rw[e];simp only[go_sem,ya,sQ,show ¬(20:Int)<((u.length+1:Nat):Int) by lia,show (0:Int)<((u.length+1:Nat):Int) by lia,Im,mR,oc,jN,ma,e1,show (9:Int)<(K:Int) by lia];rfl
   .rw [e];simp only[go_sem,ya,sQ,show ¬(20:Int)<(u.length:Nat) by lia,show (0:Int)<(u.length:Nat) by lia,Dj Bv,Am,show ¬((b:Nat):Int)=45 by lia,e1,show (9:Int)<(K:Int) by lia];rfl
  .by_cases jF:10<(lj d).length
   .refine ⟨ydC,?_,fun h=>by cases h⟩;unfold ab;rw[aB h];rcases Gv with ⟨h0,e⟩ | ⟨h0,e⟩
    .have qj:¬20<u.length+1:=by rw[e] at qj;exact qj
     have ma:lS (45::u) (GR 1) (GR (u.length+1))=GR (.str u):=by rw[pH (s:=45::u) (l:=1) (h:=u.length+1) (by lia) (by simp)];simp
     rw[e]
     simp only[go_sem,ya,sQ,show ¬(20:Int)<((u.length+1:Nat):Int) by lia,show (0:Int)<((u.length+1:Nat):Int) by lia,Im,mR,oc,jN,ma,e1,show ¬(9:Int)<(K:Int) by lia,wrap64 (n:=(u.length:Int)-(K:Int)) (by lia) (by lia),show (10:Int)<(u.length:Int)-(K:Int) by lia];rfl
    .rw [e]
     simp only[go_sem,ya,sQ,show ¬(20:Int)<(u.length:Nat) by lia,show (0:Int)<(u.length:Nat) by lia,Dj Bv,Am,show ¬((b:Nat):Int)=45 by lia,e1,show ¬(9:Int)<(K:Int) by lia,wrap64 (n:=(u.length:Int)-(K:Int)) (by lia) (by lia),show (10:Int)<(u.length:Int)-(K:Int) by lia];rfl
   .have e2:=MS Co (s:=aC n.natAbs) (by lia) (BM n.natAbs);unfold ab at e2;have hm:=aes (n:=n.natAbs) (by lia);by_cases hd:d=1
    .subst hd;have lA:lj 1=[]:=rfl;refine⟨ydB,?_,fun _=>⟨hm,by decide⟩⟩;rw[lA] at hlen;simp only[yR,yY] at hlen;unfold ab;rw[aB h];rcases Gv with ⟨h0,e⟩ | ⟨h0,e⟩
     .have qj:¬20<u.length+1:=by rw[e] at qj;exact qj
      have ma:lS (45::u) (GR 1) (GR (u.length+1))=GR (.str u):=by rw[pH (s:=45::u) (l:=1) (h:=u.length+1) (by lia) (by simp)];simp
      rw[e]
      simp only[go_sem,ya,sQ,show ¬(20:Int)<((u.length+1:Nat):Int) by lia,show (0:Int)<((u.length+1:Nat):Int) by lia,Im,mR,oc,jN,ma,e1,show ¬(9:Int)<(K:Int) by lia,wrap64 (n:=(u.length:Int)-(K:Int)) (by lia) (by lia),show ¬(10:Int)<(u.length:Int)-(K:Int) by lia,fk,e2,show ¬(K:Int)<(u.length:Int) by lia,wrap64 (n:=0-(n.natAbs:Int)) (by lia) (by lia)];rw[show 0-(n.natAbs:Int)=n by lia];rfl
     .rw [e]
      simp only[go_sem,ya,sQ,show ¬(20:Int)<(u.length:Nat) by lia,show (0:Int)<(u.length:Nat) by lia,Dj Bv,Am,show ¬((b:Nat):Int)=45 by lia,mR,oc,jN,e1,show ¬(9:Int)<(K:Int) by lia,wrap64 (n:=(u.length:Int)-(K:Int)) (by lia) (by lia),show ¬(10:Int)<(u.length:Int)-(K:Int) by lia,fk,e2,show ¬(K:Int)<(u.length:Int) by lia];rw[show (n.natAbs:Int)=n by lia];rfl
    .have lA:lj d=47::aC d:=yq hd;have NW:(lj d).length=(aC d).length+1:=by rw[lA];rfl
     have hpd:=BP d;have hd9:=aes (n:=d) (by lia);have e3:=MS Co (s:=aC d) (by lia) (BM d);unfold ab at e3;have Eb:lS u (GR (K+1)) (GR u.length)=GR (.str (aC d)):=by
      rw[pH (by lia) (yz _),xR,hu,lA,hK,show (aC n.natAbs).length+1=(aC n.natAbs++[47]).length by simp,show aC n.natAbs++47::aC d=(aC n.natAbs++[47])++aC d by simp,List.drop_left]
     refine⟨ydB,?_,fun _=>⟨hm,hd9⟩⟩;unfold ab;rw[aB h];rcases Gv with ⟨h0,e⟩ | ⟨h0,e⟩
     .have qj:¬20<u.length+1:=by rw[e] at qj;exact qj
      have ma:lS (45::u) (GR 1) (GR (u.length+1))=GR (.str u):=by rw[pH (s:=45::u) (l:=1) (h:=u.length+1) (by lia) (by simp)];simp
      rw[e]
      simp only[go_sem,ya,sQ,show ¬(20:Int)<((u.length+1:Nat):Int) by lia,show (0:Int)<((u.length+1:Nat):Int) by lia,Im,mR,oc,jN,ma,e1,show ¬(9:Int)<(K:Int) by lia,wrap64 (n:=(u.length:Int)-(K:Int)) (by lia) (by lia),show ¬(10:Int)<(u.length:Int)-(K:Int) by lia,fk,e2,show (K:Int)<(u.length:Int) by lia,wrapN (n:=K+1) (by lia),show (K:Int)+1=((K+1:Nat):Int) from rfl,Eb,e3,wrap64 (n:=0-(n.natAbs:Int)) (by lia) (by lia)];rw[show 0-(n.natAbs:Int)=n by lia];rfl
     .rw [e]
      simp only[go_sem,ya,sQ,show ¬(20:Int)<(u.length:Nat) by lia,show (0:Int)<(u.length:Nat) by lia,Dj Bv,Am,show ¬((b:Nat):Int)=45 by lia,mR,oc,jN,e1,show ¬(9:Int)<(K:Int) by lia,wrap64 (n:=(u.length:Int)-(K:Int)) (by lia) (by lia),show ¬(10:Int)<(u.length:Int)-(K:Int) by lia,fk,e2,show (K:Int)<(u.length:Int) by lia,wrapN (n:=K+1) (by lia),show (K:Int)+1=((K+1:Nat):Int) from rfl,Eb,e3];rw[show (n.natAbs:Int)=n by lia];rfl
def YR(h:Has P L 302 A5){l:List Int}(hv:bB v l)(i:Nat):ab P L 302 [v,aa i] (aa (l.getD i 0)):=by
 unfold ab;rw[aB h];by_cases hi:i<l.length
 .simp only [go_sem,ya,A5,hv.len,show (i:Int)<l.length by lia,hv.bk hi];simp[yV,xn hi]
 .simp only [go_sem,ya,A5,hv.len,show ¬(i:Int)<l.length by lia];simp[yV,List.getElem?_eq_none (Nat.le_of_not_lt hi)]
def afI{e:Bool}{n:Nat}{cs:List AV}{h:Nat}{x:X}(hx:dn tm n (GR x)=GR h)(hh:h<=n):
  gg hp (.sl 1) (.au e n cs) tm GS (GR x)=GR (.au (e&&yu h n) h (cs.take h)):=by
 simp only[gg,hx,oc];simp[yy hh,slice];rw[show yG 0 h=ydB from yy (tL _)];rfl
def DN(h:Has P L 300 nL){l:List Int}(hv:bB v l)(hl:l.length<=20000000000):∃r,ab P L 300 [v] r/\bB r (eL l)/\shut r=r:=by
 rcases hv with ⟨rfl,h0⟩ | ⟨e,rfl⟩
 .have:l=[]:=by simpa using h0
  subst this;refine⟨.aj,?_,AG,rfl⟩;unfold ab;rw[aB h];simp only[go_sem,ya,nL,HJ,Fg,aq,show ¬(0:Int)<0 by decide]
 .have key:=iX P L [0] Fg
   (fun k st=>∃(i:Nat) (e:Bool),st=⟨[(0,.au e i ((l.take i).map aa))],[],0,0⟩/\i<=l.length/\i=k/\eL (l.take i)=eL l)
   (fun ex st=>∃tm ct,st=⟨tm,[],ct,0⟩/\ex=.exit 0/\∃i e,ak tm 0=.au e i ((l.take i).map aa)/\i<=l.length/\l.take i=eL l) ?_
  .have hlen:(l.map aa).length=l.length:=by simp
   rw[hlen];have kM:∃i e',ab P L 300 [.au e l.length (l.map aa)] (.au e' i ((l.take i).map aa))/\i<=l.length/\l.take i=eL l:=by
    unfold ab;rw[aB h];simp only[go_sem,nL];generalize hq:D P L (.loop _ Fg) _=q;obtain⟨ex,st,rfl,tm,ct,rfl,rfl,i,e',h2,h3,h4⟩:=bt hq (key l.length) ⟨l.length,e,by simp only[go_sem,ya,aq,xR],yz _,rfl,by rw[xR]⟩;simp only[go_sem,aq,h2];exact⟨i,e',rfl,h3,h4⟩
   have⟨i,e',g1,g2,g3⟩:=kM;refine⟨_,g1,?_,rfl⟩;rw[<-g3]
   have:=jn e' (l.take i)
   rwa[yU,xo g2] at this
  .rintro k st ⟨i,e,rfl,hi,rfl,ht⟩
   cases i with
   | zero=>
    right
    simp only[go_sem,ya,Fg,show ¬(0:Int)<((0:Nat):Int) by lia];exact⟨_,_,rfl,by simp,_,_,rfl,rfl,0,e,rfl,tL _,by simpa[eL] using ht⟩
   | succ i=>
    have NX:i<l.length:=by lia
    have eU:l.take (i+1)=l.take i++[l[i]]:=xm NX;have kS:vP i ((l.take (i+1)).map aa)=[AV.int .i64 l[i]]:=by
     rw[eU,xu,tO (by simp;lia)];rfl
    have gD:jq 1 i (.au e (i+1) ((l.take (i+1)).map aa))=GR (.bC [AV.int .i64 l[i]]):=by
     rw[P2 e _ (by lia),yg,kS]
    by_cases h0:l[i]=0
    .left
     have pU:∀tm x,dn tm (i+1) (GR x)=GR i->gg [] (.sl 1) (.au e (i+1) ((l.take (i+1)).map aa)) tm GS (GR x)=GR (.au (e&&yu i (i+1)) i ((l.take i).map aa)):=fun tm x hx=>by
      rw[afI hx (by lia),<-yaS,List.take_take,xo (by lia)]
     simp only[go_sem,ya,Fg,show (0:Int)<((i+1:Nat):Int) by lia,show ((i+1:Nat):Int)-1=(i:Int) by lia,wrapN (n:=i) (by lia),gD,h0,pU,jN];refine⟨_,i,rfl,by lia,i,_,by simp only[go_sem,aq]<;>rfl,by lia,rfl,?_⟩
     rw[<-ht,eU,h0,Kf]
    .right
     simp only[go_sem,ya,Fg,show (0:Int)<((i+1:Nat):Int) by lia,show ((i+1:Nat):Int)-1=(i:Int) by lia,wrapN (n:=i) (by lia),gD,h0];refine⟨_,_,rfl,by simp,_,_,rfl,rfl,i+1,e,rfl,by lia,?_⟩;rw[<-ht,eU,O6 h0]
section
variable {hp:Hp}{l:List Nat}{n x y:Nat}
def A6:(2^64)^(n+1)=(2^64)^n*2^64:=xh ..
open Go (IntKind)
abbrev uc(n:Nat):AV:=.int .u64 (n:Int)
def bT(v:AV)(l:List Nat):Prop:=cB v (l.map uc)
section
variable {v:AV}{l:List Nat}
def bT.len(h:bT v l):jr hp 1 v=GR (.int .i64 (l.length:Nat)):=by
 have:=cB.len (hp:=hp) h
 grind
def bT.pu(h:bT v l):aX v=ydB:=cB.pu h
def bT.ai(h:bT v l)(n:Nat):freeze (n+1) hp v=GR (v,hp):=cB.ai h n
def bT.shut(h:bT v l):VE.shut v=v:=cB.shut h
def bT.bN(h:bT v l):VE.bN v=v:=cB.bN h
def bT.dC(h:bT v l):result hp v=GR v:=cB.dC h
def bT.one(h:bT v l):dN v=ydB:=cB.one h
def bT.bk(h:bT v l){i:Nat}(hi:i<l.length):jq 1 i v=GR (.bC (uc (l.getD i 0)::(l.map uc).drop (i+1))):=by
 have:=cB.bk h (i:=i) (by simpa using hi)
 grind
def pJ(e:Bool)(l:List Nat):bT (.au e l.length (l.map uc)) l:=by
 have:=KL e (l.map uc)
 rwa[y5] at this
def zJ:bT .aj []:=AG
end
def mK{id o:Nat}{v:Nat}{ex:Bool}(h:o<l.length):iM hp ct id o 1 [.int .u64 (v:Int)] (GR (.cells ydB ydB ex 1 (l.map uc)))=GR (.av [],aJ hp id (.cells ydB ydB ex 1 ((l.set o v).map uc)),ct):=by
 rw[HQ (by rfl) (by simp;lia) (by rfl)]
 have:over o [uc v] (l.map uc)=(l.set o v).map uc:=by
  simp only[over,yH,yR,yd];rw[List.map_set,yan,yC (by simpa using h)]
  simp
 rw[this];rfl
def B8{o:Nat}(h:o<l.length):vP o (l.map uc)=uc (l.getD o 0)::vP (o+1) (l.map uc):=by
 rw[yX (by simpa using h)]
 grind
def auF(n:Nat):(yj n [AV.int .u64 0]).flatten=(yj n 0).map uc:=by simp_all
def FZ(ct:Nat)(h:n<=100000000000):zY ct 1 8 [.int .u64 0] (GR n) (GR n)=GR (.ay ct 0 n,.cells ydB ydB ydB 1 ((yj n 0).map uc)):=by
 rw[Fm (sz:=1) (by lia) (by lia) (by rfl) (by rfl),auF];rfl
def DO(hp:Hp)(h:l.length=n)(ex:Bool):mZ 0 n (GR (ex,1,l.map uc,hp))=GR (.au ex n (l.map uc),hp):=jX ex (by simp[h]) (by decide)
def ahX(h:n<2^64):IntKind.wrap .u64 (n:Int)=n:=aAJ (by lia) (by lia)
section
variable {P:aE}{L:Lib}{f:cp}
def mU{b:Nat}(h:a<b):yP a b=ydB:=by simp_all
def Fp(h:L.pure 171=GR qK){c:Nat}(hx:x<2^64)(hy:y<2^64)(hc:c<=1):
  bZ P L f 171 [uc x,uc y,uc c]=GR (.av [uc ((x+y+c)%2^64),uc ((x+y+c)/2^64)]):=by
 rw[jY h];show (bif yG c 1&&(yP x (2^64)&&yP y (2^64)) then _ else GS)=_
 rw[yy hc,mU hx,mU hy];rfl
def W2(h:L.pure 173=GR Dq){c:Nat}(hx:x<2^64)(hy:y<2^64)(hc:c<=1):
  bZ P L f 173 [uc x,uc y,uc c]=GR (.av [uc ((x+2^64*2-y-c)%2^64),uc (if y+c<=x then 0 else 1)]):=by
 rw[jY h];show (bif yG c 1&&(yP x (2^64)&&yP y (2^64)) then _ else GS)=_
 rw[yy hc,mU hx,mU hy];by_cases hh:y+c<=x
 .rw [yy hh,yC hh];rfl
 .have:yG (y+c) x=ydC:=by
   cases hq:yG (y+c) x with
   | false=>rfl
   | true=>exact absurd (yA hq) hh
  grind
def Qt(h:L.pure 143=GR AL)(hx:x<2^64)(hy:y<2^64):
  bZ P L f 143 [uc x,uc y]=GR (.av [uc (x*y/2^64),uc (x*y%2^64)]):=by
 rw[jY h];show (bif yP x (2^64)&&yP y (2^64) then _ else GS)=_
 rw[mU hx,mU hy];rfl
def ar7{x:X}(hx:dn tm 0 (GR x)=GR 0):gg hp (.sl 1) .aj tm GS (GR x)=GR .aj:=by
 simp only[gg,hx,oc]
def DP(h:Has P L 166 DJ)(hv:bT v l)(hl:l.length<=100000000000):∃r,ab P L 166 [v] r/\bT r (eM l):=by
 rcases hv with ⟨rfl,h0⟩ | ⟨e,rfl⟩
 .have:l=[]:=by simpa using h0
  subst this;refine⟨.aj,?_,AG⟩;unfold ab;rw[aB h];simp only[go_sem,ya,DJ,HJ,Fe,aq,show ¬(0:Int)<0 by decide,ar7,jN]
 .have key:=iX P L [0,3] Fe
   (fun k st=>∃(i:Nat),st=⟨[(0,.au e l.length (l.map uc)),(3,aa i)],[],0,0⟩/\i<=l.length/\i=k/\eM (l.take i)=eM l)
   (fun ex st=>∃tm ct,st=⟨tm,[],ct,0⟩/\ex=.exit 0/\∃i:Nat,ak tm 0=.au e l.length (l.map uc)/\ak tm 3=aa i/\i<=l.length/\l.take i=eM l) ?_
  .have hlen:(l.map uc).length=l.length:=by simp
   rw[hlen];have kM:∃i e',ab P L 166 [.au e l.length (l.map uc)] (.au e' i ((l.take i).map uc))/\i<=l.length/\l.take i=eM l:=by
    unfold ab;rw[aB h];simp only[go_sem,ya,DJ];generalize hq:D P L (.loop _ Fe) _=q;obtain⟨ex,st,rfl,tm,ct,rfl,rfl,i,h2,h3,h4,h5⟩:=bt hq (key l.length) ⟨l.length,by simp only[go_sem,ya,aq],yz _,rfl,by rw[xR]⟩;have pU:∀tm x,dn tm l.length (GR x)=GR i->gg [] (.sl 1) (.au e l.length (l.map uc)) tm GS (GR x)=GR (.au (e&&yu i l.length) i ((l.map uc).take i)):=fun tm x hx=>afI hx h4
    simp only[go_sem,ya,aq,h2,h3,pU,jN];exact⟨i,_,by rw[yaS],h4,h5⟩
   have⟨i,e',g1,g2,g3⟩:=kM;refine⟨_,g1,?_⟩;rw[<-g3]
   have:=pJ e' (l.take i)
   rwa[yU,xo g2] at this
  .rintro k st ⟨i,rfl,hi,rfl,ht⟩
   cases i with
   | zero=>
    right
    simp only[go_sem,ya,Fe,show ¬(0:Int)<((0:Nat):Int) by lia];exact⟨_,_,rfl,by simp,_,_,rfl,rfl,0,rfl,rfl,tL _,by simpa[eM] using ht⟩
   | succ i=>
    have NX:i<l.length:=by lia
    have eU:l.take (i+1)=l.take i++[l[i]]:=xm NX;have gD:=(pJ e l).bk NX;rw[<-gd NX] at gD;by_cases h0:l[i]=0
    .left
     simp only[go_sem,ya,Fe,show (0:Int)<((i+1:Nat):Int) by lia,show ((i+1:Nat):Int)-1=(i:Int) by lia,wrapN (n:=i) (by lia),gD,show ((l[i]:Nat):Int)=0 by lia];refine⟨_,i,rfl,by lia,i,by simp only[go_sem,ya,aq],by lia,rfl,?_⟩;rw[<-ht,eU,h0,O7]
    .right
     simp only[go_sem,ya,Fe,show (0:Int)<((i+1:Nat):Int) by lia,show ((i+1:Nat):Int)-1=(i:Int) by lia,wrapN (n:=i) (by lia),gD,show ¬((l[i]:Nat):Int)=0 by lia];refine⟨_,_,rfl,by simp,_,_,rfl,rfl,i+1,rfl,rfl,by lia,?_⟩;rw[<-ht,eU,GZ h0]
end
end
section
variable {v w:AV}{out x y:List Nat}
def O9(p b s:Nat):p*(s%b)+p*b*(s/b)=p*s:=by
 rw[xf,<-xH,uz]
def ap2{b:Nat}{i c:Nat}(hi:i<out.length)(hz:out.getD i 0=0)(hv:bv b out+b^i*c=bv b (x.take i)+bv b (y.take i)):
  bv b (out.set i ((x.getD i 0+y.getD i 0+c)%b))+b^(i+1)*((x.getD i 0+y.getD i 0+c)/b)=bv b (x.take (i+1))+bv b (y.take (i+1)):=by
 have h1:=qO (b:=b) (x:=(x.getD i 0+y.getD i 0+c)%b) hi;have h2:=O9 (b^i) b (x.getD i 0+y.getD i 0+c);rw[hz,xF,yY] at h1;rw[kH,kH,xh,h1]
 grind
def ap3{b:Nat}{i c z c':Nat}(hi:i<out.length)(hz:out.getD i 0=0)(hs:z+y.getD i 0+c=x.getD i 0+b*c')(hv:bv b out+bv b (y.take i)=bv b (x.take i)+b^i*c):
  bv b (out.set i z)+bv b (y.take (i+1))=bv b (x.take (i+1))+b^(i+1)*c':=by
 have h1:=qO (b:=b) (x:=z) hi;rw[hz,xF,yY] at h1;rw[kH,kH,xh,h1]
 grind
def aji(h:Has P L 158 H8)(hv:bT v x)(hw:bT w y)(hx:lo (2^64) x)(hy:lo (2^64) y)(nx:jj x)(ny:jj y)(lx:x.length<=100000000000)(ly:y.length<=100000000000):
  ab P L 158 [v,w] (aa (eD (bv (2^64) x) (bv (2^64) y))):=by
 unfold ab;rw[aB h];by_cases hlen:x.length=y.length
 .have key:=iX P L [0,1,5] Fc
   (fun k st=>∃j:Nat,st=⟨[(0,v),(1,w),(5,aa ((j:Int)-1))],[],0,0⟩/\j<=x.length/\j=k/\x.drop j=y.drop j)
   (fun ex st=>∃tm ct,st=⟨tm,[],ct,0⟩/\((ex=.ret/\ak tm 4=aa (eD (bv (2^64) x) (bv (2^64) y)))\/(ex=.exit 0/\x=y))) ?_
  .simp only [go_sem,ya,H8,hv.len,hw.len,show (x.length:Int)=y.length by lia];generalize hq:D P L (.loop _ Fc) _=q;obtain⟨ex,st,rfl,tm,ct,rfl,h2⟩:=bt hq (key x.length) ⟨x.length,by
    rw[wrap64 (by lia) (by lia),hlen]
    simp only[go_sem,ya,aq,aD hv.pu,aD hw.pu]<;>rfl,yz _,rfl,by rw[y9 (yz _),y9 (by lia)]⟩
   rcases h2 with ⟨rfl,h2⟩ | ⟨rfl,h2⟩
   .simp only [go_sem,h2]
   .simp only [go_sem,aq];subst h2;simp[eD]
  .rintro k st ⟨j,rfl,hj,rfl,he⟩
   cases j with
   | zero=>
    right
    simp only[go_sem,ya,Fc,show ¬(0:Int)<=((0:Nat):Int)-1 by lia];exact⟨_,_,rfl,by simp,_,_,rfl,.inr ⟨rfl,by simpa using he⟩⟩
   | succ i=>
    have h1:i<x.length:=by lia
    have h2:i<y.length:=by lia
    have Ef:=afw hx h1 h2 he;have aG:=afw hy h2 h1 he.symm;by_cases c0:x.getD i 0=y.getD i 0
    .left
     simp only[go_sem,ya,Fc,show ((i+1:Nat):Int)-1=(i:Int) by lia,show (0:Int)<=(i:Int) by lia,hv.bk h1,hw.bk h2,c0];refine⟨_,i,rfl,by lia,i,?_,by lia,rfl,?_⟩
     .rw [wrap64 (by lia) (by lia)];simp only[go_sem,ya,aq,aD hv.pu,aD hw.pu]<;>rfl
     .rw [yX h1,yX h2,he,gd h1,gd h2,c0]
    .by_cases c1:x.getD i 0<y.getD i 0
     .right
      simp only[go_sem,ya,Fc,show ((i+1:Nat):Int)-1=(i:Int) by lia,show (0:Int)<=(i:Int) by lia,hv.bk h1,hw.bk h2,show ¬((x.getD i 0:Nat):Int)=(y.getD i 0:Nat) by lia,show ((x.getD i 0:Nat):Int)<(y.getD i 0:Nat) by lia];refine⟨_,_,rfl,by simp,_,_,rfl,.inl ⟨rfl,?_⟩⟩;simp only[go_sem];unfold eD;rw[yC (Ef c1)]
     .right
      simp only[go_sem,ya,Fc,show ((i+1:Nat):Int)-1=(i:Int) by lia,show (0:Int)<=(i:Int) by lia,hv.bk h1,hw.bk h2,show ¬((x.getD i 0:Nat):Int)=(y.getD i 0:Nat) by lia,show ¬((x.getD i 0:Nat):Int)<(y.getD i 0:Nat) by lia];refine⟨_,_,rfl,by simp,_,_,rfl,.inl ⟨rfl,?_⟩⟩;simp only[go_sem];unfold eD;rw[yq (by lia),yC (by lia)]
 .by_cases c1:x.length<y.length
  .have:=P0 (b:=2^64) (by decide) hx ny c1
   simp only[go_sem,ya,H8,hv.len,hw.len,show ¬(x.length:Int)=y.length by lia,show (x.length:Int)<y.length by lia];unfold eD;rw[yC this]
  .have:=P0 (b:=2^64) (by decide) hy nx (show y.length<x.length by lia)
   simp only[go_sem,ya,H8,hv.len,hw.len,show ¬(x.length:Int)=y.length by lia,show ¬(x.length:Int)<y.length by lia];unfold eD;rw[yq (by lia),yC this]
def agm(jd:L.pure 171=GR qK)(hv:bT v x)(hw:bT w y)(hx:lo (2^64) x)(hy:lo (2^64) y)(lx:x.length<=99999999999)(ly:y.length<=x.length){n:Nat}(hn:n=x.length+1):
  cG P L [0,1,5,6,21,22] Fb (fun k s=>∃(i c:Nat) (out:List Nat),s=⟨[(0,v),(1,w),(5,.ay 0 0 n),(6,uc c),(21,aa x.length),(22,aa i)],[(0,.cells ydB ydB ydB 1 (out.map uc))],1,0⟩/\i+k=x.length/\out.length=n/\c<=1/\lo (2^64) out/\
    bv (2^64) out+(2^64)^i*c=bv (2^64) (x.take i)+bv (2^64) (y.take i)/\(∀m,i<=m->out.getD m 0=0)) (fun ex s'=>∃tm c out,s'=⟨tm,[(0,.cells ydB ydB ydB 1 (out.map uc))],1,0⟩/\ex=.exit 0/\ak tm 0=v/\ak tm 5=.ay 0 0 n/\ak tm 6=uc c/\out.length=n/\c<=1/\lo (2^64) out/\
    bv (2^64) out+(2^64)^x.length*c=bv (2^64) x+bv (2^64) y/\out.getD x.length 0=0):=by
 apply cI;rintro k s ⟨i,c,out,rfl,hk,hlen,hc,aY,aM,hZ⟩;by_cases hi:i<x.length
 .left
  have hz:=hZ i (yz _);have mV:=ap2 (x:=x) (y:=y) (show i<out.length by lia) hz aM;have gx:=iW (show 0<2^64 by decide) hx i;have gy:=iW (show 0<2^64 by decide) hy i;have e1:=Fp (P:=P) (f:=D P L) jd gx gy hc;have ex:=hv.bk hi;generalize x.getD i 0=p at*
  by_cases hj:i<y.length
  .have ey:=hw.bk hj;generalize y.getD i 0=q at*
   simp only[go_sem,ya,yg,Fb,hw.len,show (i:Int)<x.length by lia,show (i:Int)<y.length by lia,ex,ey,e1,dd 0 0 (show i<n by lia),yd,mK (l:=out) (o:=i) (by lia)]
   refine⟨_,k-1,rfl,by lia,i+1,(p+q+c)/2^64,_,?_,by lia,by simp[hlen],by lia,ot aY (x:=(p+q+c)%2^64) (i:=i) (by lia),mV,fun m hm=>?_⟩
   .rw [wrap64 (by lia) (by lia)];simp only[go_sem,ya,yb,aq,aD hv.pu,aD hw.pu]<;>rfl
   .rw [sj (by lia)];exact hZ m (by lia)
  .have ia:y.getD i 0=0:=WW (by lia);rw[ia] at mV e1;rw[show (uc 0)=AV.int .u64 0 from rfl] at e1
   simp only[go_sem,ya,yg,Fb,hw.len,show (i:Int)<x.length by lia,show ¬(i:Int)<y.length by lia,ex,e1,dd 0 0 (show i<n by lia),yd,mK (l:=out) (o:=i) (by lia)]
   refine⟨_,k-1,rfl,by lia,i+1,(p+0+c)/2^64,_,?_,by lia,by simp[hlen],by lia,ot aY (x:=(p+0+c)%2^64) (i:=i) (by lia),mV,fun m hm=>?_⟩
   .rw [wrap64 (by lia) (by lia)];simp only[go_sem,ya,yb,aq,aD hv.pu,aD hw.pu]<;>rfl
   .rw [sj (by lia)];exact hZ m (by lia)
 .right
  have:i=x.length:=by lia
  subst this;rw[xR,yK ly] at aM;simp only[go_sem,ya,Fb,show ¬(x.length:Int)<x.length by lia];exact⟨_,_,rfl,by simp,_,c,out,rfl,rfl,rfl,rfl,rfl,hlen,hc,aY,aM,hZ _ (yz _)⟩
def aCl(h:Has P L 157 Mo)(oL:Has P L 166 DJ)(jd:L.pure 171=GR qK)(hv:bT v x)(hw:bT w y)(hx:lo (2^64) x)(hy:lo (2^64) y)(lx:x.length<=99999999999)(ly:y.length<=99999999999):
  ∃r out,ab P L 157 [v,w] r/\bT r out/\lo (2^64) out/\jj out/\bv (2^64) out=bv (2^64) x+bv (2^64) y:=by
 have fin:∀{x y o:List Nat} {n c:Nat},n=x.length+1->x.length<=99999999999->o.length=n->c<=1->lo (2^64) o->bv (2^64) o+(2^64)^x.length*c=bv (2^64) x+bv (2^64) y->o.getD x.length 0=0->
   ∃r,bZ P L (D P L) 166 [.au ydB n ((o.set x.length c).map uc)]=GR r/\bT r (eM (o.set x.length c))/\lo (2^64) (eM (o.set x.length c))/\jj (eM (o.set x.length c))/\bv (2^64) (eM (o.set x.length c))=bv (2^64) x+bv (2^64) y:=by
  intro x y o n c hn lx hlen hc aY aM hz;have aJ:=qO (b:=2^64) (l:=o) (i:=x.length) (x:=c) (by lia);rw[hz,xF,yY,aM] at aJ;have aCm:lo (2^64) (o.set x.length c):=ot aY (by lia);have hf:=pJ ydB (o.set x.length c);rw[List.length_set,hlen] at hf;have⟨r,e1,hr⟩:=DP oL hf (by simp;lia)
  exact⟨r,e1,hr,De aCm,Dd _,by rw[Dc];exact aJ⟩
 by_cases hl:x.length<y.length
 .obtain ⟨n,hn⟩:∃n,n=y.length+1:=⟨_,rfl⟩;unfold ab;rw[aB h]
  simp only[go_sem,ya,yb,Mo,hv.len,hw.len,show (x.length:Int)<y.length by lia,wrapN (n:=n) (by lia),show (y.length:Int)+1=((y.length+1:Nat):Int) from rfl,<-hn,FZ (n:=n) _ (by lia)];generalize hq:D P L (.loop _ Fb) _=q;obtain⟨ex,s,rfl,tm,c,o,rfl,rfl,t0,t5,t6,hlen,hc,aY,aM,hz⟩:=bt hq (agm (P:=P) (L:=L) jd hw hv hy hx ly (by lia) hn y.length)
   ⟨0,0,yj n 0,by simp only[go_sem,ya,yb,aq,aD hv.pu,aD hw.pu]<;>rfl,by lia,by simp,by lia,HH (by decide) n,by rw[HI];simp[bv],fun m _=>E2 n m⟩
  have⟨r,e1,hr,f1,f2,f3⟩:=fin hn ly hlen hc aY aM hz;refine⟨r,_,?_,hr,f1,f2,by rw[f3];lia⟩
  simp only[go_sem,ya,yg,aq,aD hw.pu,hw.len,t0,t5,t6,dd 0 0 (show y.length<n by lia),yd,mK (l:=o) (o:=y.length) (by lia)]
  simp only[go_sem,DO _ (n:=n) (l:=o.set y.length c) (by simp[hlen]) ydB,e1,hr.shut,hr.dC]
 .obtain ⟨n,hn⟩:∃n,n=x.length+1:=⟨_,rfl⟩;unfold ab;rw[aB h]
  simp only[go_sem,ya,yb,Mo,hv.len,hw.len,show ¬(x.length:Int)<y.length by lia,wrapN (n:=n) (by lia),show (x.length:Int)+1=((x.length+1:Nat):Int) from rfl,<-hn,FZ (n:=n) _ (by lia)];generalize hq:D P L (.loop _ Fb) _=q;obtain⟨ex,s,rfl,tm,c,o,rfl,rfl,t0,t5,t6,hlen,hc,aY,aM,hz⟩:=bt hq (agm (P:=P) (L:=L) jd hv hw hx hy lx (by lia) hn x.length)
   ⟨0,0,yj n 0,by simp only[go_sem,ya,yb,aq,aD hv.pu,aD hw.pu]<;>rfl,by lia,by simp,by lia,HH (by decide) n,by rw[HI];simp[bv],fun m _=>E2 n m⟩
  have⟨r,e1,hr,f1,f2,f3⟩:=fin hn lx hlen hc aY aM hz;refine⟨r,_,?_,hr,f1,f2,f3⟩
  simp only[go_sem,ya,yg,aq,aD hv.pu,hv.len,t0,t5,t6,dd 0 0 (show x.length<n by lia),yd,mK (l:=o) (o:=x.length) (by lia)]
  simp only[go_sem,DO _ (n:=n) (l:=o.set x.length c) (by simp[hlen]) ydB,e1,hr.shut,hr.dC]
end
section
variable {v w:AV}{x y:List Nat}{c n:Nat}
def ap4{b:Nat}{out:List Nat}{p j t o x y ba:Nat}(ho:o=out.getD j 0)(hj:j<out.length)(ht:t=o+x*y+c)(hv:bo+p*c=ba+p*(x*Y))(hb:bo=bv b out)(hp:p=b^j):
  bv b (out.set j (t%b))+p*b*(t/b)=ba+p*(x*(Y+0))+p*(x*y):=by
 have h1:=qO (b:=b) (x:=t%b) hj;have h2:=O9 p b t
 grind
def VU{x y:Nat}(hx:x<2^64)(hy:y<2^64)(hc:c<=1):
  (x+2^64*2-y-c)%2^64+y+c=x+2^64*(if y+c<=x then 0 else 1):=by grind
def axY(A7:L.pure 173=GR Dq)(hv:bT v x)(hw:bT w y)(hx:lo (2^64) x)(hy:lo (2^64) y)(lx:x.length<=99999999999)(ly:y.length<=x.length)(hle:bv (2^64) y<=bv (2^64) x)(hn:n=x.length):
  cG P L [0,1,5,6,13,14] Hn (fun k s=>∃(i c:Nat) (out:List Nat),s=⟨[(0,v),(1,w),(5,.ay 0 0 n),(6,uc c),(13,aa x.length),(14,aa i)],[(0,.cells ydB ydB ydB 1 (out.map uc))],1,0⟩/\i+k=x.length/\out.length=n/\c<=1/\lo (2^64) out/\
    bv (2^64) out+bv (2^64) (y.take i)=bv (2^64) (x.take i)+(2^64)^i*c/\(∀m,i<=m->out.getD m 0=0)) (fun ex s'=>∃tm out,s'=⟨tm,[(0,.cells ydB ydB ydB 1 (out.map uc))],1,0⟩/\ex=.exit 0/\ak tm 5=.ay 0 0 n/\out.length=n/\lo (2^64) out/\
    bv (2^64) out+bv (2^64) y=bv (2^64) x):=by
 apply cI;rintro k s ⟨i,c,out,rfl,hk,hlen,hc,aY,aM,hZ⟩;by_cases hi:i<x.length
 .left
  have hz:=hZ i (yz _);have gx:=iW (show 0<2^64 by decide) hx i;have gy:=iW (show 0<2^64 by decide) hy i;have Bw:=VU gx gy hc;have mV:=ap3 (x:=x) (y:=y) (show i<out.length by lia) hz Bw aM;have e1:=W2 (P:=P) (f:=D P L) A7 gx gy hc;have ex:=hv.bk hi;generalize x.getD i 0=p at*
  have iN:(if y.getD i 0+c<=p then 0 else 1)<=1:=by split<;>lia
  by_cases hj:i<y.length
  .have ey:=hw.bk hj;generalize y.getD i 0=q at*
   generalize (if q+c<=p then 0 else 1)=c1 at*
   simp only[go_sem,ya,xy,yg,Hn,hw.len,show (i:Int)<x.length by lia,show (i:Int)<y.length by lia,ex,ey,e1,dd 0 0 (show i<n by lia),yd,mK (l:=out) (o:=i) (by lia)]
   refine⟨_,k-1,rfl,by lia,i+1,c1,_,?_,by lia,by simp[hlen],iN,ot aY (x:=(p+2^64*2-q-c)%2^64) (i:=i) (by lia),mV,fun m hm=>?_⟩
   .rw [wrap64 (by lia) (by lia)];simp only[go_sem,ya,yb,xy,aq,aD hv.pu,aD hw.pu]<;>rfl
   .rw [sj (by lia)];exact hZ m (by lia)
  .have ia:y.getD i 0=0:=WW (by lia);rw[ia] at mV e1 iN;rw[show (uc 0)=AV.int .u64 0 from rfl] at e1;generalize (if 0+c<=p then 0 else 1)=c1 at*
   simp only[go_sem,ya,xy,yg,Hn,hw.len,show (i:Int)<x.length by lia,show ¬(i:Int)<y.length by lia,ex,e1,dd 0 0 (show i<n by lia),yd,mK (l:=out) (o:=i) (by lia)]
   refine⟨_,k-1,rfl,by lia,i+1,c1,_,?_,by lia,by simp[hlen],iN,ot aY (x:=(p+2^64*2-0-c)%2^64) (i:=i) (by lia),mV,fun m hm=>?_⟩
   .rw [wrap64 (by lia) (by lia)];simp only[go_sem,ya,yb,xy,aq,aD hv.pu,aD hw.pu]<;>rfl
   .rw [sj (by lia)];exact hZ m (by lia)
 .right
  have:i=x.length:=by lia
  subst this;rw[xR,yK ly] at aM;have aG:=nH aY;rw[hlen,hn] at aG;simp only[go_sem,ya,Hn,show ¬(x.length:Int)<x.length by lia];refine⟨_,_,rfl,by simp,_,out,rfl,rfl,rfl,hlen,aY,?_⟩;rcases (show c=0\/c=1 by lia) with rfl | rfl
  .lia
  .lia
def ajj(h:Has P L 159 RF)(oL:Has P L 166 DJ)(A7:L.pure 173=GR Dq)(hv:bT v x)(hw:bT w y)(hx:lo (2^64) x)(hy:lo (2^64) y)(ny:jj y)(lx:x.length<=99999999999)(hle:bv (2^64) y<=bv (2^64) x):
  ∃r out,ab P L 159 [v,w] r/\bT r out/\lo (2^64) out/\jj out/\bv (2^64) out+bv (2^64) y=bv (2^64) x:=by
 have ly:y.length<=x.length:=by
  by_cases hh:x.length<y.length
  .have:=P0 (b:=2^64) (by decide) hx ny hh
   lia
  .lia
 obtain⟨n,hn⟩:∃n,n=x.length:=⟨_,rfl⟩;unfold ab;rw[aB h]
 simp only[go_sem,ya,yb,RF,hv.len,<-hn,FZ (n:=n) _ (by lia)];generalize hq:D P L (.loop _ Hn) _=q;obtain⟨ex,s,rfl,tm,o,rfl,rfl,t5,hlen,aY,aM⟩:=bt hq (axY (P:=P) (L:=L) A7 hv hw hx hy lx ly hle hn x.length)
  ⟨0,0,yj n 0,by rw[hn];simp only[go_sem,ya,yb,aq,aD hv.pu,aD hw.pu]<;>rfl,by lia,by simp,by lia,HH (by decide) n,by rw[HI];simp[bv],fun m _=>E2 n m⟩
 have hf:=pJ ydB o;rw[hlen] at hf;have⟨r,e1,hr⟩:=DP oL hf (by lia);refine⟨r,_,?_,hr,De aY,Dd _,by rw[Dc];exact aM⟩
 simp only[go_sem,yb,aq,t5,DO _ (n:=n) (l:=o) hlen ydB,e1,hr.shut,hr.dC]
def ar8{x y o:Nat}(hx:x<2^64)(hy:y<2^64)(ho:o<2^64)(hc:c<2^64):
  o+x*y+c<2^64*2^64/\
  ((x*y%2^64+o+0)%2^64+c+0)%2^64=(o+x*y+c)%2^64/\
  x*y/2^64+(x*y%2^64+o+0)/2^64+((x*y%2^64+o+0)%2^64+c+0)/2^64=(o+x*y+c)/2^64:=by
 have h1:=y8 (show x<=18446744073709551615 by lia) (show y<=18446744073709551615 by lia)
 grind
def axZ(oM:L.pure 143=GR AL)(jd:L.pure 171=GR qK)(hv:bT v x)(hw:bT w y)(hx:lo (2^64) x)(hy:lo (2^64) y)(lx:x.length<=49999999999)(ly:y.length<=49999999999){i:Nat}(hn:n=x.length+y.length)(hi:i<x.length)(ha:a<2^64):
  cG P L [1,5,6,7,8,20,21,22,27,28,29] K8 (fun k s=>∃(j c:Nat) (out:List Nat),s=⟨[(1,w),(5,.ay 0 0 n),(6,aa i),(7,uc a),(8,uc c),(20,v),(21,aa x.length),(22,aa i),(27,w),(28,aa y.length),(29,aa j)],[(0,.cells ydB ydB ydB 1 (out.map uc))],1,0⟩/\j+k=y.length/\out.length=n/\c<2^64/\lo (2^64) out/\
    bv (2^64) out+(2^64)^(i+j)*c=bo+(2^64)^i*(a*bv (2^64) (y.take j))/\(∀m,i+y.length<=m->out.getD m 0=0)) (fun ex s'=>∃tm c out,s'=⟨tm,[(0,.cells ydB ydB ydB 1 (out.map uc))],1,0⟩/\ex=.exit 2/\ak tm 1=w/\ak tm 5=.ay 0 0 n/\ak tm 6=aa i/\ak tm 8=uc c/\ak tm 20=v/\ak tm 21=aa x.length/\ak tm 22=aa i/\out.length=n/\c<2^64/\lo (2^64) out/\
    bv (2^64) out+(2^64)^(i+y.length)*c=bo+(2^64)^i*(a*bv (2^64) y)/\(∀m,i+y.length<=m->out.getD m 0=0)):=by
 apply cI;rintro k s ⟨j,c,out,rfl,hk,hlen,hc,aY,aM,hZ⟩;by_cases hj:j<y.length
 .left
  have Ej:(0:Nat)<2^64:=by decide
  have gy:=iW Ej hy j;have qt:=iW Ej aY (i+j);have ey:=hw.bk hj;have e3:=B8 (l:=out) (o:=i+j) (by lia);obtain⟨q,hq⟩:∃q,q=y.getD j 0:=⟨_,rfl⟩;obtain⟨o,ho⟩:∃o,o=out.getD (i+j) 0:=⟨_,rfl⟩;rw[<-hq] at gy ey;rw[<-ho] at qt e3;have⟨m1,m2,m3⟩:=ar8 ha gy qt hc;have hpy:a*q<2^64*2^64:=by lia
  have f1:=Qt (P:=P) (f:=D P L) oM ha gy;have f2:=Fp (P:=P) (f:=D P L) jd (x:=a*q%2^64) (y:=o) (c:=0) (xq _ Ej) qt (by lia);have f3:=Fp (P:=P) (f:=D P L) jd (x:=(a*q%2^64+o+0)%2^64) (y:=c) (c:=0) (xq _ Ej) hc (by lia);obtain⟨t,ht⟩:∃t,t=o+a*q+c:=⟨_,rfl⟩;have mV:=ap4 (b:=2^64) (out:=out) (p:=(2^64)^(i+j)) (j:=i+j) (c:=c) (t:=t) (x:=a) (y:=q) (Y:=0) (ba:=bo+(2^64)^i*(a*bv (2^64) (y.take j))) ho (by lia) ht (by simpa using aM) rfl rfl;rw[m2,<-ht] at f3;rw[<-ht] at m1 m3;obtain⟨d1,mL⟩:∃d,d=(a*q%2^64+o+0)/2^64:=⟨_,rfl⟩;obtain⟨d2,gM⟩:∃d,d=((a*q%2^64+o+0)%2^64+c+0)/2^64:=⟨_,rfl⟩;rw[<-mL] at f2 m3;rw[<-gM] at f3 m3;rw[show (uc 0)=AV.int .u64 0 from rfl] at f2 f3;obtain⟨h1,kQ⟩:∃d,d=a*q/2^64:=⟨_,rfl⟩;rw[<-kQ] at f1 m3;have iH:h1+d1<2^64:=by lia
  have CG:h1+d1+d2<2^64:=by lia
  simp only[go_sem,ya,yg,K8,show (j:Int)<y.length by lia,ey,f1,wrapN (n:=i+j) (by lia),show (i:Int)+(j:Int)=((i+j:Nat):Int) from rfl,dd 0 0 (show i+j<n by lia),yd,e3,f2,f3,show (h1:Int)+(d1:Int)=((h1+d1:Nat):Int) from rfl,ahX iH,show ((h1+d1:Nat):Int)+(d2:Int)=((h1+d1+d2:Nat):Int) from rfl,ahX CG,mK (l:=out) (o:=i+j) (by lia)]
  refine⟨_,k-1,rfl,by lia,j+1,h1+d1+d2,_,?_,by lia,by simp[hlen],CG,ot aY (x:=t%2^64) (i:=i+j) (xq _ Ej),?_,fun m hm=>?_⟩
  .rw [wrap64 (by lia) (by lia)];simp only[go_sem,ya,yb,aq,aD hv.pu,aD hw.pu]<;>rfl
  .rw [m3,show i+(j+1)=i+j+1 by lia,A6,kH,<-hq,xH a,xH ((2^64)^i)];simp only[xF,yY] at mV;rw[mV,xB,<-Nat.add_assoc,xf ((2^64)^i),<-xf a,xd a ((2^64)^j),xf]
  .rw [sj (by lia)];exact hZ m hm
 .right
  have:j=y.length:=by lia
  subst this;rw[xR] at aM;simp only[go_sem,ya,K8,show ¬(y.length:Int)<y.length by lia];exact⟨_,_,rfl,by simp,_,c,out,rfl,rfl,rfl,rfl,rfl,rfl,rfl,rfl,rfl,hlen,hc,aY,aM,hZ⟩
def ax0(oM:L.pure 143=GR AL)(jd:L.pure 171=GR qK)(hv:bT v x)(hw:bT w y)(hx:lo (2^64) x)(hy:lo (2^64) y)(lx:x.length<=49999999999)(ly:y.length<=49999999999)(hn:n=x.length+y.length):
  cG P L [1,5,20,21,22] K9 (fun k s=>∃(i:Nat) (out:List Nat),s=⟨[(1,w),(5,.ay 0 0 n),(20,v),(21,aa x.length),(22,aa i)],[(0,.cells ydB ydB ydB 1 (out.map uc))],1,0⟩/\i+k=x.length/\out.length=n/\lo (2^64) out/\
    bv (2^64) out=bv (2^64) (x.take i)*bv (2^64) y/\(∀m,i+y.length<=m->out.getD m 0=0)) (fun ex s'=>∃tm out,s'=⟨tm,[(0,.cells ydB ydB ydB 1 (out.map uc))],1,0⟩/\ex=.exit 0/\ak tm 5=.ay 0 0 n/\out.length=n/\lo (2^64) out/\
    bv (2^64) out=bv (2^64) x*bv (2^64) y):=by
 apply cI;rintro k s ⟨i,out,rfl,hk,hlen,aY,aM,hZ⟩;by_cases hi:i<x.length
 .left
  have gx:=iW (show 0<2^64 by decide) hx i;have ex:=hv.bk hi;obtain⟨a,ha⟩:∃a,a=x.getD i 0:=⟨_,rfl⟩;simp only[go_sem,ya,K9,hw.len,show (i:Int)<x.length by lia,ex];generalize hq:D P L (.loop _ K8) _=q;obtain⟨ex,s,rfl,tm,c,A8,rfl,rfl,t1,t5,t6,t8,t20,t21,t22,XR,hc,aCn,XS,MT⟩:=bt hq (axZ (P:=P) (L:=L) oM jd hv hw hx hy lx ly hn hi gx (bo:=bv (2^64) out) y.length)
   ⟨0,0,out,by simp only[go_sem,ya,yb,aq,aD hv.pu,aD hw.pu]<;>rfl,by lia,hlen,by decide,aY,by simp[bv],hZ⟩
  have hz:A8.getD (i+y.length) 0=0:=MT _ (yz _);have aJ:=qO (b:=2^64) (l:=A8) (i:=i+y.length) (x:=c) (by lia);rw[hz,xF,yY,XS] at aJ
  simp only[go_sem,ya,yg,aq,t1,t5,t6,t8,t20,t21,t22,hw.len,aD hv.pu,aD hw.pu,wrapN (n:=i+y.length) (by lia),show (i:Int)+(y.length:Int)=((i+y.length:Nat):Int) from rfl,dd 0 0 (show i+y.length<n by lia),yd,mK (l:=A8) (o:=i+y.length) (by lia)];refine⟨_,k-1,rfl,by lia,i+1,A8.set (i+y.length) c,?_,by lia,by simp[XR],ot aCn hc,?_,fun m hm=>?_⟩
  .rw [wrap64 (by lia) (by lia)];simp only[go_sem,ya,yb,aq,aD hv.pu,aD hw.pu]<;>rfl
  .rw [aJ,aM,kH,xS,<-ha,xf]
  .rw [sj (by lia)];exact MT m (by lia)
 .right
  have:i=x.length:=by lia
  subst this;rw[xR] at aM;simp only[go_sem,ya,K9,show ¬(x.length:Int)<x.length by lia];exact⟨_,_,rfl,by simp,_,out,rfl,rfl,rfl,hlen,aY,aM⟩
def aCo(h:Has P L 144 RD)(oL:Has P L 166 DJ)(oM:L.pure 143=GR AL)(jd:L.pure 171=GR qK)(hv:bT v x)(hw:bT w y)(hx:lo (2^64) x)(hy:lo (2^64) y)(lx:x.length<=49999999999)(ly:y.length<=49999999999):
  ∃r out,ab P L 144 [v,w] r/\bT r out/\lo (2^64) out/\jj out/\bv (2^64) out=bv (2^64) x*bv (2^64) y:=by
 obtain⟨n,hn⟩:∃n,n=x.length+y.length:=⟨_,rfl⟩;unfold ab;rw[aB h]
 simp only[go_sem,ya,yb,RD,hv.len,hw.len,wrapN (n:=n) (by lia),show (x.length:Int)+(y.length:Int)=((x.length+y.length:Nat):Int) from rfl,<-hn,FZ (n:=n) _ (by lia)];generalize hq:D P L (.loop _ K9) _=q;obtain⟨ex,s,rfl,tm,o,rfl,rfl,t5,hlen,aY,aM⟩:=bt hq (ax0 (P:=P) (L:=L) oM jd hv hw hx hy lx ly hn x.length)
  ⟨0,yj n 0,by simp only[go_sem,ya,yb,aq,aD hv.pu,aD hw.pu]<;>rfl,by lia,by simp,HH (by decide) n,by rw[HI];simp[bv],fun m _=>E2 n m⟩
 have hf:=pJ ydB o;rw[hlen] at hf;have⟨r,e1,hr⟩:=DP oL hf (by lia);refine⟨r,_,?_,hr,De aY,Dd _,by rw[Dc];exact aM⟩
 simp only[go_sem,yb,aq,t5,DO _ (n:=n) (l:=o) hlen ydB,e1,hr.shut,hr.dC]
end
section
variable {b s u u2 v1 v2 y:Nat}
def Q1(n:Int):IntKind.wrap .u64 n=n%2^64:=by
 simp[IntKind.wrap,IntKind.signed,IntKind.bits]
def wrapM(n:Nat):IntKind.wrap .u64 (n:Int)=((n%2^64:Nat):Int):=by rw[Q1];lia
def sS(a b:Nat):binOp .mul (uc a) (uc b)=GR (uc (a*b%2^64)):=by
 rw[afA,<-xD,wrapM]
def DF(a b:Nat):binOp .add (uc a) (uc b)=GR (uc ((a+b)%2^64)):=by
 rw[afz,<-Int.natCast_add,wrapM]
def F0{c:Nat}(h:(a+2^64-b)%2^64=c)(hb:b<=2^64):binOp .sub (uc a) (uc b)=GR (uc c):=by
 rw[P1,Q1]
 grind
def agn(k k':xg)(a b:Int):binOp .shl (.int k a) (.int k' b)=EZ .shl k a b:=rfl
def ago(k k':xg)(a b:Int):binOp .shr (.int k a) (.int k' b)=EZ .shr k a b:=rfl
def MU(k:xg)(a:Nat)(hs:s<=64):binOp .shl (.int .u64 (a:Int)) (.int k (s:Int))=GR (uc (a*2^s%2^64)):=by
 rw[agn];simp only[EZ,yq (show ¬(s:Int)<0 by lia),wA,IntKind.bits,xo hs];rw[show ((2:Int)^s)=((2^s:Nat):Int) by simp,<-xD,wrapM]
def MV(k:xg)(a:Nat)(hs:s<=64):binOp .shr (.int .u64 (a:Int)) (.int k (s:Int))=GR (uc (a/2^s)):=by
 rw[ago];simp only[EZ,yq (show ¬(s:Int)<0 by lia),wA,IntKind.bits,xo hs]
 grind
def ajk(a:Nat):binOp .and (.int .u64 (a:Int)) (.int .u64 4294967295)=GR (uc (a%4294967296)):=by
 show GR (AV.int .u64 (IntKind.wrap .u64 ((xO 64 (a:Int)&&&xO 64 4294967295).toNat:Int)))=_
 rw[show xO 64 (a:Int)=tS 64 a from tT 64 a,show xO 64 4294967295=tS 64 4294967295 from rfl];rw[BitVec.toNat_and,ui,ui,show (4294967295%2^64:Nat)=2^32-1 from rfl,Nat.and_two_pow_sub_one_eq_mod,wrapM]
 grind
def TQ(ha:a<2^64)(hb:b<2^64):binOp .or (.int .u64 (a:Int)) (.int .u64 (b:Int))=GR (uc (a|||b)):=by
 show GR (AV.int .u64 (IntKind.wrap .u64 ((xO 64 (a:Int)|||xO 64 (b:Int)).toNat:Int)))=_
 congr 2
 rw[show xO 64 (a:Int)=tS 64 a from tT 64 a,show xO 64 (b:Int)=tS 64 b from tT 64 b];rw[BitVec.toNat_or,ui,ui,yQ (show a<2^64 from ha),yQ (show b<2^64 from hb),wrapM]
 have:a|||b<2^64:=Nat.or_lt_two_pow ha hb
 lia
def W3{p c:Nat}(h:c<2^s):(p*2^s)|||c=p*2^s+c:=by
 rw[<-Nat.shiftLeft_eq,<-Nat.shiftLeft_add_eq_or_of_lt h]
def UU:∀(f n:Nat),n<2^f->dW f n<=f/\n<2^dW f n/\(0<n->0<dW f n/\2^(dW f n-1)<=n)
 | 0,n,h=>by simp[dW];simpa using h
 | f+1,n,h=>by
  simp only[dW];by_cases h0:n=0
  .simp_all
  .rw [iB h0,yS];have⟨h1,h2,h3⟩:=UU f (n/2) (by lia);refine⟨by lia,?_,fun _=>⟨by lia,?_⟩⟩
   .grind
   .rw [Nat.add_sub_cancel_left];by_cases hn:0<n/2
    .have ⟨h4,h5⟩:=h3 hn;obtain⟨m,hm⟩:∃m,dW f (n/2)=m+1:=⟨dW f (n/2)-1,by lia⟩
     grind
    .have hz:n/2=0:=by lia
     have:dW f 0=0:=by cases f with
      | zero=>rfl
      | succ f=>rfl
     grind
def VV(h0:0<y)(h:y<2^64):64-dW 64 y<64/\9223372036854775808<=y*2^(64-dW 64 y)/\y*2^(64-dW 64 y)<2^64:=by
 have⟨h1,h2,h3⟩:=UU 64 y h;have⟨h4,h5⟩:=h3 h0;generalize dW 64 y=k at*
 refine⟨by lia,?_,?_⟩
 .have:=yT (2^(64-k)) h5
  rw[<-xB,show k-1+(64-k)=63 by lia] at this;exact this
 .have:=xY h2 (xe (64-k))
  rw[<-xB,show k+(64-k)=64 by lia] at this;exact this
section
variable {P:aE}{L:Lib}{f:cp}
def agp(h:L.pure 167=GR HP)(hx:x<2^64):bZ P L f 167 [uc x]=GR (aa (64-dW 64 x:Nat)):=by
 rw[jY h];show (bif yP x (2^64) then _ else GS)=_
 rw[mU hx];rfl
def ap5{t r:Nat}(de:v2<b)(mJ:t<b)(ht:t*v1+r=u)(h:b<=r\/t*v2<=b*r+u2):t*(v1*b+v2)<=u*b+u2:=by
 have h2:t*v2<=b*r+u2:=by
  rcases h with h | h
  .have:=y8 (uY mJ) (uY de)
   have:=yW b h
   lia
  .exact h
 rw[xH,<-xf,<-ht,xS,xd r b];lia
def aAK(n:Nat):iC (.toInt .u64) (.int .i64 (n:Int))=GR (uc (n%2^64)):=by
 show GR (AV.int .u64 (IntKind.wrap .u64 (n:Int)))=_
 rw[wrapM]
def ab3{q r:Nat}(hy:y=v1*4294967296+v2)(de:v2<4294967296)(IV:0<v1)(fJ:v1<4294967296)(hu:u<y)(CK:u2<4294967296)(hq:q*v1+r=u)(hr:r<4294967296)(hQ:(u*4294967296+u2)/y<=q):
  (4294967296<=q\/4294967296*r+u2<q*v2->0<q/\(q-1)*v1+(r+v1)=u/\(u*4294967296+u2)/y<=q-1/\(4294967296<=r+v1->(u*4294967296+u2)/y=q-1))/\
  (¬4294967296<=q->q*v2<=4294967296*r+u2->(u*4294967296+u2)/y=q):=by
 have ia:0<y:=by lia
 have big:∀t s,t*v1+s=u->4294967296<=t->s<4294967296:=fun t s h1 h2=>by
  have:=yT v1 h2
  grind
 have agq:∀t s,t*v1+s=u->t<4294967296->(4294967296<=s\/t*v2<=4294967296*s+u2)->(u*4294967296+u2)/y<=t->(u*4294967296+u2)/y=t:=fun t s h1 h2 h3 h4=>by
  have:=ap5 de h2 h1 h3
  rw[<-hy] at this
  have:=(tV ia).2 this
  lia
 constructor
 .intro h;have oU:0<q:=by
   grind
  have h1:(q-1)*v1+(r+v1)=u:=by
   obtain⟨p,rfl⟩:∃p,q=p+1:=⟨q-1,by lia⟩
   grind
  have h2:(u*4294967296+u2)/y<=q-1:=by
   have aG:u*4294967296+u2<q*y:=by
    rcases h with h | h
    .have h3:u*4294967296+u2<4294967296*y:=by lia
     exact yF h3 (yT y h)
    .rw [hy,xH,<-xf,<-hq,xS,xd r];lia
   have:=(xC ia).2 aG
   lia
  exact⟨oU,h1,h2,fun h3=>agq _ _ h1 (by
   by_cases hb:4294967296<=q-1
   .have:=big _ _ h1 hb;lia
   .lia) (.inl h3) h2⟩
 .intro h1 h2;exact agq q r hq (by lia) (.inr h2) hQ
def ax1{z:Nat}(hy:y=v1*4294967296+v2)(de:v2<4294967296)(IV:0<v1)(fJ:v1<4294967296)(hu:u<y)(CK:u2<4294967296):
  cG P L [2,8,9,10,11,13,14,15,16] Dr (fun k st=>∃q r:Nat,st=⟨[(2,uc y),(8,uc s),(9,uc v1),(10,uc v2),(11,uc u),(13,uc u2),(14,uc z),(15,uc q),(16,uc r)],[],0,0⟩/\q*v1+r=u/\r<4294967296/\(u*4294967296+u2)/y<=q/\q=k) (fun ex st'=>∃tm ct,st'=⟨tm,[],ct,0⟩/\ex=.exit 0/\ak tm 2=uc y/\ak tm 8=uc s/\ak tm 9=uc v1/\ak tm 10=uc v2/\ak tm 11=uc u/\ak tm 13=uc u2/\ak tm 14=uc z/\ak tm 15=uc ((u*4294967296+u2)/y)):=by
 apply cI;rintro k st ⟨q,r,rfl,hq,hr,hQ,rfl⟩;have⟨g1,g2⟩:=ab3 hy de IV fJ hu CK hq hr hQ;have hqb:q*1<=q*v1:=yW q IV;have aCp:=yT 4294967296 (show v1<=4294967295 by lia);have rO:q<2^64:=by lia
 have Z6:=yW 4294967296 (show r<=4294967295 by lia);have e1:=sS 4294967296 r;rw[show uc 4294967296=AV.int .u64 4294967296 from rfl,yQ (show 4294967296*r<2^64 by lia)] at e1;have e2:=DF (4294967296*r) u2;rw[yQ (show 4294967296*r+u2<2^64 by lia)] at e2;have e4:=DF r v1;rw[yQ (show r+v1<2^64 by lia)] at e4;by_cases hc:4294967296<=q\/4294967296*r+u2<q*v2
 .have ⟨h0,h1,h2,h3⟩:=g1 hc;have e3:binOp .sub (uc q) (.int .u64 1)=GR (uc (q-1)):=F0 (b:=1) (by lia) (by lia);by_cases hb:4294967296<=r+v1
  .right
   have CL:=h3 hb;rcases (show 4294967296<=q\/(¬4294967296<=q/\4294967296*r+u2<q*v2) by lia) with t1 | ⟨t1,t2⟩
   .simp only [go_sem,ya,Dr,show (4294967296:Int)<=(q:Int) by lia,e3,e4,show (4294967296:Int)<=((r+v1:Nat):Int) by lia];exact⟨_,_,rfl,by simp,_,_,rfl,rfl,rfl,rfl,rfl,rfl,rfl,rfl,rfl,by rw[CL];simp only[go_sem,ya]⟩
   .have hqv:=y8 (show q<=4294967295 by lia) (show v2<=4294967295 by lia);have e5:=sS q v2;rw[yQ (show q*v2<2^64 by lia)] at e5;simp only[go_sem,ya,Dr,show ¬(4294967296:Int)<=(q:Int) by lia,e5,e1,e2,show ((4294967296*r+u2:Nat):Int)<((q*v2:Nat):Int) by lia,e3,e4,show (4294967296:Int)<=((r+v1:Nat):Int) by lia];exact⟨_,_,rfl,by simp,_,_,rfl,rfl,rfl,rfl,rfl,rfl,rfl,rfl,rfl,by rw[CL];simp only[go_sem,ya]⟩
  .left
   rcases (show 4294967296<=q\/(¬4294967296<=q/\4294967296*r+u2<q*v2) by lia) with t1 | ⟨t1,t2⟩
   .simp only [go_sem,ya,Dr,show (4294967296:Int)<=(q:Int) by lia,e3,e4,show ¬(4294967296:Int)<=((r+v1:Nat):Int) by lia];exact⟨_,q-1,rfl,by lia,q-1,r+v1,by simp only[go_sem,ya,aq],h1,by lia,h2,rfl⟩
   .have hqv:=y8 (show q<=4294967295 by lia) (show v2<=4294967295 by lia);have e5:=sS q v2;rw[yQ (show q*v2<2^64 by lia)] at e5;simp only[go_sem,ya,Dr,show ¬(4294967296:Int)<=(q:Int) by lia,e5,e1,e2,show ((4294967296*r+u2:Nat):Int)<((q*v2:Nat):Int) by lia,e3,e4,show ¬(4294967296:Int)<=((r+v1:Nat):Int) by lia];exact⟨_,q-1,rfl,by lia,q-1,r+v1,by simp only[go_sem,ya,aq],h1,by lia,h2,rfl⟩
 .right
  have CL:=g2 (by lia) (by lia);have e5:=sS q v2;rw[yQ (show q*v2<2^64 by lia)] at e5;simp only[go_sem,ya,Dr,show ¬(4294967296:Int)<=(q:Int) by lia,e5,e1,e2,show ¬((4294967296*r+u2:Nat):Int)<((q*v2:Nat):Int) by lia];exact⟨_,_,rfl,by simp,_,_,rfl,rfl,rfl,rfl,rfl,rfl,rfl,rfl,rfl,by rw[CL];simp only[go_sem,ya]⟩
end
end
section
variable {P:aE}{L:Lib}{f:cp}
def ax2{y s v1 v2 u z:Nat}(hy:y=v1*4294967296+v2)(de:v2<4294967296)(IV:0<v1)(fJ:v1<4294967296)(hu:u<y)(CK:u2<4294967296):
  cG P L [2,8,9,10,14,15,16,17,18] Ds (fun k st=>∃q r:Nat,st=⟨[(2,uc y),(8,uc s),(9,uc v1),(10,uc v2),(14,uc u2),(15,uc z),(16,uc r),(17,uc u),(18,uc q)],[],0,0⟩/\q*v1+r=u/\r<4294967296/\(u*4294967296+u2)/y<=q/\q=k) (fun ex st'=>∃tm ct,st'=⟨tm,[],ct,0⟩/\ex=.exit 2/\ak tm 2=uc y/\ak tm 8=uc s/\ak tm 9=uc v1/\ak tm 10=uc v2/\ak tm 14=uc u2/\ak tm 15=uc z/\ak tm 17=uc u/\ak tm 18=uc ((u*4294967296+u2)/y)):=by
 apply cI;rintro k st ⟨q,r,rfl,hq,hr,hQ,rfl⟩;have⟨g1,g2⟩:=ab3 hy de IV fJ hu CK hq hr hQ;have hqb:q*1<=q*v1:=yW q IV;have aCp:=yT 4294967296 (show v1<=4294967295 by lia);have rO:q<2^64:=by lia
 have Z6:=yW 4294967296 (show r<=4294967295 by lia);have e1:=sS 4294967296 r;rw[show uc 4294967296=AV.int .u64 4294967296 from rfl,yQ (show 4294967296*r<2^64 by lia)] at e1;have e2:=DF (4294967296*r) u2;rw[yQ (show 4294967296*r+u2<2^64 by lia)] at e2;have e4:=DF r v1;rw[yQ (show r+v1<2^64 by lia)] at e4;by_cases hc:4294967296<=q\/4294967296*r+u2<q*v2
 .have ⟨h0,h1,h2,h3⟩:=g1 hc;have e3:binOp .sub (uc q) (.int .u64 1)=GR (uc (q-1)):=F0 (b:=1) (by lia) (by lia);by_cases hb:4294967296<=r+v1
  .right
   have CL:=h3 hb;rcases (show 4294967296<=q\/(¬4294967296<=q/\4294967296*r+u2<q*v2) by lia) with t1 | ⟨t1,t2⟩
   .simp only [go_sem,ya,Ds,show (4294967296:Int)<=(q:Int) by lia,e3,e4,show (4294967296:Int)<=((r+v1:Nat):Int) by lia];exact⟨_,_,rfl,by simp,_,_,rfl,rfl,rfl,rfl,rfl,rfl,rfl,rfl,rfl,by rw[CL];simp only[go_sem,ya]⟩
   .have hqv:=y8 (show q<=4294967295 by lia) (show v2<=4294967295 by lia);have e5:=sS q v2;rw[yQ (show q*v2<2^64 by lia)] at e5;simp only[go_sem,ya,Ds,show ¬(4294967296:Int)<=(q:Int) by lia,e5,e1,e2,show ((4294967296*r+u2:Nat):Int)<((q*v2:Nat):Int) by lia,e3,e4,show (4294967296:Int)<=((r+v1:Nat):Int) by lia];exact⟨_,_,rfl,by simp,_,_,rfl,rfl,rfl,rfl,rfl,rfl,rfl,rfl,rfl,by rw[CL];simp only[go_sem,ya]⟩
  .left
   rcases (show 4294967296<=q\/(¬4294967296<=q/\4294967296*r+u2<q*v2) by lia) with t1 | ⟨t1,t2⟩
   .simp only [go_sem,ya,Ds,show (4294967296:Int)<=(q:Int) by lia,e3,e4,show ¬(4294967296:Int)<=((r+v1:Nat):Int) by lia];exact⟨_,q-1,rfl,by lia,q-1,r+v1,by simp only[go_sem,ya,aq],h1,by lia,h2,rfl⟩
   .have hqv:=y8 (show q<=4294967295 by lia) (show v2<=4294967295 by lia);have e5:=sS q v2;rw[yQ (show q*v2<2^64 by lia)] at e5;simp only[go_sem,ya,Ds,show ¬(4294967296:Int)<=(q:Int) by lia,e5,e1,e2,show ((4294967296*r+u2:Nat):Int)<((q*v2:Nat):Int) by lia,e3,e4,show ¬(4294967296:Int)<=((r+v1:Nat):Int) by lia];exact⟨_,q-1,rfl,by lia,q-1,r+v1,by simp only[go_sem,ya,aq],h1,by lia,h2,rfl⟩
 .right
  have CL:=g2 (by lia) (by lia);have e5:=sS q v2;rw[yQ (show q*v2<2^64 by lia)] at e5;simp only[go_sem,ya,Ds,show ¬(4294967296:Int)<=(q:Int) by lia,e5,e1,e2,show ¬((4294967296*r+u2:Nat):Int)<((q*v2:Nat):Int) by lia];exact⟨_,_,rfl,by simp,_,_,rfl,rfl,rfl,rfl,rfl,rfl,rfl,rfl,rfl,by rw[CL];simp only[go_sem,ya]⟩
def ahY(a:Nat):binOp .shr (.int .u64 (a:Int)) (.int .u64 32)=GR (uc (a/4294967296)):=MV .u64 a (s:=32) (by decide)
def ajl(a:Nat){b:Nat}(ha:a<2^64)(hb:0<b):binOp .quo (uc a) (uc b)=GR (uc (a/b)):=by
 rw[eP _ _ _ (by lia),xQ (by lia),<-Int.natCast_ediv,wrapM,yQ];exact xL (wU a b) ha
def aCq(a:Nat){b:Nat}(hb:0<b):binOp .rem (uc a) (uc b)=GR (uc (a%b)):=by
 rw[fM _ _ _ (by lia),xK (by lia),<-Int.natCast_emod]
def ap6{hi lo y s u z:Nat}(hs:s<64)(aY:lo<2^64)(hY:Y=y*2^s)(hu:u=hi*2^s+lo/2^(64-s))(hz:z=lo*2^s%2^64):
  (hi*2^64+lo)*2^s=u*2^64+z:=by
 have e:2^64=2^(64-s)*2^s:=by rw[<-xB,show 64-s+s=64 by lia]
 have h1:lo*2^s/2^64=lo/2^(64-s):=by
  rw[e,tW _ _ (xe s)]
 grind
def adv{q b:Nat}(h1:a<Y)(h2:b<4294967296)(h3:q=(a*4294967296+b)/Y):q<4294967296:=by
 rw[h3];exact (xC (by lia)).2 (by lia)
def ar9{u w z z0 z1:Nat}(mL:q1*Y+w=u*4294967296+z1)(fm:q0*Y+x=w*4294967296+z0)(hz:z=z1*4294967296+z0):u*2^64+z=(q1*4294967296+q0)*Y+x:=by grind
def aoC(h1:q1<4294967296)(h0:q0<4294967296):q1*4294967296<2^64/\q1*4294967296+q0<2^64:=by lia
def ajm(h:Has P L 165 Mq)(MW:L.pure 167=GR HP){hi lo y:Nat}(hZ:hi<y)(aY:lo<2^64)(hy:y<2^64):
  ab P L 165 [uc hi,uc lo,uc y] (.av [uc ((hi*2^64+lo)/y),uc ((hi*2^64+lo)%y)]):=by
 have ia:0<y:=by lia
 by_cases h0:hi=0
 .subst h0;have e1:=ajl lo aY ia;have e2:=aCq lo ia;rw[wo,yd];unfold ab;rw[aB h];simp only[go_sem,ya,Mq,show ¬(y:Int)=0 by lia,show ¬(y:Int)<=0 by lia,show ((0:Nat):Int)=0 from rfl,e1,e2];rfl
 .obtain ⟨s,hs⟩:∃s,s=64-dW 64 y:=⟨_,rfl⟩;have hl:=agp (P:=P) (f:=D P L) MW hy;have⟨l1,l2,l3⟩:=VV ia hy;rw[<-hs] at hl l1 l2 l3;obtain⟨Y,hY⟩:∃Y,Y=y*2^s:=⟨_,rfl⟩;obtain⟨u,hu⟩:∃u,u=hi*2^s+lo/2^(64-s):=⟨_,rfl⟩;obtain⟨z,hz⟩:∃z,z=lo*2^s%2^64:=⟨_,rfl⟩;have hdiv:=ap6 l1 aY hY hu hz;rw[<-hY] at l2 l3;have hp:=xe s;obtain⟨v1,fJ⟩:∃v,v=Y/4294967296:=⟨_,rfl⟩;obtain⟨v2,de⟩:∃v,v=Y%4294967296:=⟨_,rfl⟩;have hYv:Y=v1*4294967296+v2:=by lia
  obtain⟨z1,nS⟩:∃v,v=z/4294967296:=⟨_,rfl⟩;obtain⟨z0,gE⟩:∃v,v=z%4294967296:=⟨_,rfl⟩;have IW:z<2^64:=by lia
  have hhY:hi*2^s<Y:=by rw[hY];exact xY hZ hp
  have eF:lo/2^(64-s)<2^s:=by
   refine (xC (xe _)).2 ?_;rw[<-xB,show s+(64-s)=64 by lia];exact aY
  have rH:hi*2^s|||lo/2^(64-s)=u:=by rw[W3 eF,hu]
  have hN:hi*2^64+lo<y*2^64:=by
   have:=yT (2^64) (show hi+1<=y from hZ)
   lia
  have huY:u<Y:=by
   have h1:=xY hN hp;rw[hdiv,Nat.mul_right_comm,<-hY] at h1
   lia
  obtain⟨q1,gN⟩:∃q,q=(u*4294967296+z1)/Y:=⟨_,rfl⟩;obtain⟨w,hw⟩:∃q,q=(u*4294967296+z1)%Y:=⟨_,rfl⟩;obtain⟨q0,oU⟩:∃q,q=(w*4294967296+z0)/Y:=⟨_,rfl⟩;obtain⟨x,hx⟩:∃q,q=(w*4294967296+z0)%Y:=⟨_,rfl⟩;have TR:w<Y:=by rw[hw];exact xq _ (by lia)
  have hxY:x<Y:=by rw[hx];exact xq _ (by lia)
  have mL:=xE (u*4294967296+z1) Y;rw[<-gN,<-hw,xd] at mL;have fm:=xE (w*4294967296+z0) Y;rw[<-oU,<-hx,xd] at fm;have aCr:=adv huY (show z1<4294967296 by lia) gN;have aCs:=adv TR (show z0<4294967296 by lia) oU;have⟨td1,td2⟩:=aoC aCr aCs;have oN:(hi*2^64+lo)*2^s=(q1*4294967296+q0)*Y+x:=by
   rw[hdiv];exact ar9 mL fm (by lia)
  have r1:(hi*2^64+lo)/y=q1*4294967296+q0:=by
   rw[<-tW _ _ hp,oN,<-hY,xd _ Y,tB (by lia),xP hxY,yY]
  have r2:x/2^s=(hi*2^64+lo)%y:=by
   have h1:x=(hi*2^64+lo)*2^s%(y*2^s):=by
    rw[oN,<-hY,xd _ Y,yao,yQ hxY]
   rw[h1,uB,Nat.mul_div_cancel _ hp]
  have o1:=MU .u64 y (s:=s) (by lia);rw[<-hY,yQ l3] at o1;have o2:=ahY Y;rw[<-fJ] at o2;have o3:=ajk Y;rw[<-de] at o3;have o4:=MU .u64 hi (s:=s) (by lia);rw[yQ (show hi*2^s<2^64 by lia)] at o4;have o5:binOp .sub (.int .u64 64) (uc s)=GR (uc (64-s)):=F0 (a:=64) (by lia) (by lia);have o6:=MV .u64 lo (s:=64-s) (by lia);have o7:=TQ (a:=hi*2^s) (b:=lo/2^(64-s)) (by lia) (xL (wU _ _) aY);rw[rH] at o7;have o8:=MU .u64 lo (s:=s) (by lia);rw[<-hz] at o8;have o9:=ahY z;rw[<-nS] at o9;have o10:=ajk z;rw[<-gE] at o10;have Ip:0<v1:=by lia
  have ahZ:∀{a:Nat},a<Y->binOp .quo (uc a) (uc v1)=GR (uc (a/v1))/\binOp .mul (uc (a/v1)) (uc v1)=GR (uc (a/v1*v1))/\binOp .sub (uc a) (uc (a/v1*v1))=GR (uc (a%v1)):=fun {a} ha=>by
   have h1:=xE a v1;rw[xd] at h1;have h2:=sS (a/v1) v1;generalize a/v1*v1=m at*
   rw[yQ (show m<2^64 by lia)] at h2;exact⟨ajl a (by lia) Ip,h2,F0 (by lia) (by lia)⟩
  have⟨g1,g2,g3⟩:=ahZ huY;have⟨g4,g5,g6⟩:=ahZ TR;have first:∀{a b:Nat},b<4294967296->(a*4294967296+b)/Y<=a/v1:=fun {a b} hb=>by
   have:=UF (b:=4294967296) (V:=Y) (v1:=v1) (v2:=v2) (vr:=0) (U:=a*4294967296+b) (u0:=0) (u1:=a) (u2:=b) (ur:=0) (p:=1) (by lia) (by lia) (by decide) hb Ip
   simpa using this
  have back:∀{a b q x:Nat},a*4294967296+b=q*Y+x->x<Y->binOp .mul (uc a) (.int .u64 4294967296)=GR (uc (a*4294967296%2^64))/\binOp .add (uc (a*4294967296%2^64)) (uc b)=GR (uc ((a*4294967296%2^64+b)%2^64))/\
    binOp .mul (uc q) (uc Y)=GR (uc (q*Y%2^64))/\binOp .sub (uc ((a*4294967296%2^64+b)%2^64)) (uc (q*Y%2^64))=GR (uc x):=fun {a b q x} h1 h2=>by
   refine⟨sS a 4294967296,DF _ _,sS q Y,F0 ?_ (by lia)⟩;generalize q*Y=m at*
   lia
  have⟨k1,k2,k3,k4⟩:=back mL.symm TR;have⟨k5,k6,k7,k8⟩:=back fm.symm hxY;have m1:=sS q1 4294967296;rw[yQ td1,show uc 4294967296=AV.int .u64 4294967296 from rfl] at m1;have m2:=DF (q1*4294967296) q0;rw[yQ td2] at m2;have m3:=MV .u64 x (s:=s) (by lia);rw[r1,<-r2];unfold ab;rw[aB h];simp only[go_sem,ya,Mq,show ¬(y:Int)=0 by lia,show ¬(y:Int)<=(hi:Int) by lia,show ¬(hi:Int)=0 by lia,hl,aAK,yQ (show s<2^64 by lia),o1,o2,o3,o4,o5,o6,o7,o8,o9,o10,g1,g2,g3];generalize oW:D P L (.loop _ Dr) _=qq
  obtain⟨ex,st,rfl,tm,ct,rfl,rfl,t2,t8,t9,t10,t11,t13,t14,t15⟩:=bt oW (ax1 (P:=P) (L:=L) (s:=s) (z:=z0) hYv (by lia) Ip (by lia) huY (show z1<4294967296 by lia) (u/v1)) ⟨u/v1,u%v1,by simp only[go_sem,ya,aq],by rw[xd];exact xE u v1,by have:=xq u Ip;lia,first (by lia),rfl⟩
  rw[<-gN] at t15;simp only[go_sem,ya,aq,t2,t8,t9,t10,t11,t13,t14,t15,k1,k2,k3,k4,g4,g5,g6];generalize F1:D P L (.loop _ Ds) _=qq2;obtain⟨ex,st,rfl,rz,ct2,rfl,rfl,t2,t8,t9,t10,t14,t15,t17,t18⟩:=bt F1 (ax2 (P:=P) (L:=L) (s:=s) (z:=q1) hYv (by lia) Ip (by lia) TR (show z0<4294967296 by lia) (w/v1)) ⟨w/v1,w%v1,by simp only[go_sem,ya,aq],by rw[xd];exact xE w v1,by have:=xq w Ip;lia,first (by lia),rfl⟩
  rw[<-oU] at t18;simp only[go_sem,ya,aq,t2,t8,t14,t15,t17,t18,m1,m2,k5,k6,k7,k8,m3];rfl
end
mutual
def below(n:Nat):AV->Prop
 | .ptr id _=>id<n
 | .ay id _ _=>id<n
 | .map id=>id<n
 | .it id=>id<n
 | .fn (.f _) first cap=>lf n first/\lf n cap
 | .fn (.y l) first cap=>l<n/\first=[]/\cap=[]
 | .agg cs=>lf n cs
 | .av cs=>lf n cs
 | _=>True
def lf(n:Nat):List AV->Prop
 | []=>True
 | v::r=>below n v/\lf n r
end
def gS(n:Nat):Env->Prop
 | []=>True
 | (_,v)::r=>below n v/\gS n r
def lH(n:Nat):Obj->Prop
 | .cells _ pu _ _ cs=>pu=ydB\/lf n cs
 | .mp _ ks vs=>lf n ks/\lf n vs
 | .si _ _=>True
 | .lp tm _ _ _ _ _=>gS n tm
def iY(b n:Nat):Hp->Prop
 | []=>True
 | (id,o)::r=>id<b/\lH n o/\iY b n r
mutual
def adw{f:Nat->Option Nat}{n:Nat}(hf:∀x,x<n->f x=GR x):∀{v:AV},below n v->bn f v=v
 | .int _ _,_ | .bool _,_ | .an _ _,_ | .dI _ _ _,_ | .str _,_ | .ll,_ | .bC _,_ | .aj,_ | .au _ _ _,_ | .fQ,_ | .gU,_ | .kj _ _,_ | .undef,_ | .c9 _ _ _ _,_=>rfl
 | .ptr id o,h=>by simp only[bn,hf id h]
 | .ay id o k,h=>by simp only[bn,hf id h]
 | .map id,h=>by simp only[bn,hf id h]
 | .it id,h=>by simp only[bn,hf id h]
 | .fn (.y l) first cap,h=>by
  obtain⟨h1,rfl,rfl⟩:=h;simp only[bn,hf l h1,dA]
 | .fn (.f _) first cap,h=>by
  simp only[bn,C5 hf h.1,C5 hf h.2]
 | .agg cs,h=>by simp only[below] at h;simp only[bn,C5 hf h]
 | .av cs,h=>by simp only[below] at h;simp only[bn,C5 hf h]
def C5{f:Nat->Option Nat}{n:Nat}(hf:∀x,x<n->f x=GR x):∀{vs:List AV},lf n vs->dA f vs=vs
 | [],_=>rfl
 | v::r,h=>by simp only[dA,adw hf h.1,C5 hf h.2]
end
def Kg{f:Nat->Option Nat}{n:Nat}(hf:∀x,x<n->f x=GR x):∀{tm:Env},gS n tm->gj f tm=tm
 | [],_=>rfl
 | (_,v)::r,h=>by simp only[gj,adw hf h.1,Kg hf h.2]
def UW{f:Nat->Option Nat}{n:Nat}(hf:∀x,x<n->f x=GR x):∀{o:Obj},lH n o->dY f o=o
 | .cells _ pu _ _ cs,h=>by
  cases pu with
  | true=>rfl
  | false=>simp only[lH,yD,false_or] at h;simp only[dY,yS,C5 hf h]
 | .mp _ ks vs,h=>by simp only[dY,C5 hf h.1,C5 hf h.2]
 | .si _ _,_=>rfl
 | .lp tm _ _ _ _ _,h=>by simp only[lH] at h;simp only[dY,Kg hf h]
mutual
def acE{n:Nat}:∀{v:AV},below n v->∀x,x∈refs v->x<n
 | .int _ _,_,x,h | .bool _,_,x,h | .an _ _,_,x,h | .dI _ _ _,_,x,h | .str _,_,x,h | .ll,_,x,h | .bC _,_,x,h | .aj,_,x,h | .au _ _ _,_,x,h | .fQ,_,x,h | .gU,_,x,h | .kj _ _,_,x,h | .undef,_,x,h | .c9 _ _ _ _,_,x,h=>by simp[refs] at h
 | .ptr id o,h,x,hx=>by simp only[refs,vT] at hx;subst hx;exact h
 | .ay id o k,h,x,hx=>by simp only[refs,vT] at hx;subst hx;exact h
 | .map id,h,x,hx=>by simp only[refs,vT] at hx;subst hx;exact h
 | .it id,h,x,hx=>by simp only[refs,vT] at hx;subst hx;exact h
 | .fn (.y l) first cap,h,x,hx=>by simp only[refs,vT] at hx;subst hx;exact h.1
 | .fn (.f _) first cap,h,x,hx=>by
  simp only[refs,wD] at hx;exact hx.elim (CZ h.1 x) (CZ h.2 x)
 | .agg cs,h,x,hx=>by simp only[below] at h;simp only[refs] at hx;exact CZ h x hx
 | .av cs,h,x,hx=>by simp only[below] at h;simp only[refs] at hx;exact CZ h x hx
def CZ{n:Nat}:∀{vs:List AV},lf n vs->∀x,x∈fY vs->x<n
 | [],_,x,h=>by simp[fY] at h
 | v::r,h,x,hx=>by
  simp only[fY,wD] at hx;exact hx.elim (acE h.1 x) (CZ h.2 x)
end
def OS{n:Nat}:∀{tm:Env},gS n tm->∀x,x∈dw tm->x<n
 | [],_,x,h=>by simp[dw] at h
 | (_,v)::r,h,x,hx=>by
  simp only[dw,wD] at hx;exact hx.elim (acE h.1 x) (OS h.2 x)
def anX{n:Nat}:∀{o:Obj},lH n o->∀x,x∈dz o->x<n
 | .cells _ pu _ _ cs,h,x,hx=>by
  cases pu with
  | true=>simp[dz] at hx
  | false=>simp only[lH,yD,false_or] at h;exact CZ h x hx
 | .mp _ ks vs,h,x,hx=>by
  simp only[dz,wD] at hx;exact hx.elim (CZ h.1 x) (CZ h.2 x)
 | .si _ _,_,x,hx=>by simp[dz] at hx
 | .lp tm _ _ _ _ _,h,x,hx=>by simp only[lH] at h;exact OS h x hx
def ij(B:Nat):List (List AV)->Hp
 | []=>[]
 | cs::r=>(B+r.length,.cells ydB ydB ydB 1 cs)::ij B r
def FE(B:Nat):List (List AV)->Hp->Hp
 | [],acc=>acc
 | cs::r,acc=>FE (B+1) r ((B,.cells ydB ydB ydB 1 cs)::acc)
def acF:∀(l:List (List AV)) (B:Nat) (x:List AV) (acc:Hp),FE B (l++[x]) acc=(B+l.length,.cells ydB ydB ydB 1 x)::FE B l acc
 | [],B,x,acc=>rfl
 | c::l,B,x,acc=>by
  simp only[yI,FE,acF l,yH]
  grind
def Vp(B:Nat)(acc:Hp):∀rs:List (List AV),FE B rs.reverse acc=ij B rs++acc
 | []=>rfl
 | c::r=>by
  simp only[ybG,acF,Vp B acc r,ybu,ij,yI]
def Vq{B:Nat}{old:Hp}:∀{rs:List (List AV)} {i:Nat} (h:i<rs.length),ah (ij B rs++old) (B+i)=GR (.cells ydB ydB ydB 1 (rs.reverse[i]'(by simpa using h)))
 | c::r,i,h=>by
  simp only[ij,yI,ybG];by_cases hi:i=r.length
  .subst hi;rw[ah,wL,yx]
   simp
  .have aG:i<r.length:=by grind
   rw[ah,iB (by lia),yS,Vq aG]
   grind
def pK{b:Nat}(h:a<b):yP a b=ydB:=by simp_all
def zR{b:Nat}(h:b<=a):yP a b=ydC:=by
 cases hq:yP a b with
 | false=>rfl
 | true=>have:=yA hq;lia
def J6{B:Nat}{old:Hp}:∀rs:List (List AV),cE B (ij B rs++old)=cE B old
 | []=>rfl
 | c::r=>by
  simp only[ij,yI];rw[cE,zR (by lia),yS,J6 r]
def UX{B:Nat}{old:Hp}{f:Nat->Option Nat}:∀rs:List (List AV),fZ B f (ij B rs++old)=fZ B f old
 | []=>rfl
 | c::r=>by
  simp only[ij,yI];rw[fZ,zR (by lia),yS,UX r]
def UG{B n:Nat}{f:Nat->Option Nat}(hf:∀x,x<n->f x=GR x):∀{old:Hp},iY B n old->fZ B f old=old
 | [],_=>rfl
 | (id,o)::r,h=>by
  rw[fZ,pK h.1,yx,UW hf h.2.1,UG hf h.2.2]
def aoD{s:Nat}(h:B+s<=x):jt x (xT B s)=ydC:=by
 induction s generalizing B with
 | zero=>rfl
 | succ s ih=>rw[vX,jt,iB (by lia),yS,ih (by lia)]
def Pa{hp:Hp}{B R:Nat}(my:∀i,i<R->∃rw ex sz cs,ah hp (B+i)=GR (.cells rw ydB ex sz cs)):
  ∀(W:List Nat) (bw s:Nat),W.length<bw->s<=R->W.filter (fun x=> !yP x B)=xT (B+s) (R-s)->reach hp B bw W (xT B s)=xT B R
 | [],0,s,hf,_,_=>by simp at hf
 | [],bw+1,s,hf,hs,h=>by
  have:R-s=0:=by
   grind
  rw[reach,show R=s by lia]
 | id::W,0,s,hf,_,_=>by simp at hf
 | id::W,bw+1,s,hf,hs,h=>by
  have D8:W.length<bw:=by simp_all
  rw[reach];by_cases hid:id<B
  .rw [pK hid,Bool.true_or,yx];rw[ybT,pK hid] at h;exact Pa my W bw s D8 hs (by simpa using h)
  .rw [ybT,zR (by lia)] at h;have hRs:R-s=(R-s-1)+1:=by
    have:=congrArg uy h
    grind
   rw[hRs,vX] at h;injection h with h1 h2
   subst h1;rw[zR (by lia),vI,aoD (yz _),yS];have⟨rw,ex,sz,cs,ho⟩:=my s (by lia);simp only[ho,dz,yx,yN];have e:xT B s++[B+s]=xT B (s+1):=by rw[List.range'_concat];simp
   rw[e];exact Pa my W bw (s+1) D8 (by lia) (by rw[h2,show R-s-1=R-(s+1) by lia,show B+s+1=B+(s+1) by lia])
def acG{s i k:Nat}(h:i<s):gV (B+i) (xT B s) k=GR (k+i):=by
 induction s generalizing B i k with
 | zero=>lia
 | succ s ih=>
  rw[vX,gV];by_cases hi:i=0
  .simp_all
  .rw [iB (by lia),yS]
   have:=ih (B:=B+1) (i:=i-1) (k:=k+1) (by lia)
   grind
def ab4{R:Nat}(h:x<B+R):iZ B (xT B R) x=GR x:=by
 unfold iZ;by_cases hx:x<B
 .rw [pK hx,yx]
 .rw [zR (by lia),yS]
  have:=acG (B:=B) (s:=R) (i:=x-B) (k:=B) (by lia)
  grind
def UY{hp:Hp}{f:Nat->Option Nat}:∀(ro:List (List AV)) (B:Nat) (acc:Hp),(∀i (h:i<ro.length),ah hp (B+i)=GR (.cells ydB ydB ydB 1 ro[i]))->ep hp f (xT B ro.length) B acc=FE B ro acc
 | [],B,acc,_=>rfl
 | c::r,B,acc,h=>by
  have h0:=h 0 (by simp);simp only[yY,List.getElem_cons_zero] at h0;rw[yH,vX,ep];simp only[h0,dY,yx,FE]
  exact UY r (B+1) _ (fun i hi=>by
   have:=h (i+1) (by simpa using hi)
   rw[show B+1+i=B+(i+1) by lia,this]
   simp)
def anr{rs:List (List AV)}(ht:gS B (bF tm live))(ho:iY B (B+rs.length) old)(hl:(dw (bF tm live)).length+(cE B old).length<100000)(hr:(cE B old).filter (fun x=> !yP x B)=xT B rs.length):bH live ⟨tm,ij B rs++old,ct,B⟩=⟨bF tm live,ij B rs++old,B+rs.length,B⟩:=by
 have my:∀i (h:i<rs.length),ah (ij B rs++old) (B+i)=GR (.cells ydB ydB ydB 1 (rs.reverse[i]'(by simpa using h))):=fun i h=>Vq h
 have QI:reach (ij B rs++old) B 100000 (dw (bF tm live)++cE B (ij B rs++old)) []=xT B rs.length:=by
  have:=Pa (hp:=ij B rs++old) (B:=B) (R:=rs.length) (fun i hi=>⟨_,_,_,_,my i hi⟩) (dw (bF tm live)++cE B (ij B rs++old)) 100000 0 (by rw[J6,yO];exact hl) (tL _) (by
   rw[List.filter_append,J6,hr,yaf.2 (fun x hx=>by
    have:=OS ht x hx
    simp[pK this])]
   simp)
  grind
 have hid:∀x,x<B+rs.length->iZ B (xT B rs.length) x=GR x:=fun x hx=>ab4 hx
 have hn:=UY (hp:=ij B rs++old) (f:=iZ B (xT B rs.length)) rs.reverse B old (fun i hi=>my i (by simpa using hi));rw[ybu] at hn;simp only[bH,QI,UX,UG hid ho,hn,Vp,List.length_range']
 rw[Kg (n:=B) (fun x hx=>hid x (by lia)) ht]
def EP{B b n:Nat}(hb:b<=B):∀{H:Hp},iY b n H->∀x,x∈cE B H->x<n
 | [],_,x,hx=>by simp[cE] at hx
 | (id,o)::r,h,x,hx=>by
  rw[cE,pK (by have:=h.1;lia),yx,wD] at hx
  exact hx.elim (anX h.2.1 x) (EP hb h.2.2 x)
def OT(ht:gS B (bF tm live))(ho:iY B B old)(hl:(dw (bF tm live)).length+(cE B old).length<100000):
  bH live ⟨tm,old,ct,B⟩=⟨bF tm live,old,B,B⟩:=by
 have:=anr (rs:=[]) (ct:=ct) ht (by simpa using ho) hl (by
  rw[yaf.2 (fun x hx=>by have:=EP (yz B) ho x hx;simp[pK this])]
  rfl)
 simpa[ij] using this
section
variable {hp:Hp}{ps:List Nat}{ct:Nat}
def KN{n:Nat}{F:aw}(h:Has P L n F){ex:Ex}{s:St}(hD:D P L F.body ⟨fw 0 ax,hp,ct,ct⟩=GR (ex,s))(he:ex=.normal\/ex=.ret)(hr:jU s F.dC=GR v):
  jZ P L (D P L) hp ct n ax=GR (v,s.hp,s.ct):=by
 simp only[jZ,h.heap,h.code,hD]
 grind
def aet{l:Nat}{xs:List AV}{tm' jC rz:Env}{Bj Cz:List Nat}{a b a1 b1 a2 b2:VC}{pe ze pe2:A0}{s1 s2:St}(h1:ah hp l=GR (.lp tm ps a b 0 pe))(h2:zQ tm ps xs=GR tm')(h3:D P L a ⟨tm',hp,ct,ct⟩=GR (.normal,s1))(h4:ah s1.hp l=GR (.lp jC Bj a1 b1 0 ze))(h5:D P L b ⟨s1.tm,aJ s1.hp l (.lp jC Bj a1 b1 1 ze),s1.ct,s1.ct⟩=GR (.normal,s2))(h6:ah s2.hp l=GR (.lp rz Cz a2 b2 1 pe2)):
  kG (D P L) hp ct l xs=GR (.bool ydB,aJ s2.hp l (.lp rz Cz a2 b2 0 .none),s2.ct):=by
 simp only[kG,h1,h2,h3,h4,h5,h6]
def ah0{f:X}{as_ body:VC}{s:St}{n:Nat}{first cap:List AV}{ps':List Nat}{a b:VC}{st:Nat}(h1:az s.tm f=.fn (.f n) first cap)(h2:L.heap n=GS)(h3:jZ P L (D P L) ((s.ct,.lp s.tm ps as_ body 0 .none)::s.hp) (s.ct+1) n (first++(.fn (.y s.ct) [] []::cap))=GR (v,hp,ct))(h4:ah hp s.ct=GR (.lp tm ps' a b st .none))(h5:st≠1):D P L (.rf f ps as_ body) s=GR (.normal,⟨s.tm,cS hp s.ct,ct,s.base⟩):=by
 rw[mw];simp only[bI,h1,h2,h3,h4,iB h5,yS]
def aeu(z:AV):∀n,(yj n [z]).flatten=yj n z
 | 0=>rfl
 | n+1=>by rw[wG,List.flatten_cons,aeu z n,wG];rfl
def OU{b b' n n':Nat}(hb:b<=b')(hn:∀o,lH n o->lH n' o):∀{H:Hp},iY b n H->iY b' n' H
 | [],_=>trivial
 | (id,o)::r,h=>⟨yF h.1 hb,hn o h.2.1,OU hb hn h.2.2⟩
mutual
def acH{n n':Nat}(h:n<=n'):∀{v:AV},below n v->below n' v
 | .int _ _,_ | .bool _,_ | .an _ _,_ | .dI _ _ _,_ | .str _,_ | .ll,_ | .bC _,_ | .aj,_ | .au _ _ _,_ | .fQ,_ | .gU,_ | .kj _ _,_ | .undef,_ | .c9 _ _ _ _,_=>trivial
 | .ptr _ _,k=>yF k h
 | .ay _ _ _,k=>yF k h
 | .map _,k=>yF k h
 | .it _,k=>yF k h
 | .fn (.f _) _ _,k=>⟨C0 h k.1,C0 h k.2⟩
 | .fn (.y _) _ _,k=>⟨yF k.1 h,k.2⟩
 | .agg cs,k=>by simp only[below] at k ⊢;exact C0 h k
 | .av cs,k=>by simp only[below] at k ⊢;exact C0 h k
def C0{n n':Nat}(h:n<=n'):∀{vs:List AV},lf n vs->lf n' vs
 | [],_=>trivial
 | _::_,k=>⟨acH h k.1,C0 h k.2⟩
end
def C1{n n':Nat}(h:n<=n'):∀{tm:Env},gS n tm->gS n' tm
 | [],_=>trivial
 | (_,_)::_,k=>⟨acH h k.1,C1 h k.2⟩
def UH{n n':Nat}(h:n<=n'):∀{o:Obj},lH n o->lH n' o
 | .cells _ pu _ _ cs,k=>k.imp id (C0 h)
 | .mp _ ks vs,k=>⟨C0 h k.1,C0 h k.2⟩
 | .si _ _,_=>trivial
 | .lp tm _ _ _ _ _,k=>by simp only[lH] at k ⊢;exact C1 h k
mutual
def zE{n:Nat}:∀{v:AV},aX v=ydB->below n v
 | .int _ _,_ | .bool _,_ | .an _ _,_ | .dI _ _ _,_ | .str _,_ | .ll,_ | .bC _,_ | .aj,_ | .au _ _ _,_ | .fQ,_ | .gU,_ | .kj _ _,_ | .undef,_=>trivial
 | .c9 _ _ _ _,_=>trivial
 | .ptr _ _,h | .ay _ _ _,h | .map _,h | .it _,h=>by simp[aX] at h
 | .fn (.y _) _ _,h=>by simp[aX] at h
 | .fn (.f _) _ _,h=>by
  simp only[aX,yf] at h;exact⟨C2 h.1,C2 h.2⟩
 | .agg cs,h=>by simp only[aX] at h;simp only[below];exact C2 h
 | .av cs,h=>by simp only[aX] at h;simp only[below];exact C2 h
def C2{n:Nat}:∀{vs:List AV},aF vs=ydB->lf n vs
 | [],_=>trivial
 | _::_,h=>by
  simp only[aF,yf] at h;exact⟨zE h.1,C2 h.2⟩
end
end
section
variable {pre x post:List Nat}{i:Nat}
def sn:(pre++x++post).length=pre.length+x.length+post.length:=by grind
def E4(h:i<x.length):(pre++x++post).getD (pre.length+i) 0=x.getD i 0:=by grind
def P6(a:Nat)(h:i<x.length):(pre++x++post).set (pre.length+i) a=pre++x.set i a++post:=by simp_all
end
def ow(n:Nat)(k:xg)(a:Int):below n (.int k a)=True:=rfl
def pL(n id o k:Nat):below n (.ay id o k)=(id<n):=rfl
def od(n:Nat):gS n []=True:=rfl
def n9(n i:Nat)(v:AV)(r:Env):gS n ((i,v)::r)=(below n v/\gS n r):=rfl
def zK{a b:List AV}(ht:gS 2 (bF tm live))(hl:(dw (bF tm live)).length<100000):
  bH live ⟨tm,[(1,.cells ydB ydB ydB 1 a),(0,.cells ydB ydB ydB 1 b)],ct,2⟩=⟨bF tm live,[(1,.cells ydB ydB ydB 1 a),(0,.cells ydB ydB ydB 1 b)],2,2⟩:=
 OT ht ⟨by lia,.inl rfl,by lia,.inl rfl,trivial⟩ (by
  have:cE 2 [(1,Obj.cells ydB ydB ydB 1 a),(0,Obj.cells ydB ydB ydB 1 b)]=[]:=rfl
  rw[this,yR,yY];exact hl)
def aoE{s c:Nat}(hs:s<64)(hx:x<2^64)(hc:c<2^s):
  c|||(x*2^s%2^64)<2^64/\c<2^64/\x/2^(64-s)<2^s/\(c|||(x*2^s%2^64))+2^64*(x/2^(64-s))=x*2^s+c:=by
 have e:2^64=2^(64-s)*2^s:=by rw[<-xB,show 64-s+s=64 by lia]
 have h1:x*2^s%2^64=(x%2^(64-s))*2^s:=by rw[e,uB]
 have h2:x/2^(64-s)<2^s:=by
  refine (xC (xe _)).2 ?_
  grind
 have h3:c|||(x*2^s%2^64)=(x%2^(64-s))*2^s+c:=by rw[h1,ydj,W3 hc]
 have h4:(x%2^(64-s))*2^s+c<2^64:=by
  have:=yT (2^s) (show x%2^(64-s)+1<=2^(64-s) from xq _ (xe _))
  grind
 have h5:=uz x (2^(64-s))
 grind
def ax3{w:List Nat}(hv:bT v w)(hw:lo (2^64) w)(lw:w.length<=99999999999){s n:Nat}(hs:s<64)(hn:n=w.length+1):
  cG P L [1,5,12,13,14] Ho (fun k st=>∃(i:Nat) (out:List Nat),st=⟨[(1,aa s),(5,.ay 0 0 n),(12,v),(13,aa w.length),(14,aa i)],[(0,.cells ydB ydB ydB 1 (out.map uc))],1,0⟩/\i+k=w.length/\out.length=n/\lo (2^64) out/\bv (2^64) out=bv (2^64) (w.take i)*2^s/\out.getD i 0<2^s/\(∀m,i<m->out.getD m 0=0)) (fun ex st'=>∃tm out,st'=⟨tm,[(0,.cells ydB ydB ydB 1 (out.map uc))],1,0⟩/\ex=.exit 0/\ak tm 5=.ay 0 0 n/\out.length=n/\lo (2^64) out/\bv (2^64) out=bv (2^64) w*2^s):=by
 apply cI;rintro k st ⟨i,out,rfl,hk,hlen,aY,aM,hc,hZ⟩;by_cases hi:i<w.length
 .left
  have gx:=iW (show 0<2^64 by decide) hw i;have ex:=hv.bk hi;have ec:=B8 (l:=out) (o:=i) (by lia);have aJ:=qO (b:=2^64) (l:=out) (i:=i) (x:=out.getD i 0|||(w.getD i 0*2^s%2^64)) (by lia);have hz:out.getD (i+1) 0=0:=hZ _ (by lia);have eU:=kH (b:=2^64) (l:=w) i;generalize out.getD i 0=c at*
  generalize w.getD i 0=x at*
  have⟨s1,s2,s3,s4⟩:=aoE hs gx hc;have o1:=MU .i64 x (s:=s) (by lia);have o2:=TQ s2 (xq (x*2^s) (by decide));have o3:binOp .sub (.int .i64 64) (aa s)=GR (aa (64-s:Nat)):=by
   rw[P1,wrap64 (by lia) (by lia)];congr 2;lia
  have o4:=MV .i64 x (s:=64-s) (by lia);generalize iN:c|||(x*2^s%2^64)=c' at*
  by_cases h0:0<s
  .have Q2:=qO (b:=2^64) (l:=out.set i c') (i:=i+1) (x:=x/2^(64-s)) (by simp;lia)
   rw[sj (by lia),hz,xF,yY] at Q2;have aCt:x/2^(64-s)<2^64:=xL (wU _ _) gx;generalize x/2^(64-s)=y at*
   simp only[go_sem,ya,yg,Ho,show (i:Int)<w.length by lia,ex,dd 0 0 (show i<n by lia),yd,ec,o1,o2,mK (l:=out) (o:=i) (by lia),show (0:Int)<(s:Int) by lia,show (i:Int)+1=((i+1:Nat):Int) from rfl,wrapN (n:=i+1) (by lia),o3,o4,dd 0 0 (show i+1<n by lia),mK (l:=out.set i c') (o:=i+1) (by simp;lia)]
   refine⟨_,k-1,rfl,by lia,i+1,(out.set i c').set (i+1) y,by simp only[go_sem,ya,yb,aq,aD hv.pu]<;>rfl,by lia,by simp[hlen],ot (ot aY s1) aCt,?_,by rw[aom (by simp;lia)];exact s3,fun m hm=>by rw[sj (by lia),sj (by lia)];exact hZ m (by lia)⟩
   rw[eU,xS,Q2,<-aM,A6,xf,xf ((2^64)^i)];have e:=congrArg (fun t=>(2^64)^i*t) s4;simp only[xH] at e;generalize (2^64)^i*(2^64*y)=p1 at*
   generalize (2^64)^i*(x*2^s)=p2 at*
   generalize (2^64)^i*c'=p3 at*
   lia
  .have Ag:s=0:=by lia
   subst Ag;have ma:c=0:=by simpa using hc
   have jk:x/2^(64-0)=0:=xP gx;rw[jk,xF,yY,vV,yg] at s4
   simp only[go_sem,ya,yg,Ho,show (i:Int)<w.length by lia,ex,dd 0 0 (show i<n by lia),yd,ec,o1,o2,mK (l:=out) (o:=i) (by lia),show ¬(0:Int)<((0:Nat):Int) by lia,show (i:Int)+1=((i+1:Nat):Int) from rfl,wrapN (n:=i+1) (by lia)];refine⟨_,k-1,rfl,by lia,i+1,out.set i c',by simp only[go_sem,ya,yb,aq,aD hv.pu]<;>rfl,by lia,by simp[hlen],ot aY s1,?_,by rw[sj (by lia),hz];exact xe _,fun m hm=>by rw[sj (by lia)];exact hZ m (by lia)⟩
   rw[vV,yg] at aM ⊢;rw[eU,<-aM];rw[ma,xF,yY] at aJ;rw[aJ,s4,ma,yY]
 .right
  have:i=w.length:=by lia
  subst this;rw[xR] at aM;simp only[go_sem,ya,Ho,show ¬(w.length:Int)<w.length by lia];exact⟨_,_,rfl,by simp,_,out,rfl,rfl,rfl,hlen,aY,aM⟩
def ajn(h:Has P L 168 RH){w:List Nat}(hv:bT v w)(hw:lo (2^64) w)(lw:w.length<=99999999999){s:Nat}(hs:s<64):
  ∃out,ab P L 168 [v,aa s] (.c9 ydB 1 (w.length+1) (out.map uc))/\out.length=w.length+1/\lo (2^64) out/\bv (2^64) out=bv (2^64) w*2^s:=by
 obtain⟨n,hn⟩:∃n,n=w.length+1:=⟨_,rfl⟩;unfold ab;rw[aB h]
 simp only[go_sem,ya,yb,RH,hv.len,wrapN (n:=n) (by lia),show (w.length:Int)+1=((w.length+1:Nat):Int) from rfl,<-hn,FZ (n:=n) _ (by lia)];generalize hq:D P L (.loop _ Ho) _=q;obtain⟨ex,st,rfl,tm,o,rfl,rfl,t5,hlen,aY,aM⟩:=bt hq (ax3 (P:=P) (L:=L) hv hw lw hs hn w.length)
  ⟨0,yj n 0,by simp only[go_sem,ya,yb,aq,aD hv.pu]<;>rfl,by lia,by simp,HH (by decide) n,by rw[HI];simp[bv],by rw[E2];exact xe _,fun m _=>E2 n m⟩
 refine⟨o,?_,hlen,aY,aM⟩;simp only[go_sem,yb,aq,t5];exact acA (jW _ _ _) (by simp[hlen]) (by decide)
abbrev H2(a b:List Nat):Hp:=[(1,.cells ydB ydB ydB 1 (a.map uc)),(0,.cells ydB ydB ydB 1 (b.map uc))]
structure jw(x vs:List Nat)(n v1 v2 u0 u1 u2:Nat):Prop where
 n2:2<=n
 nb:n<=99999999999
 lx:x.length=n+1
 lv:vs.length=n
 gx:lo (2^64) x
 gv:lo (2^64) vs
 fJ:vs.getD (n-1) 0=v1
 de:vs.getD (n-2) 0=v2
 h0:x.getD n 0=u0
 h1:x.getD (n-1) 0=u1
 h2:x.getD (n-2) 0=u2
 pos:0<v1
 lt:bv (2^64) x<2^64*bv (2^64) vs
def aAL(b p a v1 v2:Nat):a+p*v2+p*b*v1=(v1*b+v2)*p+a:=by grind
def aAM(b p a v0 v1 v2:Nat):a+p*v2+p*b*v1+p*b*b*v0=((v0*b+v1)*b+v2)*p+a:=by grind
section
variable {x vs:List Nat}{n v1 v2 u0 u1 u2:Nat}
def jw.NY(h:jw x vs n v1 v2 u0 u1 u2):v1<2^64:=h.fJ▸iW (by decide) h.gv _
def jw.Gw(h:jw x vs n v1 v2 u0 u1 u2):v2<2^64:=h.de▸iW (by decide) h.gv _
def jw.NZ(h:jw x vs n v1 v2 u0 u1 u2):u1<2^64:=h.h1▸iW (by decide) h.gx _
def jw.N1(h:jw x vs n v1 v2 u0 u1 u2):u2<2^64:=h.h2▸iW (by decide) h.gx _
def jw.parts(h:jw x vs n v1 v2 u0 u1 u2):∃p vr ur,bv (2^64) vs=(v1*2^64+v2)*p+vr/\vr<p/\bv (2^64) x=((u0*2^64+u1)*2^64+u2)*p+ur/\ur<p:=by
 obtain⟨m,hm⟩:∃m,n=m+2:=⟨n-2,by have:=h.n2;lia⟩
 subst hm;have e1:=kH (b:=2^64) (l:=vs) (m+1);have e2:=kH (b:=2^64) (l:=vs) m;have f0:=kH (b:=2^64) (l:=x) (m+2);have f1:=kH (b:=2^64) (l:=x) (m+1);have f2:=kH (b:=2^64) (l:=x) m;have fJ:vs.getD (m+1) 0=v1:=h.fJ;have de:vs.getD m 0=v2:=h.de;have h0:x.getD (m+2) 0=u0:=h.h0;have h1:x.getD (m+1) 0=u1:=h.h1;have h2:x.getD m 0=u2:=h.h2
 rw[yK (by have:=h.lv;lia),fJ,e2,de] at e1
 rw[yK (by have:=h.lx;lia),h0,f1,h1,f2,h2] at f0
 have g1:=nH (BS h.gv m)
 rw[yU,xo (by have:=h.lv;lia)] at g1
 have g2:=nH (BS h.gx m)
 rw[yU,xo (by have:=h.lx;lia)] at g2
 refine⟨(2^64)^m,_,_,?_,g1,?_,g2⟩
 .grind
 .grind
def jw.down(h:jw x vs n v1 v2 u0 u1 u2){t r:Nat}(ht:t*v1+r=u0*2^64+u1)(hr:r*2^64+u2<t*v2):bv (2^64) x/bv (2^64) vs<=t-1:=by
 have⟨p,vr,ur,h1,h2,h3,h4⟩:=h.parts;exact acx h1 h3 h4 ht hr
def jw.stop(h:jw x vs n v1 v2 u0 u1 u2){t r:Nat}(mJ:t<2^64)(ht:t*v1+r=u0*2^64+u1)(hr:2^64<=r\/t*v2<=r*2^64+u2):t<=bv (2^64) x/bv (2^64) vs+1:=by
 have⟨p,vr,ur,h1,h2,h3,h4⟩:=h.parts;exact ado (by decide) h1 h2 h3 h.pos h.Gw mJ ht hr
def jw.first(h:jw x vs n v1 v2 u0 u1 u2):bv (2^64) x/bv (2^64) vs<=(u0*2^64+u1)/v1:=by
 have⟨p,vr,ur,h1,h2,h3,h4⟩:=h.parts;exact UF h1 h3 h4 h.N1 h.pos
def jw.top(h:jw x vs n v1 v2 u0 u1 u2):u0<=v1:=by
 have⟨p,vr,ur,h1,h2,h3,h4⟩:=h.parts;exact adp h1 h3 h2 h.Gw h.lt
def jw.digit(h:jw x vs n v1 v2 u0 u1 u2):bv (2^64) x/bv (2^64) vs<2^64:=by
 refine (xC ?_).2 h.lt;rcases xi (bv (2^64) vs) with h0 | h0
 .have:=h.lt;rw[h0] at this;simp at this
 .exact h0
end
def agr(oM:L.pure 143=GR AL)(jd:L.pure 171=GR qK){w:AV}{x qs:List Nat}(hw:bT w vs){n v1 v2:Nat}(hl:jw x vs n v1 v2 u0 u1 u2):
  cG P L [0,1,5,6,7,8] BX (fun k s=>∃q r:Nat,s=⟨[(0,.ay 0 pre.length (n+1)),(1,w),(5,aa n),(6,uc q),(7,uc (r%2^64)),(8,uc (r/2^64))],H2 qs (pre++x++post),2,2⟩/\q*v1+r=u0*2^64+u1/\r<2*2^64/\q<2^64/\bv (2^64) x/bv (2^64) vs<=q/\q=k) (fun ex s'=>∃tm q,s'=⟨tm,H2 qs (pre++x++post),2,2⟩/\ex=.exit 0/\ak tm 0=.ay 0 pre.length (n+1)/\ak tm 1=w/\ak tm 5=aa n/\ak tm 6=uc q/\q<2^64/\bv (2^64) x/bv (2^64) vs<=q/\q<=bv (2^64) x/bv (2^64) vs+1):=by
 apply cI;rintro k s ⟨q,r,rfl,hq,hr,rO,hQ,rfl⟩;have et:=hl.n2;have Bs:=hl.nb;by_cases lA:r<2^64
 .have IX:r%2^64=r:=yQ lA;have El:r/2^64=0:=xP lA;rw[IX,El];have Iq:=hl.NY;have YS:=hl.Gw;have ajo:=hl.N1;have zn:=hw.bk (i:=n-2) (by have:=hl.lv;lia)
  have fK:=hw.bk (i:=n-1) (by have:=hl.lv;lia)
  rw[hl.de] at zn;rw[hl.fJ] at fK;have Bx:=B8 (l:=pre++x++post) (o:=pre.length+(n-2)) (by rw[sn];have:=hl.lx;lia)
  rw[E4 (by have:=hl.lx;lia),hl.h2] at Bx
  have f1:=Qt (P:=P) (f:=D P L) oM rO YS;have f2:=Fp (P:=P) (f:=D P L) jd (x:=r) (y:=v1) (c:=0) lA Iq (by lia);rw[show (uc 0)=AV.int .u64 0 from rfl] at f2;have eJ:=xE (q*v2) (2^64);have aY:=xq (q*v2) (show 0<2^64 by decide);obtain⟨H,hH⟩:∃H,H=q*v2/2^64:=⟨_,rfl⟩;obtain⟨G,hG⟩:∃G,G=q*v2%2^64:=⟨_,rfl⟩;rw[<-hH,<-hG] at f1 eJ;rw[<-hG] at aY;have CM:(n:Int)-2=((n-2:Nat):Int):=by lia
  have zo:(n:Int)-1=((n-1:Nat):Int):=by lia
  by_cases c1:H<r
  .right
   simp only[go_sem,ya,BX,H2,show ((0:Nat):Int)=0 from rfl,CM,wrapN (n:=n-2) (by lia),zn,f1,show (H:Int)<(r:Int) by lia];exact⟨_,_,rfl,by simp,_,q,rfl,rfl,rfl,rfl,rfl,rfl,rO,hQ,hl.stop rO hq (.inr (by lia))⟩
  .by_cases c2:H=r/\G<=u2
   .right
    have⟨c2,c3⟩:=c2
    simp only[go_sem,ya,BX,H2,show ((0:Nat):Int)=0 from rfl,CM,wrapN (n:=n-2) (by lia),zn,f1,show (H:Int)=(r:Int) by lia];simp only[show ¬(r:Int)<(r:Int) by lia,yt]
    simp only[go_sem,ya,yg,CM,wrapN (n:=n-2) (by lia),dd 0 pre.length (show n-2<n+1 by lia),Bx,show (G:Int)<=(u2:Int) by lia];exact⟨_,_,rfl,by simp,_,q,rfl,rfl,rfl,rfl,rfl,rfl,rO,hQ,hl.stop rO hq (.inr (by lia))⟩
   .left
    have Ef:r*2^64+u2<q*v2:=by lia
    have oU:0<q:=by
     rcases xi q with h0 | h0
     .subst h0;lia
     .exact h0
    have e3:binOp .sub (uc q) (.int .u64 1)=GR (uc (q-1)):=F0 (b:=1) (by lia) (by lia);have h1:(q-1)*v1+(r+v1)=u0*2^64+u1:=by
     obtain⟨p,rfl⟩:∃p,q=p+1:=⟨q-1,by lia⟩;rw[xS,tM] at hq;rw[tg];lia
    have CN:=hl.down hq Ef;rw[yY] at f2;by_cases c3:H=r
    .have c4:¬G<=u2:=fun h=>c2 ⟨c3,h⟩
     subst c3
     simp only[go_sem,ya,xy,yg,BX,H2,show ((0:Nat):Int)=0 from rfl,CM,zo,wrapN (n:=n-2) (by lia),wrapN (n:=n-1) (by lia),zn,fK,f1,f2,show ¬(H:Int)<(H:Int) by lia,dd 0 pre.length (show n-2<n+1 by lia),Bx,show ¬(G:Int)<=(u2:Int) by lia,e3];refine⟨_,q-1,rfl,by lia,q-1,H+v1,?_,h1,by lia,by lia,CN,rfl⟩;rw[zK (by simp only[go_sem,ya,yv,ow,pL,od,n9,zE hw.pu,vN]) (by simp only[go_sem,ya,yb,yv,mQ hw.pu])];simp only[go_sem,ya]
    .simp only [go_sem,ya,xy,BX,H2,show ((0:Nat):Int)=0 from rfl,CM,zo,wrapN (n:=n-2) (by lia),wrapN (n:=n-1) (by lia),zn,fK,f1,f2,show ¬(H:Int)<(r:Int) by lia,show ¬(H:Int)=(r:Int) by lia,e3];refine⟨_,q-1,rfl,by lia,q-1,r+v1,?_,h1,by lia,by lia,CN,rfl⟩;rw[zK (by simp only[go_sem,ya,yv,ow,pL,od,n9,zE hw.pu,vN]) (by simp only[go_sem,ya,yb,yv,mQ hw.pu])];simp only[go_sem,ya]
 .right
  have El:r/2^64=1:=by lia
  rw[El];simp only[go_sem,ya,BX,H2,show ((1:Nat):Int)=1 from rfl,yaN];exact⟨_,_,rfl,by simp,_,q,rfl,rfl,rfl,rfl,rfl,rfl,rO,hQ,hl.stop rO hq (.inl (by lia))⟩
def ap7{b p y z cN c CO ca q v X:Nat}(h1:q*v+c=b*ca+cN)(h2:z+cN+bo=x+b*CO)(h3:Y+q*X=y+p*(c+bo))(W:Nat)(hW:W+p*x=Y+p*z):
  W+q*(X+p*v)=y+p*b*(ca+CO):=by grind
def ap8{q v c:Nat}(hq:q<2^64)(hv:v<2^64)(hc:c<2^64):
  q*v+c=2^64*(q*v/2^64+(q*v%2^64+c+0)/2^64)+(q*v%2^64+c+0)%2^64/\
  q*v/2^64+(q*v%2^64+c+0)/2^64<2^64:=by
 have h:=y8 (show q<=18446744073709551615 by lia) (show v<=18446744073709551615 by lia)
 grind
def ax4(oM:L.pure 143=GR AL)(jd:L.pure 171=GR qK)(A7:L.pure 173=GR Dq){w:AV}{x qs:List Nat}(hw:bT w vs){n:Nat}(Bs:n<=99999999999)(lv:vs.length=n)(gv:lo (2^64) vs){q:Nat}(hq:q<2^64):
  cG P L [0,1,5,6,11,12,104,105] La (fun k s=>∃(i c bo:Nat) (y:List Nat),s=⟨[(0,.ay 0 pre.length (n+1)),(1,w),(5,aa n),(6,uc q),(11,uc bo),(12,uc c),(104,aa n),(105,aa i)],H2 qs (pre++y++post),2,2⟩/\i+k=n/\y.length=n+1/\lo (2^64) y/\c<2^64/\bo<=1/\
    bv (2^64) y+q*bv (2^64) (vs.take i)=bv (2^64) x+(2^64)^i*(c+bo)) (fun ex s'=>∃tm c bo y,s'=⟨tm,H2 qs (pre++y++post),2,2⟩/\ex=.exit 2/\ak tm 0=.ay 0 pre.length (n+1)/\ak tm 1=w/\ak tm 5=aa n/\ak tm 6=uc q/\ak tm 11=uc bo/\ak tm 12=uc c/\y.length=n+1/\lo (2^64) y/\c<2^64/\bo<=1/\
    bv (2^64) y+q*bv (2^64) vs=bv (2^64) x+(2^64)^n*(c+bo)):=by
 apply cI;rintro k s ⟨i,c,bo,y,rfl,hk,ly,gy,hc,kT,aM⟩;by_cases hi:i<n
 .left
  have cU:(0:Nat)<2^64:=by decide
  have Aq:=iW cU gv i;have zp:=iW cU gy i;have ev:=hw.bk (i:=i) (by lia);have ey:=B8 (l:=pre++y++post) (o:=pre.length+i) (by rw[sn];lia)
  rw[E4 (by lia)] at ey;have eU:=kH (b:=2^64) (l:=vs) i;obtain⟨a,ha⟩:∃a,a=vs.getD i 0:=⟨_,rfl⟩;obtain⟨d,hd⟩:∃d,d=y.getD i 0:=⟨_,rfl⟩;rw[<-ha] at Aq ev eU;rw[<-hd] at zp ey;have⟨m1,m2⟩:=ap8 hq Aq hc;have f1:=Qt (P:=P) (f:=D P L) oM hq Aq;have f2:=Fp (P:=P) (f:=D P L) jd (x:=q*a%2^64) (y:=c) (c:=0) (xq _ cU) hc (by lia);obtain⟨cN,ajp⟩:∃t,t=(q*a%2^64+c+0)%2^64:=⟨_,rfl⟩;obtain⟨c1,fk⟩:∃t,t=(q*a%2^64+c+0)/2^64:=⟨_,rfl⟩;have ajq:cN<2^64:=by rw[ajp];exact xq _ cU
  rw[<-ajp,<-fk] at f2 m1;rw[<-fk] at m2;obtain⟨h1,kQ⟩:∃t,t=q*a/2^64:=⟨_,rfl⟩;rw[<-kQ] at f1 m1 m2;rw[show (uc 0)=AV.int .u64 0 from rfl] at f2;have f3:=W2 (P:=P) (f:=D P L) A7 zp ajq kT;have ib:=VU zp ajq kT;obtain⟨z,hz⟩:∃t,t=(d+2^64*2-cN-bo)%2^64:=⟨_,rfl⟩;obtain⟨b',aS⟩:∃t,t=(if cN+bo<=d then 0 else 1):=⟨_,rfl⟩;have jh:b'<=1:=by rw[aS];split<;>lia
  have IW:z<2^64:=by rw[hz];exact xq _ cU
  rw[<-hz,<-aS] at f3 ib;have f4:binOp .add (uc h1) (uc c1)=GR (uc (h1+c1)):=by
   rw[DF,yQ m2]
  have aJ:=qO (b:=2^64) (l:=y) (i:=i) (x:=z) (by lia);rw[<-hd] at aJ;have aR:=fun (hp:Hp) (ct:Nat)=>mK (hp:=hp) (ct:=ct) (id:=0) (v:=z) (ex:=ydB) (l:=pre++y++post) (o:=pre.length+i) (by rw[sn];lia)
  have rb:=P6 (pre:=pre) (x:=y) (post:=post) (i:=i) z (by lia);simp only[go_sem,ya,yg,La,H2,show (i:Int)<(n:Int) by lia,ev,f1,f2,f4,dd 0 pre.length (show i<n+1 by lia),ey,f3,aR,rb];refine⟨_,k-1,rfl,by lia,i+1,h1+c1,b',y.set i z,?_,by lia,by simp[ly],ot gy IW,m2,jh,?_⟩
  .rw [zK (by simp only[go_sem,ya,yv,ow,pL,od,n9,zE hw.pu,vN]) (by simp only[go_sem,ya,yb,yv,mQ hw.pu])];rw[wrap64 (by lia) (by lia)];simp only[go_sem,ya]<;>rfl
  .rw [eU,A6];exact ap7 m1 ib aM _ aJ
 .right
  have:i=n:=by lia
  subst this;rw[yK (by lia)] at aM;simp only[go_sem,ya,La,H2,show ¬(i:Int)<(i:Int) by lia];exact⟨_,_,rfl,by simp,_,c,bo,y,rfl,rfl,rfl,rfl,rfl,rfl,rfl,rfl,ly,gy,hc,kT,aM⟩
def ax5(jd:L.pure 171=GR qK){w:AV}{y0 qs:List Nat}(hw:bT w vs){n:Nat}(Bs:n<=99999999999)(lv:vs.length=n)(gv:lo (2^64) vs){q:Nat}:
  cG P L [0,1,5,6,17,156,157] Lb (fun k s=>∃(i c:Nat) (y:List Nat),s=⟨[(0,.ay 0 pre.length (n+1)),(1,w),(5,aa n),(6,uc q),(17,uc c),(156,aa n),(157,aa i)],H2 qs (pre++y++post),2,2⟩/\i+k=n/\y.length=n+1/\lo (2^64) y/\c<=1/\
    bv (2^64) y+(2^64)^i*c=bv (2^64) y0+bv (2^64) (vs.take i)) (fun ex s'=>∃tm c y,s'=⟨tm,H2 qs (pre++y++post),2,2⟩/\ex=.exit 4/\ak tm 0=.ay 0 pre.length (n+1)/\ak tm 5=aa n/\ak tm 6=uc q/\ak tm 17=uc c/\y.length=n+1/\lo (2^64) y/\c<=1/\
    bv (2^64) y+(2^64)^n*c=bv (2^64) y0+bv (2^64) vs):=by
 apply cI;rintro k s ⟨i,c,y,rfl,hk,ly,gy,hc,aM⟩;by_cases hi:i<n
 .left
  have cU:(0:Nat)<2^64:=by decide
  have Aq:=iW cU gv i;have zp:=iW cU gy i;have ev:=hw.bk (i:=i) (by lia);have ey:=B8 (l:=pre++y++post) (o:=pre.length+i) (by rw[sn];lia)
  rw[E4 (by lia)] at ey;have eU:=kH (b:=2^64) (l:=vs) i;obtain⟨a,ha⟩:∃a,a=vs.getD i 0:=⟨_,rfl⟩;obtain⟨d,hd⟩:∃d,d=y.getD i 0:=⟨_,rfl⟩;rw[<-ha] at Aq ev eU;rw[<-hd] at zp ey;have f1:=Fp (P:=P) (f:=D P L) jd zp Aq hc;have aJ:=qO (b:=2^64) (l:=y) (i:=i) (x:=(d+a+c)%2^64) (by lia);rw[<-hd] at aJ;have kR:=O9 ((2^64)^i) (2^64) (d+a+c);have iN:(d+a+c)/2^64<=1:=by lia
  have IW:(d+a+c)%2^64<2^64:=xq _ cU;generalize (d+a+c)%2^64=z at*
  generalize (d+a+c)/2^64=c' at*
  have aR:=fun (hp:Hp) (ct:Nat)=>mK (hp:=hp) (ct:=ct) (id:=0) (v:=z) (ex:=ydB) (l:=pre++y++post) (o:=pre.length+i) (by rw[sn];lia)
  have rb:=P6 (pre:=pre) (x:=y) (post:=post) (i:=i) z (by lia);simp only[go_sem,ya,yg,Lb,H2,show (i:Int)<(n:Int) by lia,ev,f1,dd 0 pre.length (show i<n+1 by lia),ey,aR,rb];refine⟨_,k-1,rfl,by lia,i+1,c',y.set i z,?_,by lia,by simp[ly],ot gy IW,iN,?_⟩
  .rw [zK (by simp only[go_sem,ya,yv,ow,pL,od,n9,zE hw.pu,vN]) (by simp only[go_sem,ya,yb,yv,mQ hw.pu])];rw[wrap64 (by lia) (by lia)];simp only[go_sem,ya]<;>rfl
  .rw [eU,A6];rw[xH,xH] at kR
   lia
 .right
  have:i=n:=by lia
  subst this;rw[yK (by lia)] at aM;simp only[go_sem,ya,Lb,H2,show ¬(i:Int)<(i:Int) by lia];exact⟨_,_,rfl,by simp,_,c,y,rfl,rfl,rfl,rfl,rfl,rfl,ly,gy,hc,aM⟩
def step_end{q:Nat}(hV:0<V)(h:Y+q*V=A+B*bo)(h1:A/V<=q)(h2:q<=A/V+1)(hY:Y<B)(hVB:V<=B)(kT:bo<=1):
  (bo=0->q=A/V/\Y=A%V)/\(bo=1->q=A/V+1/\Y+V=B+A%V):=by
 have eJ:=xE A V;have hm:=xq A hV;generalize A/V=Q at*
 have hq:q=Q\/q=Q+1:=by lia
 constructor
 .rintro rfl;rcases hq with rfl | rfl
  .grind
  .grind
 .grind
structure Wd(P:aE)(L:Lib):Prop where
 oM:L.pure 143=GR AL
 jd:L.pure 171=GR qK
 A7:L.pure 173=GR Dq
 MW:L.pure 167=GR HP
 ajr:Has P L 165 Mq
 oL:Has P L 166 DJ
 ajs:Has P L 168 RH
 aCu:Has P L 169 A2
 ajt:Has P L 158 H8
 aCv:Has P L 157 Mo
 aju:Has P L 159 RF
 aCw:Has P L 144 RD
 YT:Has P L 137 Ml
def aI:VC->VC
 | .seq _ b=>b
 | c=>c
def ax6(h:Wd P L){w:AV}{x qs:List Nat}(hw:bT w vs){n v1 v2:Nat}(hl:jw x vs n v1 v2 u0 u1 u2){q:Nat}(hq:q<2^64)(gN:bv (2^64) x/bv (2^64) vs<=q)(nU:q<=bv (2^64) x/bv (2^64) vs+1):
  ∃tm x',D P L (aI (aI (aI (aI (aI (aI A2.body)))))) ⟨[(0,.ay 0 pre.length (n+1)),(1,w),(5,aa n),(6,uc q)],H2 qs (pre++x++post),2,2⟩=GR (.ret,⟨tm,H2 qs (pre++x'++post),2,2⟩)/\ak tm 4=uc (bv (2^64) x/bv (2^64) vs)/\x'.length=n+1/\lo (2^64) x'/\bv (2^64) x'=bv (2^64) x%bv (2^64) vs:=by
 have et:=hl.n2;have Bs:=hl.nb;have cU:(0:Nat)<2^64:=by decide
 have hV:0<bv (2^64) vs:=by
  rcases xi (bv (2^64) vs) with h0 | h0
  .have:=hl.lt;rw[h0] at this;simp at this
  .exact h0
 have By:below 2 w:=zE hw.pu;have N3:=nH hl.gv;rw[hl.lv] at N3;have aIY:(2^64)^n<=(2^64)^(n+1):=xc (by decide) (by lia);have aIZ:aI (aI (aI (aI (aI (aI A2.body)))))=aI (aI (aI (aI (aI (aI A2.body))))):=rfl;simp only[go_sem,ya,A2,aI,H2];generalize oW:D P L (.loop _ La) _=qq;obtain⟨ex,s,rfl,tm,c,bo,y,rfl,rfl,t0,t1,t5,t6,t11,t12,ly,gy,hc,kT,aM⟩:=bt oW (ax4 (P:=P) (L:=L) h.oM h.jd h.A7 hw Bs hl.lv hl.gv hq (x:=x) (pre:=pre) (post:=post) (qs:=qs) n) ⟨0,0,0,x,by
  rw[zK (by simp only[go_sem,ya,yv,ow,pL,od,n9,By,vN]) (by simp only[go_sem,ya,yb,yv,mQ hw.pu])]
  simp only[go_sem,ya]<;>rfl,by lia,hl.lx,hl.gx,cU,by lia,by simp[bv]⟩
 have gyn:=iW cU gy n;have ey:=B8 (l:=pre++y++post) (o:=pre.length+n) (by rw[sn];lia)
 rw[E4 (by lia)] at ey;obtain⟨d,hd⟩:∃d,d=y.getD n 0:=⟨_,rfl⟩;rw[<-hd] at gyn ey;have f3:=W2 (P:=P) (f:=D P L) h.A7 gyn hc kT;have ib:=VU gyn hc kT;obtain⟨z,hz⟩:∃t,t=(d+2^64*2-c-bo)%2^64:=⟨_,rfl⟩;obtain⟨b',aS⟩:∃t,t=(if c+bo<=d then 0 else 1):=⟨_,rfl⟩;have jh:b'<=1:=by rw[aS];split<;>lia
 have IW:z<2^64:=by rw[hz];exact xq _ cU
 rw[<-hz,<-aS] at f3 ib;have aJ:=qO (b:=2^64) (l:=y) (i:=n) (x:=z) (by lia);rw[<-hd] at aJ;have aR:=fun (hp:Hp) (ct:Nat)=>mK (hp:=hp) (ct:=ct) (id:=0) (v:=z) (ex:=ydB) (l:=pre++y++post) (o:=pre.length+n) (by rw[sn];lia)
 have rb:=P6 (pre:=pre) (x:=y) (post:=post) (i:=n) z (by lia);have Gx:lo (2^64) (y.set n z):=ot gy IW;have Em:(y.set n z).length=n+1:=by simp[ly]
 have hY:=nH Gx;rw[Em] at hY;have aCx:bv (2^64) (y.set n z)+q*bv (2^64) vs=bv (2^64) x+(2^64)^(n+1)*b':=by
  have e2:=congrArg (fun t=>(2^64)^n*t) ib;rw[A6,xf];simp only[xH] at e2 aM;generalize (2^64)^n*(2^64*b')=p1 at*
  generalize (2^64)^n*z=p2 at*
  generalize (2^64)^n*d=p3 at*
  generalize (2^64)^n*c=p4 at*
  generalize (2^64)^n*bo=p5 at*
  lia
 have⟨s0,s1⟩:=step_end hV aCx gN nU hY (by lia) jh;simp only[go_sem,ya,yb,yv,yg,zK,ow,pL,od,n9,By,vN,mQ hw.pu,t0,t1,t5,t6,t11,t12,dd 0 pre.length (show n<n+1 by lia),ey,f3,aR,rb];by_cases gE:b'=0
 .have ⟨e1,e2⟩:=s0 gE;simp only[go_sem,ya,show (b':Int)=0 by lia];exact⟨_,y.set n z,rfl,by rw[<-e1];simp only[go_sem],Em,Gx,e2⟩
 .have ⟨e1,e2⟩:=s1 (by lia);simp only[go_sem,ya,show ¬(b':Int)=0 by lia];generalize F1:D P L (.loop _ Lb) _=qq2;obtain⟨ex,s,rfl,rz,c2,y2,rfl,rfl,t0,t5,t6,t17,ly2,TS,Eb,aAN⟩:=bt F1 (ax5 (P:=P) (L:=L) h.jd hw Bs hl.lv hl.gv (y0:=y.set n z) (pre:=pre) (post:=post) (qs:=qs) (q:=q) n) ⟨0,0,y.set n z,by
   rw[zK (by simp only[go_sem,ya,yv,ow,pL,od,n9,By,vN]) (by simp only[go_sem,ya,yb,yv,mQ hw.pu])]
   simp only[go_sem,ya]<;>rfl,by lia,Em,Gx,by lia,by simp[bv]⟩
  have aCy:=iW cU TS n;have ey2:=B8 (l:=pre++y2++post) (o:=pre.length+n) (by rw[sn];lia)
  rw[E4 (by lia)] at ey2;obtain⟨d2,gM⟩:∃d,d=y2.getD n 0:=⟨_,rfl⟩;rw[<-gM] at aCy ey2;have f4:=DF d2 c2;have Q2:=qO (b:=2^64) (l:=y2) (i:=n) (x:=(d2+c2)%2^64) (by lia);rw[<-gM] at Q2;have kR:=O9 ((2^64)^n) (2^64) (d2+c2);have aCz:(d2+c2)%2^64<2^64:=xq _ cU;have hc3:(d2+c2)/2^64<=1:=by lia
  generalize (d2+c2)%2^64=z2 at*
  generalize (d2+c2)/2^64=c3 at*
  have Sr:=fun (hp:Hp) (ct:Nat)=>mK (hp:=hp) (ct:=ct) (id:=0) (v:=z2) (ex:=ydB) (l:=pre++y2++post) (o:=pre.length+n) (by rw[sn];lia)
  have Q3:=P6 (pre:=pre) (x:=y2) (post:=post) (i:=n) z2 (by lia);have TU:lo (2^64) (y2.set n z2):=ot TS aCz;have N4:(y2.set n z2).length=n+1:=by simp[ly2]
  have hY3:=nH TU;rw[N4] at hY3;have oU:0<q:=by rw[e1];exact Nat.succ_pos _
  have hq3:bv (2^64) x/bv (2^64) vs=q-1:=by rw[e1,tg]
  have f5:binOp .sub (uc q) (.int .u64 1)=GR (uc (q-1)):=F0 (b:=1) (by lia) (by lia);simp only[go_sem,ya,yb,yv,yg,zK,ow,pL,od,n9,vN,t0,t5,t6,t17,dd 0 pre.length (show n<n+1 by lia),ey2,f4,Sr,Q3,f5];refine⟨_,y2.set n z2,rfl,by rw[hq3];simp only[go_sem],N4,TU,?_⟩;have e3:bv (2^64) (y2.set n z2)+(2^64)^(n+1)*c3=(2^64)^(n+1)+bv (2^64) x%bv (2^64) vs:=by
   rw[<-e2,<-aAN,A6];rw[xH] at kR;omega
  rcases (show c3=0\/c3=1 by lia) with rfl | rfl
  .omega
  .lia
def aCA(h:Wd P L){w:AV}{x qs:List Nat}(hw:bT w vs){n v1 v2:Nat}(hl:jw x vs n v1 v2 u0 u1 u2):
  ∃x',jZ P L (D P L) (H2 qs (pre++x++post)) 2 169 [.ay 0 pre.length (n+1),w]=GR (uc (bv (2^64) x/bv (2^64) vs),H2 qs (pre++x'++post),2)/\x'.length=n+1/\lo (2^64) x'/\bv (2^64) x'=bv (2^64) x%bv (2^64) vs:=by
 have et:=hl.n2;have Bs:=hl.nb;have By:below 2 w:=zE hw.pu;have zo:(n:Int)-1=((n-1:Nat):Int):=by lia
 have fK:=hw.bk (i:=n-1) (by have:=hl.lv;lia)
 rw[hl.fJ] at fK;have En:=B8 (l:=pre++x++post) (o:=pre.length+n) (by rw[sn];have:=hl.lx;lia)
 rw[E4 (by have:=hl.lx;lia),hl.h0] at En
 have Eo:=B8 (l:=pre++x++post) (o:=pre.length+(n-1)) (by rw[sn];have:=hl.lx;lia)
 rw[E4 (by have:=hl.lx;lia),hl.h1] at Eo
 have Iq:=hl.NY;have Ss:=hl.NZ;have rh:=hl.top;have kM:∃tm x',D P L A2.body ⟨fw 0 [.ay 0 pre.length (n+1),w],H2 qs (pre++x++post),2,2⟩=GR (.ret,⟨tm,H2 qs (pre++x'++post),2,2⟩)/\ak tm 4=uc (bv (2^64) x/bv (2^64) vs)/\x'.length=n+1/\lo (2^64) x'/\bv (2^64) x'=bv (2^64) x%bv (2^64) vs:=by
  have behind:∀(jC:Env) (q:Nat),ak jC 0=.ay 0 pre.length (n+1)->ak jC 1=w->ak jC 5=aa n->ak jC 6=uc q->q<2^64->bv (2^64) x/bv (2^64) vs<=q->q<=bv (2^64) x/bv (2^64) vs+1->
    ∃tm x',zS P L (zS P L (B7 0 (GR (Ex.exit 0,⟨jC,H2 qs (pre++x++post),2,2⟩))) (.kp [0,1,5,6])) (aI (aI (aI (aI (aI (aI A2.body))))))=GR (.ret,⟨tm,H2 qs (pre++x'++post),2,2⟩)/\ak tm 4=uc (bv (2^64) x/bv (2^64) vs)/\x'.length=n+1/\lo (2^64) x'/\bv (2^64) x'=bv (2^64) x%bv (2^64) vs:=by
   intro jC q t0 t1 t5 t6 g1 g2 g3;have hk:bF jC [0,1,5,6]=[(0,.ay 0 pre.length (n+1)),(1,w),(5,aa n),(6,uc q)]:=by simp only[go_sem,t0,t1,t5,t6]
   rw[afy,ml,ajc,zK (by rw[hk];simp only[go_sem,yv,ow,pL,od,n9,By,vN]) (by rw[hk];simp only[go_sem,yb,yv,mQ hw.pu]),ml,hk];exact ax6 h hw hl g1 g2 g3
  by_cases hc:u0<v1
  .have f1:=ajm h.ajr h.MW (P:=P) (L:=L) hc Ss Iq;have eJ:=xE (u0*2^64+u1) v1;have nM:=xq (u0*2^64+u1) hl.pos;have rO:(u0*2^64+u1)/v1<2^64:=by
    refine (xC hl.pos).2 ?_
    have:=yT (2^64) (show u0+1<=v1 from hc)
    rw[xd (2^64) v1]
    lia
   have Qu:=hl.first;rw[xd] at eJ;generalize (u0*2^64+u1)/v1=q0 at*
   generalize (u0*2^64+u1)%v1=r0 at*
   simp only[go_sem,ya,yg,A2,H2,hw.len,hl.lv,zo,wrapN (n:=n-1) (by lia),fK,dd 0 pre.length (show n<n+1 by lia),dd 0 pre.length (show n-1<n+1 by lia),En,Eo,show ¬(v1:Int)<=(u0:Int) by lia,f1];generalize oW:D P L (.loop _ BX) _=qq;obtain⟨ex,s,rfl,jC,q,rfl,rfl,t0,t1,t5,t6,g1,g2,g3⟩:=bt oW (agr (P:=P) (L:=L) h.oM h.jd hw hl (pre:=pre) (post:=post) (qs:=qs) q0) ⟨q0,r0,by
    rw[zK (by simp only[go_sem,ya,yv,ow,pL,od,n9,By,vN]) (by simp only[go_sem,ya,yb,yv,mQ hw.pu])];rw[yQ (show r0<2^64 by lia),xP (show r0<2^64 by lia)]
    simp only[go_sem,ya]<;>rfl,eJ,by lia,rO,Qu,rfl⟩
   exact behind jC q t0 t1 t5 t6 g1 g2 g3
  .have Al:u0=v1:=by lia
   have f1:=Fp (P:=P) (f:=D P L) h.jd Ss Iq (c:=0) (by lia);rw[yY,show (uc 0)=AV.int .u64 0 from rfl] at f1;have Su:=hl.digit
   simp only[go_sem,ya,yg,A2,H2,hw.len,hl.lv,zo,wrapN (n:=n-1) (by lia),fK,dd 0 pre.length (show n<n+1 by lia),dd 0 pre.length (show n-1<n+1 by lia),En,Eo,show (v1:Int)<=(u0:Int) by lia,f1];generalize oW:D P L (.loop _ BX) _=qq;obtain⟨ex,s,rfl,jC,q,rfl,rfl,t0,t1,t5,t6,g1,g2,g3⟩:=bt oW (agr (P:=P) (L:=L) h.oM h.jd hw hl (pre:=pre) (post:=post) (qs:=qs) 18446744073709551615) ⟨18446744073709551615,u1+v1,by
    rw[zK (by simp only[go_sem,ya,yv,ow,pL,od,n9,By,vN]) (by simp only[go_sem,ya,yb,yv,mQ hw.pu])]
    simp only[go_sem,ya]<;>rfl,by rw[Al];lia,by lia,by decide,by lia,rfl⟩
   exact behind jC q t0 t1 t5 t6 g1 g2 g3
 have⟨tm,x',g1,g2,g3,g4,g5⟩:=kM;refine⟨x',?_,g3,g4,g5⟩;exact KN h.aCu g1 (.inr rfl) (by show jU _ [RV.t 4]=_;rw[YL,XQ,g2])
def WN(v:AV)(m:Nat):Prop:=∃l,bT v l/\lo (2^64) l/\jj l/\bv (2^64) l=m
def asa(i:Nat)(q:List Nat)(x:Nat):(yj (i+1) 0++q).set i x=yj i 0++x::q:=by
 rw[List.replicate_succ',xt]
 simp_all
def P7{b:Nat}{l:List Nat}{i:Nat}(h:i<l.length):bv b (l.drop i)=l.getD i 0+b*bv b (l.drop (i+1)):=by
 rw[yX h,gd h];rfl
def W4{w:AV}{x y:List Nat}(hv:bT v x)(hw:bT w y)(hp:Hp):result hp (.av [v,w])=GR (.av [v,w]):=by
 rcases hv with ⟨rfl,_⟩ | ⟨e,rfl⟩<;>rcases hw with ⟨rfl,_⟩ | ⟨e',rfl⟩<;>rfl
def auG{id n l h:Nat}{pu ex:Bool}{cs:List AV}{x y:X}(hg:ah hp id=GR (.cells ydB pu ex 1 cs))(hx:dn tm 0 (GR x)=GR l)(hy:dn tm n (GR y)=GR h)(h1:l<h)(h2:h<=n):
  gg hp (.sl 1) (.ay id 0 n) tm (GR x) (GR y)=GR (.ay id l (h-l)):=by
 simp only[gg,hg,hx,hy,yy (uY h1),yy h2,wL,vh,yx,iB (Nat.ne_of_lt h1),ve,yS,yd,yg]
def aev{id n h:Nat}{pu ex:Bool}{cs:List AV}{y:X}(hg:ah hp id=GR (.cells ydB pu ex 1 cs))(hy:dn tm n (GR y)=GR h)(h1:0<h)(h2:h<=n):
  gg hp (.sl 1) (.ay id 0 n) tm GS (GR y)=GR (.ay id 0 h):=by
 have hx:dn tm 0 GS=GR 0:=rfl;simp only[gg,hg,hx,hy,yy (tL h),yy h2,wL,vh,yx,iB (show (0:Nat)≠h by lia),ve,yS,wo,yY,ycS]
def ah1(P:aE)(L:Lib)(f:cp)(hp:Hp)(ct n:Nat)(xs:List AV):fA P L f hp ct .heap (.fn (.f n) [] []) xs=jZ P L f hp ct n xs:=by
 simp only[fA,yN,wZ]
def ax7(h:Wd P L){w:AV}{x:List Nat}(hv:bT v x)(hx:lo (2^64) x)(lx:x.length<=99999999999)(hw:bT w [d])(fm:0<d)(hdW:d<2^64){n:Nat}(hn:n=x.length):
  cG P L [0,1,6,7,8] K6 (fun k s=>∃(i r:Nat) (q:List Nat),s=⟨[(0,v),(1,w),(6,.ay 0 0 n),(7,uc r),(8,aa ((i:Int)-1))],[(0,.cells ydB ydB ydB 1 ((yj i 0++q).map uc))],1,0⟩/\i=k/\i+q.length=n/\lo (2^64) q/\r<d/\bv (2^64) (x.drop i)=bv (2^64) q*d+r) (fun ex s'=>∃tm r q,s'=⟨tm,[(0,.cells ydB ydB ydB 1 (q.map uc))],1,0⟩/\ex=.exit 0/\ak tm 6=.ay 0 0 n/\ak tm 7=uc r/\q.length=n/\lo (2^64) q/\r<d/\bv (2^64) x=bv (2^64) q*d+r):=by
 apply cI;rintro k s ⟨i,r,q,rfl,rfl,hlen,aY,hr,aM⟩
 cases i with
 | zero=>
  right
  simp only[go_sem,ya,K6,show ¬(0:Int)<=((0:Nat):Int)-1 by lia];exact⟨_,_,rfl,by simp,_,r,q,rfl,rfl,rfl,rfl,by lia,aY,hr,by simpa using aM⟩
 | succ i=>
  left
  have gx:=iW (show 0<2^64 by decide) hx i;have e1:=hv.bk (i:=i) (by lia);have e2:=hw.bk (i:=0) (by simp);have kS:=P7 (b:=2^64) (l:=x) (i:=i) (by lia);rw[show ([d]:List Nat).getD 0 0=d from rfl] at e2;generalize x.getD i 0=a at*
  have e3:=ajm (P:=P) (L:=L) h.ajr h.MW hr gx hdW;have eJ:=xE (r*2^64+a) d;have nM:=xq (r*2^64+a) fm;have rO:(r*2^64+a)/d<2^64:=by
   refine (xC fm).2 ?_
   lia
  generalize (r*2^64+a)/d=q1 at*
  generalize (r*2^64+a)%d=r1 at*
  have aR:=fun (hp:Hp) (ct:Nat)=>mK (hp:=hp) (ct:=ct) (id:=0) (v:=q1) (ex:=ydB) (l:=yj (i+1) 0++q) (o:=i) (by simp;lia)
  simp only[go_sem,ya,yg,K6,show ((i+1:Nat):Int)-1=(i:Int) by lia,show (0:Int)<=(i:Int) by lia,e1,e2,e3,dd 0 0 (show i<n by lia),yd,aR,asa];refine⟨_,i,rfl,by lia,i,r1,q1::q,?_,rfl,by simp;lia,Pm.2 ⟨HG.2 rO,aY⟩,nM,?_⟩
  .rw [wrap64 (by lia) (by lia)];simp only[go_sem,ya,yb,aq,aD hv.pu,aD hw.pu]<;>rfl
  .rw [kS,aM];simp only[bv];rw[xS,xH,<-xf (2^64)];rw[xd d q1] at eJ
   lia
def ap9{s u:Nat}(hs:s<64)(hu:u<2^64):u/2^s<2^64/\(0<s->u/2^s|||(u1*2^(64-s)%2^64)<2^64)/\
  (if 0<s then (u/2^s|||(u1*2^(64-s)%2^64)) else u/2^s)*2^s+u%2^s=u+2^64*(u1%2^s):=by
 have e:2^64=2^s*2^(64-s):=by rw[<-xB,show s+(64-s)=64 by lia]
 have h1:u1*2^(64-s)%2^64=(u1%2^s)*2^(64-s):=by rw[e,uB]
 have hp:=xe s;have h2:u/2^s<2^(64-s):=by
  refine (xC hp).2 ?_
  grind
 have h3:u/2^s|||(u1*2^(64-s)%2^64)=(u1%2^s)*2^(64-s)+u/2^s:=by rw[h1,ydj,W3 h2]
 have h4:(u1%2^s)*2^(64-s)+u/2^s<2^64:=by
  have:=yT (2^(64-s)) (show u1%2^s+1<=2^s from xq _ hp)
  grind
 have h5:=uz u (2^s)
 grind
def ax8{us qs:List Nat}{n m s:Nat}(hs:s<64)(lu:us.length=la)(gu:lo (2^64) us)(hn:n<la)(rP:la<=100000000000):
  cG P L [9,11,12,13,96,97] Hm (fun k st=>∃(i:Nat) (rs:List Nat),st=⟨[(9,aa s),(11,.ay 0 0 la),(12,aa n),(13,.ay 1 0 m),(96,aa n),(97,aa i)],H2 qs (rs++us.drop i),2,0⟩/\i+k=n/\rs.length=i/\lo (2^64) rs/\bv (2^64) rs*2^s+us.getD 0 0%2^s=bv (2^64) (us.take i)+(2^64)^i*(us.getD i 0%2^s)) (fun ex st'=>∃tm rs,st'=⟨tm,H2 qs (rs++us.drop n),2,0⟩/\ex=.exit 4/\ak tm 11=.ay 0 0 la/\ak tm 12=aa n/\ak tm 13=.ay 1 0 m/\rs.length=n/\lo (2^64) rs/\bv (2^64) rs*2^s+us.getD 0 0%2^s=bv (2^64) (us.take n)+(2^64)^n*(us.getD n 0%2^s)):=by
 apply cI;rintro k st ⟨i,rs,rfl,hk,lr,gr,aM⟩;by_cases hi:i<n
 .left
  have cU:(0:Nat)<2^64:=by decide
  have g0:=iW cU gu i;have g1:=iW cU gu (i+1);have d0:us.drop i=us.getD i 0::us.getD (i+1) 0::us.drop (i+2):=by
   rw[yX (show i<us.length by lia),yX (show i+1<us.length by lia),gd,gd]
  have eU:=kH (b:=2^64) (l:=us) i;have nJ:∀r,r<2^64->r*2^s+us.getD i 0%2^s=us.getD i 0+2^64*(us.getD (i+1) 0%2^s)->lo (2^64) (rs++[r])/\bv (2^64) (rs++[r])*2^s+us.getD 0 0%2^s=bv (2^64) (us.take (i+1))+(2^64)^(i+1)*(us.getD (i+1) 0%2^s):=fun r h1 h2=>by
   refine⟨Pm.2 ⟨gr,HG.2 h1⟩,?_⟩;rw[AE,Du,lr,eU,xS,A6,xf,xf];have e2:=congrArg (fun t=>(2^64)^i*t) h2;simp only[xH] at e2;generalize (2^64)^i*(r*2^s)=p1 at*
   generalize (2^64)^i*(us.getD i 0%2^s)=p2 at*
   generalize (2^64)^i*us.getD i 0=p3 at*
   generalize (2^64)^i*(2^64*(us.getD (i+1) 0%2^s))=p4 at*
   lia
  have YU:us.drop (i+1)=us.getD (i+1) 0::us.drop (i+2):=by
   rw[yX (show i+1<us.length by lia),gd]
  generalize us.getD i 0=a at*
  obtain⟨c,hc⟩:∃c,c=us.getD (i+1) 0:=⟨_,rfl⟩;rw[<-hc] at g1 d0 YU nJ;generalize us.drop (i+2)=dr at*
  rw[d0];have⟨n1,n2,n3⟩:=ap9 (u1:=c) hs g0;have o1:=MV .i64 a (s:=s) (by lia);have o2:=MU .i64 c (s:=64-s) (by lia);have o3:binOp .sub (.int .i64 64) (aa s)=GR (aa (64-s:Nat)):=by
   rw[P1,wrap64 (by lia) (by lia)];congr 2;lia
  have o4:=TQ n1 (xq (c*2^(64-s)) cU);have sa:∀z y,(rs++z::y).set i a=rs++a::y:=fun z y=>by rw[ybg _ _ (by lia),lr];simp
  have e0:∀z y,vP i ((rs++z::y).map uc)=uc z::y.map uc:=fun z y=>by
   rw[xu,tO (by simp[lr])];rfl
  have e1:∀z y u,vP (i+1) ((rs++z::y::u).map uc)=uc y::u.map uc:=fun z y u=>by
   rw[show rs++z::y::u=(rs++[z])++y::u by simp,xu,tO (by simp[lr])];rfl
  have IQ:∀(hp:Hp) (ct x z:Nat) (y:List Nat),iM hp ct 0 i 1 [.int .u64 (x:Int)] (GR (.cells ydB ydB ydB 1 ((rs++z::y).map uc)))=GR (.av [],aJ hp 0 (.cells ydB ydB ydB 1 ((rs++x::y).map uc)),ct):=fun hp ct x z y=>by
   rw[mK (by simp;lia),ybg _ _ (by lia),lr];simp
  by_cases h0:0<s
  .rw [yC h0] at n3;have⟨f1,f2⟩:=nJ _ (n2 h0) n3;generalize a/2^s=a1 at*
   generalize a1|||(c*2^(64-s)%2^64)=r at*
   simp only[go_sem,ya,yg,Hm,H2,show (i:Int)<(n:Int) by lia,dd 0 0 (show i<la by lia),yd,e0,o1,IQ,show (0:Int)<(s:Int) by lia,show (i:Int)+1=((i+1:Nat):Int) from rfl,wrapN (n:=i+1) (by lia),show ((i+1:Nat):Int)<(la:Int) by lia,dd 0 0 (show i+1<la by lia),e1,o3,o2,o4];refine⟨_,k-1,rfl,by lia,i+1,rs++[r],by simp only[go_sem,ya,yb,aq];rw[YU];simp,by lia,by simp[lr],f1,by rw[<-hc];exact f2⟩
  .rw [yq h0] at n3;have⟨f1,f2⟩:=nJ _ n1 n3;generalize a/2^s=a1 at*
   simp only[go_sem,ya,yg,Hm,H2,show (i:Int)<(n:Int) by lia,dd 0 0 (show i<la by lia),yd,e0,o1,IQ,show ¬(0:Int)<(s:Int) by lia,show (i:Int)+1=((i+1:Nat):Int) from rfl,wrapN (n:=i+1) (by lia)];refine⟨_,k-1,rfl,by lia,i+1,rs++[a1],by simp only[go_sem,ya,yb,aq];rw[YU];simp,by lia,by simp[lr],f1,by rw[<-hc];exact f2⟩
 .right
  have:i=n:=by lia
  subst this;simp only[go_sem,ya,Hm,H2,show ¬(i:Int)<(i:Int) by lia];exact⟨_,_,rfl,by simp,_,rs,rfl,rfl,rfl,rfl,rfl,lr,gr,aM⟩
section
variable {v w:AV}{l x:List Nat}
def adx{b p bu bq0 pre:Nat}(h1:bu=pre+p*A)(h2:bu+bq0*V=U0):(pre+p*(A%V))+(bq0+p*(A/V))*V=U0:=by
 have eJ:=xE A V
 grind
def aAO(hp:Hp)(ct:Nat)(ex:Bool)(sz n:Nat)(cs:List AV):own hp ct (.c9 ex sz n cs)=(.ay ct 0 n,(ct,.cells ydB ydB ex sz cs)::hp,ct+1):=rfl
def ax9(h:Wd P L)(hw:bT w vs)(gv:lo (2^64) vs){n m:Nat}(lv:vs.length=n)(et:2<=n)(CH:n<=la)(rP:la<=99999999999)(hm:m=la-n+1)(fJ:0<vs.getD (n-1) 0){s:Nat}:
  cG P L [9,10,11,12,13,14] K7 (fun k st=>∃(j:Nat) (us qs:List Nat),st=⟨[(9,aa s),(10,w),(11,.ay 0 0 (la+1)),(12,aa n),(13,.ay 1 0 m),(14,aa ((j:Int)-1))],H2 qs us,2,0⟩/\j=k/\j<=m/\us.length=la+1/\qs.length=m/\lo (2^64) us/\lo (2^64) qs/\(∀i,i<j->qs.getD i 0=0)/\
    bv (2^64) us+bv (2^64) qs*bv (2^64) vs=U0/\bv (2^64) (us.drop j)<bv (2^64) vs) (fun ex st'=>∃tm us qs,st'=⟨tm,H2 qs us,2,0⟩/\ex=.exit 2/\ak tm 9=aa s/\ak tm 11=.ay 0 0 (la+1)/\ak tm 12=aa n/\ak tm 13=.ay 1 0 m/\us.length=la+1/\qs.length=m/\lo (2^64) us/\lo (2^64) qs/\
    bv (2^64) us+bv (2^64) qs*bv (2^64) vs=U0/\bv (2^64) us<bv (2^64) vs):=by
 apply cI;rintro k st ⟨j,us,qs,rfl,rfl,hj,lu,lq,gu,gq,hz,aM,rh⟩
 cases j with
 | zero=>
  right
  simp only[go_sem,ya,K7,H2,show ¬(0:Int)<=((0:Nat):Int)-1 by lia];exact⟨_,_,rfl,by simp,_,us,qs,rfl,rfl,rfl,rfl,rfl,rfl,lu,lq,gu,gq,aM,by simpa using rh⟩
 | succ j=>
  left
  have cU:(0:Nat)<2^64:=by decide
  obtain⟨pre,fg⟩:∃p,p=us.take j:=⟨_,rfl⟩;obtain⟨x,hx⟩:∃p,p=(us.drop j).take (n+1):=⟨_,rfl⟩;obtain⟨post,gJ⟩:∃p,p=us.drop (j+(n+1)):=⟨_,rfl⟩;have lp:pre.length=j:=by rw[fg,yU];lia
  have lx:x.length=n+1:=by rw[hx,yU,wP];lia
  have sB:us=pre++x++post:=by
   rw[fg,hx,gJ,<-vS,xt,wh,wh]
  have gx:lo (2^64) x:=by rw[hx];exact BS (afv gu _) _
  have YV:lo (2^64) pre:=by rw[fg];exact BS gu _
  have aAP:lo (2^64) post:=by rw[gJ];exact afv gu _
  have hA:bv (2^64) (us.drop j)=us.getD j 0+2^64*bv (2^64) (us.drop (j+1)):=P7 (by lia);have hgj:=iW cU gu j;have hdx:us.drop j=x++post:=by rw[gJ,hx,<-vS,wh]
  have CP:bv (2^64) (us.drop j)=bv (2^64) x+(2^64)^(n+1)*bv (2^64) post:=by rw[hdx,AE,lx]
  have N3:=nH gv;rw[lv] at N3;have aG:bv (2^64) (us.drop j)<2^64*bv (2^64) vs:=by lia
  have hp0:bv (2^64) post=0:=by
   rcases xi (bv (2^64) post) with e | e
   .exact e
   .have h1:=yW ((2^64)^(n+1)) e;rw[yg,A6] at h1;rw[A6] at CP
    lia
  rw[hp0,xF,yY] at CP;have hl:jw x vs n (vs.getD (n-1) 0) (vs.getD (n-2) 0) (x.getD n 0) (x.getD (n-1) 0) (x.getD (n-2) 0):=
   ⟨et,by lia,lx,lv,gx,gv,rfl,rfl,rfl,rfl,rfl,fJ,by rw[<-CP];exact aG⟩
  have Su:=hl.digit;have⟨x',e1,lx',TV,N5⟩:=aCA h hw hl (pre:=pre) (post:=post) (qs:=qs);rw[lp,<-sB] at e1;have hbu:bv (2^64) us=bv (2^64) pre+(2^64)^j*bv (2^64) x:=by
   have:=Ku (b:=2^64) us j (by lia)
   rw[CP,<-fg] at this;exact this
  have YW:bv (2^64) (pre++x'++post)=bv (2^64) pre+(2^64)^j*bv (2^64) x':=by
   rw[xt,AE,AE,hp0,xF,yY,lp]
  have aJ:=qO (b:=2^64) (l:=qs) (i:=j) (x:=bv (2^64) x/bv (2^64) vs) (by lia);rw[hz j (by lia),xF,yY] at aJ;have nJ:=adx (b:=0) hbu aM;have aR:=fun (hp:Hp) (ct:Nat)=>mK (hp:=hp) (ct:=ct) (id:=1) (v:=bv (2^64) x/bv (2^64) vs) (ex:=ydB) (l:=qs) (o:=j) (by lia)
  have Ao:0<bv (2^64) vs:=by lia
  have nM:=xq (bv (2^64) x) Ao;have pU:∀tm (x y:X),dn tm 0 (GR x)=GR j->dn tm (la+1) (GR y)=GR (j+n+1)->gg (H2 qs us) (.sl 1) (.ay 0 0 (la+1)) tm (GR x) (GR y)=GR (.ay 0 j (n+1)):=fun tm x y h1 h2=>by
   rw[auG (cs:=us.map uc) (pu:=ydB) (ex:=ydB) rfl h1 h2 (by lia) (by lia),show j+n+1-j=n+1 by lia]
  simp only[go_sem,ya,yg,K7,H2,show ((j+1:Nat):Int)-1=(j:Int) by lia,show (0:Int)<=(j:Int) by lia,show (j:Int)+(n:Int)=((j+n:Nat):Int) from rfl,wrapN (n:=j+n) (by lia),show ((j+n:Nat):Int)+1=((j+n+1:Nat):Int) from rfl,wrapN (n:=j+n+1) (by lia),pU,jN,ah1,e1,dd 1 0 (show j<m by lia),yd,aR];refine⟨_,j,rfl,by lia,j,pre++x'++post,qs.set j (bv (2^64) x/bv (2^64) vs),?_,rfl,by lia,by rw[sn,lp,lx',gJ,wP];lia,by simp[lq],Pm.2 ⟨Pm.2 ⟨YV,TV⟩,aAP⟩,ot gq Su,fun i hi=>by rw[sj (by lia)];exact hz i (by lia),?_,?_⟩
  .rw [wrap64 (by lia) (by lia)];simp only[go_sem,ya,yb,aq,aD hw.pu]<;>rfl
  .rw [YW,N5,aJ];exact nJ
  .rw [xt,tO lp,AE,hp0,xF,yY,N5];exact nM
def aAQ{n:Nat}(h:l.length=n+1):(2^64)^n*l.getD n 0<=bv (2^64) l:=by
 have:=kH (b:=2^64) (l:=l) n
 grind
def pV{m:Nat}(hn:jj l)(hv:bv (2^64) l=m)(h:m<(2^64)^K):l.length<=K:=apv (b:=2^64) (by decide) hn (by rw[hv];exact h)
def aya(h:Wd P L)(hv:bT v x)(hw:bT w [d])(gx:lo (2^64) x)(lx:x.length<=90000000000)(fm:0<d)(hdW:d<2^64)(ec:ab P L 158 [v,w] (aa (eD (bv (2^64) x) d)))(hc:d<=bv (2^64) x):
  ∃q r,ab P L 137 [v,w] (.av [q,r])/\WN q (bv (2^64) x/d)/\WN r (bv (2^64) x%d):=by
 have fk:¬eD (bv (2^64) x) d<0:=by unfold eD;rw[yq (by lia)];split<;>decide
 obtain⟨n,hn⟩:∃n,n=x.length:=⟨_,rfl⟩;have main:∃r l,(∀c:Nat->AV->AV->Option AV,True)/\r<d/\l.length=n/\lo (2^64) l/\bv (2^64) x=bv (2^64) l*d+r/\
   ∃q1 r1,bT q1 (eM l)/\bT r1 (eM [r])/\ab P L 137 [v,w] (.av [q1,r1]):=by
  unfold ab;rw[aB h.YT]
  simp only[go_sem,ya,Ml,hv.len,hv.ai,hw.len,hw.ai,ec,fk,yH,yR,yd,show ((1:Nat):Int)=(1:Int) from rfl,<-hn,FZ (n:=n) _ (by lia)];generalize hq:D P L (.loop _ K6) _=q;obtain⟨ex,s,rfl,tm,r,l,rfl,rfl,t6,t7,zh,aY,hr,aM⟩:=bt hq (ax7 (P:=P) (L:=L) h hv gx (by lia) hw fm hdW hn n) ⟨n,0,[],by
   rw[wrap64 (by lia) (by lia),wZ]
   simp only[go_sem,ya,yb,aq,aD hv.pu,aD hw.pu]<;>rfl,rfl,rfl,Qr,fm,by rw[y9 (by lia)];simp[bv]⟩
  have hf:=pJ ydB l;rw[zh] at hf;have⟨q1,e1,gN⟩:=DP h.oL hf (by lia);have⟨r1,e2,fD⟩:=DP h.oL (pJ ydB [r]) (by simp);simp only[yH,yR,yd,xb,List.map_nil] at e2;refine⟨r,l,fun _=>trivial,hr,zh,aY,aM,q1,r1,gN,fD,?_⟩
  simp only[go_sem,ya,yb,yv,yh,yg,aq,t6,t7,DO _ (n:=n) (l:=l) zh ydB,e1,gN.shut,e2,fD.shut];exact W4 gN fD _
 have⟨r,l,_,hr,zh,aY,aM,q1,r1,gN,fD,e⟩:=main;have hq:bv (2^64) l=bv (2^64) x/d:=by
  rw[aM,xd,tB fm,xP hr,yY]
 have hm:r=bv (2^64) x%d:=by
  rw[aM,xd,yao,yQ hr]
 exact⟨q1,r1,e,⟨_,gN,De aY,Dd _,by rw[Dc,hq]⟩,⟨_,fD,De (HG.2 (by lia)),Dd _,by rw[Dc,Du,hm]⟩⟩
def ayb(h:Wd P L){y:List Nat}(hv:bT v x)(hw:bT w y)(gx:lo (2^64) x)(gy:lo (2^64) y)(nx:jj x)(ny:jj y)(lx:x.length<=90000000000)(ly:2<=y.length)(ec:ab P L 158 [v,w] (aa (eD (bv (2^64) x) (bv (2^64) y))))(hc:bv (2^64) y<=bv (2^64) x):
  ∃q r,ab P L 137 [v,w] (.av [q,r])/\WN q (bv (2^64) x/bv (2^64) y)/\WN r (bv (2^64) x%bv (2^64) y):=by
 have cU:(0:Nat)<2^64:=by decide
 have fk:¬eD (bv (2^64) x) (bv (2^64) y)<0:=by unfold eD;rw[yq (by lia)];split<;>decide
 have hyx:y.length<=x.length:=by
  by_cases hh:x.length<y.length
  .have:=P0 (b:=2^64) (by decide) gx ny hh;lia
  .lia
 obtain⟨n,hn⟩:∃n,n=y.length:=⟨_,rfl⟩;obtain⟨la,rP⟩:∃la,la=x.length:=⟨_,rfl⟩;have oA:=Kv ny (fun e=>by subst e;simp at ly);have Ar:=iW cU gy (y.length-1);have eyl:=hw.bk (i:=y.length-1) (by lia);have mF:=aAQ (l:=y) (n:=n-1) (by lia);rw[<-hn] at oA Ar eyl;obtain⟨top,rh⟩:∃top,y.getD (n-1) 0=top:=⟨_,rfl⟩;rw[rh] at oA Ar eyl mF;have elz:=agp (P:=P) (f:=D P L) h.MW Ar;have⟨z1,z2,z3⟩:=VV (vW oA) Ar;generalize 64-dW 64 top=s at*
 have⟨ov,ev,lov,gov,vov⟩:=ajn h.ajs hw gy (by lia) z1;have⟨ou,eu,lou,gou,vou⟩:=ajn h.ajs hv gx (by lia) z1;have⟨v',evt,fO⟩:=DP h.oL (pJ ydB ov) (by lia);rw[lov,<-hn] at evt;rw[<-hn] at ev;rw[<-rP] at eu lou;have kR:=xe s;obtain⟨vs,CA⟩:∃vs,vs=eM ov:=⟨_,rfl⟩;rw[<-CA] at fO;have Gy:lo (2^64) vs:=by rw[CA];exact De gov
 have N6:jj vs:=by rw[CA];exact Dd _
 have Bz:bv (2^64) vs=bv (2^64) y*2^s:=by rw[CA,Dc,vov]
 have hyW:bv (2^64) y*2^s<(2^64)^n:=by
  have e:2^64=2^(64-s)*2^s:=by rw[<-xB,show 64-s+s=64 by lia]
  have e1:=kH (b:=2^64) (l:=y) (n-1);rw[show n-1+1=n by lia,yK (by lia),rh] at e1;have e2:=nH (BS gy (n-1));rw[yU,xo (by lia)] at e2;have e3:top<2^(64-s):=th (a:=2^s) (Nat.lt_of_lt_of_eq z3 e);have e4:=yT (2^s) (show top+1<=2^(64-s) from e3);rw[<-e] at e4;have e5:bv (2^64) y<(2^64)^(n-1)*(top+1):=by rw[xH,yg];lia
  have e6:=xY e5 kR;rw[xf] at e6;have e7:=yW ((2^64)^(n-1)) e4;rw[<-A6,show n-1+1=n by lia] at e7;exact yF e6 e7
 have aCB:(2^64)^(n-1)*2^s<=bv (2^64) vs:=by
  rw[Bz];refine yT _ (y7 ?_ mF)
  have:=yW ((2^64)^(n-1)) (show 1<=top by lia)
  lia
 have CQ:vs.length=n:=by
  have h1:vs.length<=n:=by
   refine pV N6 Bz ?_;exact hyW
  have h2:¬vs.length<n:=fun hh=>by
   have e1:=nH Gy;have e2:(2^64)^vs.length<=(2^64)^(n-1):=xc cU (by lia);have e3:=yT (2^s) mF;rw[xf,<-Bz] at e3;have e4:=yW ((2^64)^(n-1)) (show 1<=top*2^s by lia)
   lia
  lia
 have fJ:0<vs.getD (n-1) 0:=by
  have:=Kv N6 (fun e=>by rw[e] at CQ;simp at CQ;lia)
  rw[CQ] at this;exact vW this
 obtain⟨m,hm⟩:∃m,m=la-n+1:=⟨_,rfl⟩;have XT:bv (2^64) (ou.drop m)<bv (2^64) vs:=by
  have e1:=Ku (b:=2^64) ou m (by lia);have e2:=nH gx;rw[<-rP] at e2;have e3:=xY e2 kR;rw[<-vou] at e3;have e4:(2^64)^la=(2^64)^m*(2^64)^(n-1):=by rw[<-xB];congr 1;lia
  rw[e4,xf] at e3;have e5:(2^64)^m*bv (2^64) (ou.drop m)<(2^64)^m*((2^64)^(n-1)*2^s):=by lia
  exact yF (Nat.lt_of_mul_lt_mul_left e5) aCB
 have e1y:(y.length:Int)-1=((n-1:Nat):Int):=by lia
 have aCC:((la:Nat):Int)-(n:Int)=((m-1:Nat):Int):=by lia
 have kM:∃tm us qs rs,(us.length=la+1/\qs.length=m/\lo (2^64) us/\lo (2^64) qs/\bv (2^64) us+bv (2^64) qs*bv (2^64) vs=bv (2^64) x*2^s/\bv (2^64) us<bv (2^64) vs/\
   rs.length=n/\lo (2^64) rs/\bv (2^64) rs*2^s+us.getD 0 0%2^s=bv (2^64) (us.take n)+(2^64)^n*(us.getD n 0%2^s))/\ak tm 0=v/\
   ∃q1 r1,bT q1 (eM qs)/\bT r1 (eM rs)/\ab P L 137 [v,w] (.av [q1,r1]):=by
  unfold ab at ec ev eu evt;unfold ab;rw[aB h.YT];have hfo:=DO (n:=n+1) (l:=ov) (hp:=[]) (by lia) ydB
  simp only[go_sem,ya,yb,Ml,hv.len,hv.ai,hw.len,hw.ai,ec,fk,show ¬(y.length:Int)=1 by lia,e1y,wrapN (n:=n-1) (by lia),eyl,elz,ev,aAO,DO _ (n:=n+1) (l:=ov) (by lia) ydB,evt,fO.len,fO.shut,eu,CQ,<-rP,aCC,wrapN (n:=m-1) (by lia),show ((m-1:Nat):Int)+1=(m:Int) by lia,wrapN (n:=m) (by lia),FZ (n:=m) _ (by lia)];generalize oW:D P L (.loop _ K7) _=qq;obtain⟨ex,st,rfl,tm,us,qs,rfl,rfl,t9,t11,t12,t13,TW,TX,IY,gqs,aM,aG⟩:=bt oW (ax9 (P:=P) (L:=L) h fO Gy CQ (by lia) (by lia) (by lia) hm fJ (s:=s) (U0:=bv (2^64) x*2^s) m) ⟨m,ou,yj m 0,by
   rw[show ((m-1:Nat):Int)=(m:Int)-1 by lia]
   simp only[go_sem,ya,yb,aq,aD fO.pu]<;>rfl,rfl,yz _,lou,by simp,gou,HH cU m,fun i _=>E2 m i,by rw[HI,wo,yY,vou],XT⟩
  simp only[go_sem,ya,yb,aq,t9,t11,t12,t13];generalize F1:D P L (.loop _ Hm) _=qq2;obtain⟨ex,st,rfl,rz,rs,rfl,rfl,t11,t12,t13,lrs,grs,Sv⟩:=bt F1 (ax8 (P:=P) (L:=L) (qs:=qs) (m:=m) (la:=la+1) (n:=n) z1 TW IY (by lia) (by lia) n) ⟨0,[],by simp only[go_sem,ya,yb,aq]<;>rfl,by lia,rfl,Qr,by simp[bv]⟩
  have pU:∀(hp:Hp) tm (y:X),ah hp 0=GR (.cells ydB ydB ydB 1 ((rs++us.drop n).map uc))->dn tm (la+1) (GR y)=GR n->gg hp (.sl 1) (.ay 0 0 (la+1)) tm GS (GR y)=GR (.ay 0 0 n):=fun hp tm y h1 h2=>aev h1 h2 (by lia) (by lia)
  have N7:=pJ ydB qs;rw[TX] at N7;have⟨q1,f1,gN⟩:=DP h.oL N7 (by lia);have eU:(rs++us.drop n).take n=rs:=by rw[List.take_append_of_le_length (by lia),yK (by lia)]
  have N8:∃e,∀hp:Hp,mZ 0 n (GR (ydB,1,(rs++us.drop n).map uc,hp))=GR (.au e n (rs.map uc),hp):=by
   refine⟨ydB&&yP 0 1&&yu n ((rs++us.drop n).map uc).length,fun hp=>?_⟩;simp only[mZ,yd,yg,slice,ye,<-yaS,eU];rw[yy (by simp;lia)]
   rfl
  have⟨e,N8⟩:=N8;have iI:=pJ e rs;rw[lrs] at iI;have⟨r1,f2,fD⟩:=DP h.oL iI (by lia);unfold ab at f1 f2;refine⟨[(0,v)],us,qs,rs,⟨TW,TX,IY,gqs,aM,aG,lrs,grs,Sv⟩,rfl,q1,r1,gN,fD,?_⟩
  simp only[go_sem,ya,yb,aq,t11,t12,t13,DO _ (n:=m) (l:=qs) TX ydB,f1,gN.shut,pU,jN,N8,f2,fD.shut];exact W4 gN fD _
 have⟨tm,us,qs,rs,⟨TW,TX,IY,gqs,aM,aG,lrs,grs,Sv⟩,_,q1,r1,gN,fD,e⟩:=kM;have ia:0<bv (2^64) y:=by
  have:=yW ((2^64)^(n-1)) (show 1<=top by lia)
  have:=ycm (n:=n-1) cU
  lia
 rw[Bz] at aM aG;have MX:bv (2^64) qs=bv (2^64) x/bv (2^64) y:=by
  rw[<-tW _ _ kR,<-aM,yay,xd,tB (vd ia kR),xP aG,yY]
 have TY:bv (2^64) us=(bv (2^64) x%bv (2^64) y)*2^s:=by
  rw[<-uB,<-aM,yay,xd (bv _ qs),yao,yQ aG]
 have sB:=Ku (b:=2^64) us n (by lia);have fm:bv (2^64) (us.drop n)=0:=by
  rcases xi (bv (2^64) (us.drop n)) with h0 | h0
  .exact h0
  .have:=yW ((2^64)^n) h0
   lia
 have hun:us.getD n 0=0:=by
  have:=P7 (b:=2^64) (l:=us) (i:=n) (by lia)
  lia
 rw[fm,xF,yY] at sB;have Bv:us.getD 0 0%2^s=0:=by
  have e1:=P7 (b:=2^64) (l:=us) (i:=0) (by lia);rw[ye,TY] at e1;have e2:2^64=2^s*2^(64-s):=by rw[<-xB,show s+(64-s)=64 by lia]
  have e3:(us.getD 0 0+2^64*bv (2^64) (us.drop (0+1)))%2^s=us.getD 0 0%2^s:=by
   conv=>lhs;rw[e2,xf]
   exact Nat.add_mul_mod_self_left _ _ _
  rw[<-e3,<-e1,Nat.mul_mod_left]
 rw[hun,Bv,Nat.zero_mod,xF,yY,yY,<-sB,TY] at Sv;have ah2:bv (2^64) rs=bv (2^64) x%bv (2^64) y:=Nat.eq_of_mul_eq_mul_right kR Sv;exact⟨q1,r1,e,⟨_,gN,De gqs,Dd _,by rw[Dc,MX]⟩,⟨_,fD,De grs,Dd _,by rw[Dc,ah2]⟩⟩
def ajv(h:Wd P L){b:Nat}(hv:WN v a)(hw:WN w b)(hb:0<b)(ha:a<(2^64)^K)(hbK:b<(2^64)^K)(hK:K<=90000000000):
  ∃q r,ab P L 137 [v,w] (.av [q,r])/\WN q (a/b)/\WN r (a%b):=by
 have⟨x,IZ,gx,nx,vx⟩:=hv;have⟨y,TZ,gy,ny,vy⟩:=hw;have lx:x.length<=90000000000:=y7 (pV nx vx ha) hK;have ly:y.length<=90000000000:=y7 (pV ny vy hbK) hK;have ec:=aji h.ajt IZ TZ gx gy nx ny (by lia) (by lia);subst vx;subst vy;by_cases hc:bv (2^64) x<bv (2^64) y
 .have fk:eD (bv (2^64) x) (bv (2^64) y)= -1:=by unfold eD;rw[yC hc]
  rw[fk] at ec;refine⟨.aj,v,?_,⟨[],zJ,Qr,rfl,by rw[xP hc];rfl⟩,⟨x,IZ,gx,nx,by rw[yQ hc]⟩⟩
  unfold ab;rw[aB h.YT];simp only[go_sem,ya,Ml,IZ.ai,TZ.ai,ec,show (-1:Int)<0 by decide];exact W4 zJ IZ _
 .rcases (show y.length=0\/y.length=1\/2<=y.length by lia) with h0 | h1 | h2
  .rw [yE h0] at hb;simp[bv] at hb
  .obtain ⟨d,rfl⟩:∃d,y=[d]:=by
    cases y with
    | nil=>simp at h1
    | cons d r=>cases r with
     | nil=>exact⟨d,rfl⟩
     | cons e r=>simp at h1
   exact aya h IZ TZ gx lx hb (HG.1 gy) ec (by lia)
  .exact ayb h IZ TZ gx gy nx ny lx h2 ec (by lia)
end
def kE(v:AV)(n:Int):Prop:=∃w l,v=.agg [.bool (decide (n<0)),w]/\bB w l/\dg l/\nz l/\dv l=n.natAbs
def kI{l:List Int}{k:Nat}(hd:dg l)(hn:nz l)(h:dv l<1000000000^k):l.length<=k:=by
 by_cases h0:l=[]
 .grind
 .have h1:=QV hn hd h0;have h2:1000000000^(l.length-1)<1000000000^k:=xL h1 h;have h3:=(uo (show 1<1000000000 by decide)).1 h2
  lia
def gh{id:Nat}{a b x y:AV}(h1:dN a=ydB)(h2:dN b=ydB)(p1:aX a=ydB)(p2:aX b=ydB):
  iM hp ct id 0 2 [a,b] (GR (.cells ydB ydB ydB 2 [x,y]))=GR (.av [],aJ hp id (.cells ydB ydB ydB 2 [a,b]),ct):=by
 rw[HQ (by rfl) (by simp) (by simp[cf,h1,h2])];simp[aF,p1,p2,over]
def cm(neg:Bool)(m:Nat):Int:=if neg=ydB then -(m:Int) else m
def ri(h:Has P L 294 DL)(cT:Has P L 300 nL)(neg:Bool){l:List Int}(hv:bB v l)(hd:dg l)(hl:l.length<=20000000000):
  ∃r,ab P L 294 [.bool neg,v] r/\kE r (cm neg (dv l)):=by
 have⟨w,e1,hw,kU⟩:=DN cT hv hl;have zq:=BO l;have Ep:=Hc l;have nt:=Db hd;have hc:(neg&&decide ((0:Int)<((eL l).length:Nat)))=decide (cm neg (dv l)<0):=by
  unfold cm
  cases neg with
  | false=>simp
  | true=>
   simp only[wE,xN];by_cases h0:eL l=[]
   .rw [h0] at zq ⊢;simp only[dv] at zq;simp[<-zq]
   .have h1:0<(eL l).length:=tz.2 h0;have h2:0<dv l:=by
     rw[<-zq];rcases xi (dv (eL l)) with h | h
     .exact absurd (Wk Ep nt h) h0
     .exact h
    rw[yZ (by lia),yZ (by lia)]
 refine⟨.agg [.bool (decide (cm neg (dv l)<0)),w],?_,w,eL l,rfl,hw,nt,Ep,?_⟩
 .rw [<-hc];unfold ab at e1 ⊢;rw[aB h]
  cases neg with
  | false=>
   simp only[go_sem,ya,yb,yh,DL,aT,hv.ai,e1,hw.pu,hw.shut,hw.one,hw.cells,gh];rcases hw with ⟨rfl,_⟩ | ⟨e,rfl⟩<;>rfl
  | true=>
   simp only[go_sem,ya,yb,yh,DL,aT,hv.ai,e1,hw.len,hw.pu,hw.shut,hw.one,hw.cells,gh];rcases hw with ⟨rfl,_⟩ | ⟨e,rfl⟩<;>rfl
 .rw [zq];unfold cm;split<;>lia
def ajw(h:Has P L 298 RU)(jx:Has P L 294 DL)(cT:Has P L 300 nL){n:Int}(hK:K<=20000000000)(hv:kE v n)(hn:n.natAbs<1000000000^K):∃r,ab P L 298 [v] r/\kE r (-n):=by
 obtain⟨w,l,rfl,hw,hd,hz,zq⟩:=hv;have⟨r,e1,hr⟩:=ri jx cT (!decide (n<0)) hw hd (y7 (kI hd hz (by rw[zq];exact hn)) hK)
 have e:cm (!decide (n<0)) (dv l)= -n:=by
  rw[zq];unfold cm;by_cases h0:n<0
  .simp [h0];lia
  .simp [h0];lia
 rw[e] at hr;obtain⟨w2,l2,rfl,iO,gM,lX,Cp⟩:=hr;refine⟨_,?_,w2,l2,rfl,iO,gM,lX,Cp⟩;unfold ab at e1 ⊢;rw[aB h];simp only[go_sem,ya,yb,RU,aT,hw.pu,hw.ai,hw.one,iO.pu,iO.one,aP,yd,dt,e1,gh,bz];rcases iO with ⟨rfl,_⟩ | ⟨e,rfl⟩<;>rfl
section
variable {w:AV}{a b z:Int}{k m:Nat}
def dU(s:Int)(w:AV)(z:Int):Prop:=
 (w=.aj/\s=z/\-9223372036854775808<=z/\z<9223372036854775808)\/
 (∃e l,w=.au e l.length (l.map uc)/\lo (2^64) l/\jj l/\bv (2^64) l=z.natAbs/\s=(if z<0 then -1 else 1)/\9223372036854775808<=z.natAbs)
def cC(v:AV)(z:Int):Prop:=∃s w,v=.agg [aa s,w]/\dU s w z
def Bd(k:Nat)(z:Int):Prop:=z.natAbs<2^k
def Dv(k:Nat):2^k<=(2^64)^k:=Nat.pow_le_pow_left (by decide) k
def Bd.mono(h:Bd k z)(hk:k<=m):Bd m z:=yF h (xc (by decide) hk)
def Bd.neg(h:Bd k z):Bd k (-z):=by unfold Bd at h ⊢;rwa[Int.natAbs_neg]
def Bd.add(ha:Bd k a)(hb:Bd m b):Bd (max k m+1) (a+b):=by
 have h1:Bd (max k m) a:=ha.mono (by lia);have h2:Bd (max k m) b:=hb.mono (by lia);unfold Bd at h1 h2 ⊢
 grind
def Bd.sub(ha:Bd k a)(hb:Bd m b):Bd (max k m+1) (a-b):=by
 rw[Int.sub_eq_add_neg];exact ha.add hb.neg
def Bd.mul(ha:Bd k a)(hb:Bd m b):Bd (k+m) (a*b):=by
 unfold Bd at*
 rw[Int.natAbs_mul,xB];exact Nat.mul_lt_mul'' ha hb
def Bd.le(hb:Bd k b)(h:a.natAbs<=b.natAbs):Bd k a:=xL h hb
def WN.pos(h:WN v m)(h0:0<m):∃e l,v=.au e l.length (l.map uc)/\l≠[]/\lo (2^64) l/\jj l/\bv (2^64) l=m:=by
 have⟨l,hv,g,n,hb⟩:=h;have hl:l≠[]:=fun e=>by subst e;simp[bv] at hb;lia
 rcases hv with ⟨_,e⟩ | ⟨e,rfl⟩
 .simp_all
 .exact ⟨e,l,by simp,hl,g,n,hb⟩
def WN.aH(h:WN v m):∃l,bT v l/\lo (2^64) l/\jj l/\bv (2^64) l=m:=h
def qP(e:Bool)(n:Nat)(cs:List AV):lm .sl (.au e n cs) .aj=GR ydC:=rfl
def jb:lm .sl .aj .aj=GR ydB:=rfl
def P8(hp:Hp)(ct id:Nat)(a:Int)(e:Bool)(n:Nat)(cs:List AV)(x y:AV):iM hp ct id 0 2 [.int .i64 a,.au e n cs] (GR (.cells ydB ydB ydB 2 [x,y]))=GR (.av [],aJ hp id (.cells ydB ydB ydB 2 [.int .i64 a,.au e n cs]),ct):=gh rfl rfl rfl rfl
def AJ{a x y:AV}{r:List (Nat×Nat×X)}(h:dN a=ydB):lL tm [x,y] 0 1 [a] r=fill tm [a,y] r:=afC (by simp) h
def dU.r7(h1: -9223372036854775808<=z)(h2:z<9223372036854775808):cC (.agg [aa z,.aj]) z:=⟨z,.aj,rfl,.inl ⟨rfl,rfl,h1,h2⟩⟩
def dU.b7{s:Int}(h:dU s w z):(s<0↔z<0)/\(s=0↔z=0)/\-9223372036854775808<=s/\s<9223372036854775808:=by
 rcases h with ⟨_,rfl,h1,h2⟩ | ⟨e,l,_,_,_,_,rfl,h1⟩
 .grind
 .grind
structure Nu(P:aE)(L:Lib):Prop extends Wd P L where
 aCD:Has P L 117 RA
 aCE:Has P L 142 RC
 YX:Has P L 136 Mk
 MY:Has P L 145 Ci
 aCF:Has P L 146 Yp
 YY:Has P L 147 Mm
 ajx:Has P L 163 RG
 aCG:Has P L 118 FR
 ajy:Has P L 119 c119
 aCH:Has P L 156 Ys
 Cq:Has P L 100 oG
 YZ:Has P L 164 oI
 aCI:Has P L 148 Yq
 aCJ:Has P L 130 Yo
def Cr(h:Nu P L)(h1: -9223372036854775808<=z)(h2:z<9223372036854775808):ab P L 117 [aa z] (.agg [aa z,.aj])/\cC (.agg [aa z,.aj]) z:=⟨n117 h.aCD z,dU.r7 h1 h2⟩
def Y0(h:Nu P L){n:Int}(h1: -9223372036854775808<=n)(h2:n<9223372036854775808):ab P L 142 [aa n] (uc n.natAbs):=by
 unfold ab;rw[aB h.aCE];by_cases h0:n<0
 .have e:IntKind.wrap .u64 (IntKind.wrap .i64 (0-n))=(n.natAbs:Int):=by
   by_cases hm:n= -9223372036854775808
   .subst hm;rfl
   .rw [wrap64 (by lia) (by lia),Q1];lia
  simp only[go_sem,ya,RC,h0,agl,e]
 .have e:IntKind.wrap .u64 n=(n.natAbs:Int):=by rw[Q1];lia
  simp only[go_sem,ya,RC,h0,agl,e]
def A9(h:Nu P L){s:Int}(hz:dU s w z):∃r,ab P L 136 [.agg [aa s,w]] (.av [.bool (decide (z<0)),r])/\WN (bN r) z.natAbs:=by
 rcases hz with ⟨rfl,rfl,h1,h2⟩ | ⟨e,l,rfl,g,n,hb,hs,h1⟩
 .by_cases h0:s=0
  .subst h0;refine⟨.aj,?_,[],zJ,Qr,rfl,rfl⟩;unfold ab;rw[aB h.YX];simp only[go_sem,ya,yb,Mk,aT,aP,yd,dt,jb,LI,Int.reduceLT];rfl
  .have e1:=Y0 h h1 h2;refine⟨.c9 ydB 1 1 [uc s.natAbs],?_,[s.natAbs],pJ ydB [s.natAbs],HG.2 (by lia),GZ (by lia) [],Du _⟩;unfold ab;rw[aB h.YX];simp only[go_sem,ya,yb,yh,yg,Mk,aT,aP,yd,dt,jb,LI,h0,e1];rfl
 .have Ag:decide (s<0)=decide (z<0):=by rw[hs];split<;>simp<;>lia
  refine⟨.au e l.length (l.map uc),?_,l,pJ e l,g,n,hb⟩;unfold ab;rw[aB h.YX];simp only[go_sem,ya,yb,Mk,aT,aP,yd,dt,qP,LI,Ag];rfl
def ady(h:d<=9223372036854775807):IntKind.wrap .i64 (d:Int)=d:=wrapN (by lia)
def F2(h:Nu P L)(neg:Bool)(hw:WN w m)(hm:m<(2^64)^K)(hK:K<=90000000000):∃r,ab P L 145 [.bool neg,w] r/\cC r (cm neg m):=by
 have⟨l,hu,g,n,hb⟩:=hw;have zh:l.length<=90000000000:=y7 (pV n hb hm) hK;by_cases h0:l=[]
 .subst h0
  have:m=0:=by rw[<-hb];rfl
  subst this;have e:cm neg 0=0:=by unfold cm;cases neg<;>rfl
  rw[e];refine⟨.agg [aa 0,.aj],?_,dU.r7 (by decide) (by decide)⟩;unfold ab;rw[aB h.MY];simp only[go_sem,ya,yb,Ci,aT,hu.len,yR,show (((0:Nat):Nat):Int)=0 from rfl,AP];rfl
 .have mE:0<l.length:=tz.2 h0;by_cases h1:l.length=1/\l.getD 0 0<=9223372036854775807
  .have ⟨h1,h2⟩:=h1;obtain⟨d,rfl⟩:∃d,l=[d]:=by
    cases l with
    | nil=>simp at h1
    | cons d r=>cases r with
     | nil=>exact⟨d,rfl⟩
     | cons e r=>simp at h1
   have h2:d<=9223372036854775807:=h2;rw[Du] at hb;subst hb;have ex:=hu.bk (i:=0) (by simp);rw[show ([d]:List Nat).getD 0 0=d from rfl] at ex;have hlen:∀hp,jr hp 1 w=GR (.int .i64 1):=fun hp=>hu.len
   cases neg with
   | true=>
    refine⟨.agg [aa (0-(d:Int)),.aj],?_,?_⟩
    .unfold ab;rw[aB h.MY]
     simp only[go_sem,ya,yb,yh,Ci,aT,hlen,yaN,ex,show (d:Int)<=9223372036854775807 by lia,Qs,ady h2,wrap64 (n:=0-(d:Int)) (by lia) (by lia),AP];rfl
    .have:cm ydB d=0-(d:Int):=by unfold cm;simp
     rw[this];exact dU.r7 (by lia) (by lia)
   | false=>
    refine⟨.agg [aa (d:Int),.aj],?_,?_⟩
    .unfold ab;rw[aB h.MY];simp only[go_sem,ya,yb,yh,Ci,aT,hlen,yaN,ex,show (d:Int)<=9223372036854775807 by lia,Qs,ady h2,AP];rfl
    .have:cm ydC d=(d:Int):=by unfold cm;simp
     rw[this];exact dU.r7 (by lia) (by lia)
  .have zt:9223372036854775808<=m:=by
    rw[<-hb];by_cases h2:l.length=1
    .obtain ⟨d,rfl⟩:∃d,l=[d]:=by
      cases l with
      | nil=>simp at h2
      | cons d r=>cases r with
       | nil=>exact⟨d,rfl⟩
       | cons e r=>simp at h2
     have:¬d<=9223372036854775807:=fun hd=>h1 ⟨h2,hd⟩
     rw[Du];lia
    .have h3:=WX (b:=2^64) (by decide) n h0;have h4:(2^64)^1<=(2^64)^(l.length-1):=xc (by decide) (by lia);rw[Nat.pow_one] at h4
     lia
   have de:∃e,w=.au e l.length (l.map uc):=by
    rcases hu with ⟨rfl,hh⟩ | ⟨e,rfl⟩
    .simp at hh;exact absurd hh h0
    .exact ⟨e,by simp⟩
   obtain⟨e,rfl⟩:=de;have ex:=hu.bk (i:=0) mE;have first:(decide ((l.length:Int)=1)=ydB/\¬((l.getD 0 0:Nat):Int)<=9223372036854775807)\/decide ((l.length:Int)=1)=ydC:=by
    by_cases h2:l.length=1
    .left;refine⟨by simp;lia,fun hd=>h1 ⟨h2,by lia⟩⟩
    .right;simp;lia
   cases neg with
   | true=>
    refine⟨.agg [aa (-1),.au e l.length (l.map uc)],?_,-1,_,rfl,.inr ⟨e,l,rfl,g,n,by rw[hb];unfold cm;simp,by unfold cm;simp;lia,by unfold cm;simp;lia⟩⟩
    unfold ab;rw[aB h.MY];rcases first with ⟨f1,f2⟩ | f1
    .simp only [go_sem,ya,yb,yh,Ci,aT,show ¬(l.length:Int)=0 by lia,f1,f2,ex,AJ,P8];rfl
    .simp only [go_sem,ya,yb,yh,Ci,aT,show ¬(l.length:Int)=0 by lia,f1,AJ,P8];rfl
   | false=>
    refine⟨.agg [aa 1,.au e l.length (l.map uc)],?_,1,_,rfl,.inr ⟨e,l,rfl,g,n,by rw[hb];unfold cm;simp,by unfold cm;simp,by unfold cm;simp;lia⟩⟩
    unfold ab;rw[aB h.MY];rcases first with ⟨f1,f2⟩ | f1
    .simp only [go_sem,ya,yb,yh,Ci,aT,show ¬(l.length:Int)=0 by lia,f1,f2,ex,AJ,P8];rfl
    .simp only [go_sem,ya,yb,yh,Ci,aT,show ¬(l.length:Int)=0 by lia,f1,AJ,P8];rfl
end
section
variable {v w:AV}{a b s z:Int}{l:List Nat}{K:Nat}
def bD:VC->VC
 | .seq a _=>a
 | c=>c
def asb{y:Nat}(ha:a.natAbs=x)(hb:b.natAbs=y)(h:decide (a<0)=decide (b<0)):cm (decide (a<0)) (x+y)=a+b:=by
 unfold cm
 grind
def aew{m:Nat}(hm:m+b.natAbs=a.natAbs)(h:¬decide (a<0)=decide (b<0)):cm (decide (a<0)) m=a+b:=by
 unfold cm
 grind
def asd:cm (!decide (a<0)) a.natAbs= -a:=by
 unfold cm
 grind
def aex:cm (decide (a<0) !=decide (b<0)) (a.natAbs*b.natAbs)=a*b:=by
 unfold cm
 grind
def oB(h:bT w l)(hp:Hp):result hp (.agg [aa s,w])=GR (.agg [aa s,w]):=by
 rcases h with ⟨rfl,_⟩ | ⟨e,rfl⟩<;>rfl
def dP(h:bT w l)(hp:Hp)(ct id:Nat)(x y:AV):iM hp ct id 0 2 [.int .i64 s,w] (GR (.cells ydB ydB ydB 2 [x,y]))=GR (.av [],aJ hp id (.cells ydB ydB ydB 2 [.int .i64 s,w]),ct):=gh rfl h.one rfl h.pu
def dU.aH(h:dU s w z):∃l,bT w l:=by
 rcases h with ⟨rfl,_⟩ | ⟨e,l,rfl,_⟩
 .exact ⟨[],zJ⟩
 .exact ⟨l,pJ e l⟩
def ah3(hp:Hp)(sz:Nat)(ag:Bool):AV->Option AV
 | .ptr id o=>IU sz ag o (ah hp id)
 | .bC cs=>gY sz ag cs
 | _=>GS
def dL(tm:Env)(hp:Hp)(ct base i sz:Nat)(ag:Bool):results1 ⟨tm,hp,ct,base⟩ (.cell i sz ag)=ah3 hp sz ag (ak tm i):=by
 rfl
def dO(hp:Hp)(sz:Nat)(ag:Bool)(id o:Nat):ah3 hp sz ag (.ptr id o)=IU sz ag o (ah hp id):=rfl
def Ir(h:Nu P L)(hv:cC v z):ab P L 146 [v] (aa (b7 z)):=by
 obtain⟨s,w,rfl,hn⟩:=hv;have⟨l,hu⟩:=hn.aH;have e:b7 s=b7 z:=by
  have⟨h1,h2,_⟩:=hn.b7;unfold b7;by_cases h0:z<0
  .rw [yC h0,yC (h1.2 h0)]
  .by_cases h3:z=0
   .rw [yq (fun h=>h0 (h1.1 h)),yC (h2.2 h3),yq h0,yC h3]
   .rw [yq (fun h=>h0 (h1.1 h)),yq (fun h=>h3 (h2.1 h)),yq h0,yq h3]
 unfold ab;rw[aB h.aCF];simp only[go_sem,ya,yb,Yp,aT,hu.pu,hu.one,aP,yd,Fo,fB,EV,fL,axV,e]
def Is(h:Nu P L)(hv:cC v z)(hz:Bd K z)(hK:K<=90000000000):∃r,ab P L 147 [v] r/\cC r (-z):=by
 obtain⟨s,w,rfl,hn⟩:=hv;have⟨p,e1,hp⟩:=A9 h hn;have⟨lp,jD,_⟩:=hp.aH;have⟨r,e2,hr⟩:=F2 h (!decide (z<0)) hp (yF hz (Dv K)) hK;rw[asd] at hr;have bO:=hr;obtain⟨s',w',rfl,ef⟩:=hr;have⟨l',kV⟩:=ef.aH;rcases hn with ⟨rfl,rfl,h1,h2⟩ | ⟨e,l0,rfl,g,n,hb,hs,h1⟩
 .by_cases h0:s= -9223372036854775808
  .refine ⟨_,?_,bO⟩;unfold ab;rw[aB h.YY];simp only[go_sem,ya,yb,Mm,aT,aP,yd,dt,jb,eQ,h0];rw[h0] at e1 e2;simp only[go_sem,ya,cd,bS,e1,e2,jD.ai,bz,dL,dO,cd,ye,oB kV,dP kV]
  .refine ⟨.agg [aa (-s),.aj],?_,dU.r7 (by lia) (by lia)⟩;unfold ab;rw[aB h.YY]
   simp only[go_sem,ya,yb,Mm,aT,aP,yd,dt,jb,eQ,h0,wrap64 (n:=0-s) (by lia) (by lia),AP,AJ];rw[Int.zero_sub];rfl
 .refine ⟨_,?_,bO⟩;unfold ab;rw[aB h.YY];simp only[go_sem,ya,yb,Mm,aT,aP,yd,dt,qP,eQ,cd,bS,e1,e2,jD.ai,bz,dL,dO,cd,ye,oB kV,dP kV]
def Y1(h:Nu P L)(hv:cC v z)(hz:Bd K z)(hK:K<=90000000000):∃r,ab P L 163 [v] r/\cC r (z.natAbs:Nat):=by
 have fO:=hv;obtain⟨s,w,rfl,hn⟩:=hv;have⟨l,hu⟩:=hn.aH;have zu:=hn.b7.1;by_cases h0:z<0
 .have ⟨r,e1,hr⟩:=Is h fO hz hK;rw[show -z=(z.natAbs:Int) by lia] at hr;have bO:=hr;obtain⟨s',w',rfl,ef⟩:=hr;have⟨l',kV⟩:=ef.aH;refine⟨_,?_,bO⟩;unfold ab;rw[aB h.ajx];simp only[go_sem,ya,yb,RG,aT,hu.pu,hu.ai,hu.one,aP,yd,zu.2 h0,cd,bS,e1,bz,dL,dO,cd,ye,oB kV,dP kV]
 .rw [show ((z.natAbs:Nat):Int)=z by lia];refine⟨_,?_,fO⟩;unfold ab;rw[aB h.ajx];simp only[go_sem,ya,yb,RG,aT,hu.pu,hu.one,aP,yd,show ¬s<0 from fun h=>h0 (zu.1 h),cd,dL,dO,cd,ye,oB hu,dP hu]
def ayc(h:Nu P L){s1 s2:Int}{w1 w2:AV}(ha:dU s1 w1 a)(hb:dU s2 w2 b)(ka:Bd K a)(kb:Bd K b)(hK:K<=40000000000):
  ∃r,cC r (a+b)/\∀tm,ak tm 2=.ptr 0 0->ak tm 3=.ptr 1 0->ak tm 4=.ptr 2 0->fS [.cell 4 2 ydB] (D P L (aI (aI c119.body)) ⟨tm,[(2,.cells ydB ydB ydB 2 [.int .i64 0,.aj]),(1,.cells ydB ydB ydB 2 [aa s2,w2]),(0,.cells ydB ydB ydB 2 [aa s1,w1])],3,0⟩)=GR r:=by
 have⟨l1,u1⟩:=ha.aH;have⟨l2,u2⟩:=hb.aH;have⟨p,e1,hp⟩:=A9 h ha;have⟨q,e2,hq⟩:=A9 h hb;have⟨lp,jD,gp,np,vp⟩:=hp.aH;have⟨lq,rQ,gq,nq,vq⟩:=hq.aH;have Er:=yF ka (Dv K);have I0:=yF kb (Dv K);have llp:lp.length<=40000000000:=y7 (pV np vp Er) hK;have llq:lq.length<=40000000000:=y7 (pV nq vq I0) hK;by_cases hs:decide (a<0)=decide (b<0)
 .have ⟨o,cN,e3,ho,qt,no,vo⟩:=aCl h.aCv h.oL h.jd jD rQ gp gq (by lia) (by lia);have⟨r,e4,hr⟩:=F2 h (decide (a<0)) ⟨cN,ho,qt,no,vo⟩ (K:=K+1) (by rw[vp,vq,xh];lia) (by lia)
  rw[asb vp.symm vq.symm hs] at hr;have bO:=hr;obtain⟨s',w',rfl,ef⟩:=hr;have⟨l',kV⟩:=ef.aH;refine⟨_,bO,fun tm t2 t3 t4=>?_⟩;simp only[go_sem,ya,c119,aI,t2,t3,cd,bS,u1.ai,u2.ai,e1,e2,jD.ai,rQ.ai,eQ,sK,hs,yae];rw[hs] at e4;simp only[go_sem,ya,t4,e3,ho.ai,ho.shut,e4,bz,dL,dO,cd,ye,oB kV,dP kV]
 .have N9:(decide (a<0)==decide (b<0))=ydC:=by simpa using hs
  have e3:=aji h.ajt jD rQ gp gq np nq (by lia) (by lia);rw[vp,vq] at e3;by_cases hc:b.natAbs<=a.natAbs
  .have ⟨o,cN,e4,ho,qt,no,vo⟩:=ajj h.aju h.oL h.A7 jD rQ gp gq nq (by lia) (by rw[vp,vq];exact hc)
   rw[vp,vq] at vo;have⟨r,e5,hr⟩:=F2 h (decide (a<0)) ⟨cN,ho,qt,no,rfl⟩ (K:=K) (by lia) (by lia);rw[aew vo hs] at hr;have bO:=hr;obtain⟨s',w',rfl,ef⟩:=hr;have⟨l',kV⟩:=ef.aH;have fk:(0:Int)<=eD a.natAbs b.natAbs:=by unfold eD;rw[yq (by lia)];split<;>decide
   refine⟨_,bO,fun tm t2 t3 t4=>?_⟩;simp only[go_sem,ya,c119,aI,t2,t3,t4,cd,bS,u1.ai,u2.ai,e1,e2,jD.ai,rQ.ai,eQ,sK,N9,e3,fk,e4,ho.ai,ho.shut,e5,bz,dL,dO,cd,ye,oB kV,dP kV]
  .have ⟨o,cN,e4,ho,qt,no,vo⟩:=ajj h.aju h.oL h.A7 rQ jD gq gp np (by lia) (by rw[vp,vq];lia)
   rw[vp,vq] at vo;have⟨r,e5,hr⟩:=F2 h (decide (b<0)) ⟨cN,ho,qt,no,rfl⟩ (K:=K) (by lia) (by lia);rw[aew vo (fun e=>hs e.symm),Int.add_comm] at hr;have bO:=hr;obtain⟨s',w',rfl,ef⟩:=hr;have⟨l',kV⟩:=ef.aH;have fk:¬(0:Int)<=eD a.natAbs b.natAbs:=by unfold eD;rw[yC (by lia)];decide
   refine⟨_,bO,fun tm t2 t3 t4=>?_⟩;simp only[go_sem,ya,c119,aI,t2,t3,t4,cd,bS,u1.ai,u2.ai,e1,e2,jD.ai,rQ.ai,eQ,sK,N9,e3,fk,e4,ho.ai,ho.shut,e5,bz,dL,dO,cd,ye,oB kV,dP kV]
def MZ(h:Nu P L)(hv:cC v a)(hw:cC w b)(ka:Bd K a)(kb:Bd K b)(hK:K<=40000000000):∃r,ab P L 119 [v,w] r/\cC r (a+b):=by
 obtain⟨s1,w1,rfl,h1⟩:=hv;obtain⟨s2,w2,rfl,h2⟩:=hw;have⟨l2,u2⟩:=h2.aH;have⟨r,hr,tail⟩:=ayc h h1 h2 ka kb hK;have fin:∀tm,ak tm 2=.ptr 0 0->ak tm 3=.ptr 1 0->ak tm 4=.ptr 2 0->
   D P L (.seq (bD c119.body) (bD (aI c119.body))) ⟨[(0,.agg [aa s1,w1]),(1,.agg [aa s2,w2])],[],0,0⟩=GR (.normal,⟨tm,[(2,.cells ydB ydB ydB 2 [.int .i64 0,.aj]),(1,.cells ydB ydB ydB 2 [aa s2,w2]),(0,.cells ydB ydB ydB 2 [aa s1,w1])],3,0⟩)->ab P L 119 [.agg [aa s1,w1],.agg [aa s2,w2]] r:=fun tm t2 t3 t4 e=>by
  unfold ab;rw[aB h.ajy];show fS [.cell 4 2 ydB] (D P L (.seq (bD c119.body) (.seq (bD (aI c119.body)) (aI (aI c119.body)))) ⟨[(0,.agg [aa s1,w1]),(1,.agg [aa s2,w2])],[],0,0⟩)=_
  have e2:D P L (.seq (bD c119.body) (.seq (bD (aI c119.body)) (aI (aI c119.body)))) ⟨[(0,.agg [aa s1,w1]),(1,.agg [aa s2,w2])],[],0,0⟩=zS P L (D P L (.seq (bD c119.body) (bD (aI c119.body))) ⟨[(0,.agg [aa s1,w1]),(1,.agg [aa s2,w2])],[],0,0⟩) (aI (aI c119.body)):=by
   rw[qS,qS]
   cases D P L (bD c119.body) ⟨[(0,.agg [aa s1,w1]),(1,.agg [aa s2,w2])],[],0,0⟩ with
   | none=>rfl
   | some q=>
    have⟨ex,st⟩:=q
    cases ex with
    | normal=>rw[ml,ml,qS]
    | ret=>rfl
    | exit id=>rfl
  rw[e2,e,ml];exact tail tm t2 t3 t4
 rcases h1 with ⟨rfl,rfl,a1,a2⟩ | ⟨e,l,rfl,ga,na,va,sa,a1⟩
 .rcases h2 with ⟨rfl,rfl,b1,b2⟩ | ⟨e,l,rfl,gb,nb,vb,sb,b1⟩
  .by_cases cA: -9223372036854775808<=s1+s2/\s1+s2<9223372036854775808
   .refine ⟨.agg [aa (s1+s2),.aj],?_,dU.r7 cA.1 cA.2⟩;have e:decide (s1<s1+s2)=decide (0<s2):=by
     by_cases h:0<s2
     .simp only [h,yp];exact yZ (by lia)
     .simp only [h,yt];exact yJ (by lia)
    unfold ab;rw[aB h.ajy]
    simp only[go_sem,ya,yb,c119,aT,AP,jb,eQ,sK,aP,yd,dt,wrap64 (n:=s1+s2) cA.1 cA.2,e,yae,AJ];rfl
   .have e:(decide (s1<IntKind.wrap .i64 (s1+s2))==decide (0<s2))=ydC:=by
     have hw:(9223372036854775808<=s1+s2/\IntKind.wrap .i64 (s1+s2)=s1+s2-2^64)\/(s1+s2< -9223372036854775808/\IntKind.wrap .i64 (s1+s2)=s1+s2+2^64):=by
      simp only[IntKind.wrap,IntKind.bits,IntKind.signed,wE]
      split<;>rename_i h<;>simp at h<;>lia
     by_cases h0:0<s2
     .rw [yZ h0,yJ (by lia)];rfl
     .rw [yJ h0,yZ (by lia)];rfl
    refine⟨r,fin _ ?_ ?_ ?_ (by simp only[go_sem,ya,yb,bD,aI,c119,aT,jb,eQ,sK,aP,yd,dt,e]<;>rfl),hr⟩<;>simp only[go_sem,ya]
  .refine ⟨r,fin _ ?_ ?_ ?_ (by simp only[go_sem,ya,yb,bD,aI,c119,aT,jb,qP,eQ,aP,yd,dt]<;>rfl),hr⟩<;>simp only[go_sem,ya]
 .refine ⟨r,fin _ ?_ ?_ ?_ (by simp only[go_sem,ya,yb,bD,aI,c119,aT,u2.pu,u2.one,qP,eQ,aP,yd,dt]<;>rfl),hr⟩<;>simp only[go_sem,ya]
end
end VE
