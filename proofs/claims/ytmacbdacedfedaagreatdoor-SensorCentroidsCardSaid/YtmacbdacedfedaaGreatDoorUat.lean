import Derived.Test.YtmacbdacedfedaaGreatDoorUas
set_option linter.all false
set_option maxRecDepth 100000
open Bool renaming and_eq_true->ye,and_self->vn,and_true->vL,false_and->wK,false_eq_true->yD,false_or->vV,not_false->yZ,not_true->yY,true_and->wS,true_or->tc
open Eq renaming trans->ybl
open Go renaming DataW->wa,Field->ua,FloatKind->wc,IntKind->xe,MemPlace->wN,Program->xx,TypeId->yA,Value->yh,World->yk
open Go.FloatKind renaming f32->ycw
open Ieee renaming single->ycF
open Int renaming natCast_add->yaV,natCast_mul->xS,ofNat_tdiv->yce,ofNat_tmod->ycd,toNat_natCast->xh,toNat_of_nonneg->vl
open List renaming any_append->ybJ,any_eq_true->yag,append_assoc->xD,append_nil->xU,cons_append->yj,drop_eq_getElem_cons->yR,drop_eq_nil_of_le->xd,drop_succ_cons->yH,drop_zero->yf,ext_getElem->yae,filter_eq_nil_iff->tP,flatMap_def->ybB,flatten_cons->uB,getD_eq_getElem?_getD->xc,getElem?_eq_getElem->xv,getElem_append_left->wD,getElem_append_right->xO,getElem_cons_succ->wT,getElem_cons_zero->wI,getElem_map->vj,getElem_mem->xI,getElem_replicate->tj,getElem_set->ybD,length->xT,length_append->yJ,length_cons->yF,length_eq_zero_iff->wZ,length_map->yS,length_nil->yN,length_replicate->tD,length_set->vW,length_take->yQ,length_zipWith->ybh,mapM_cons->uO,map_append->xg,map_congr_left->vY,map_cons->xb,map_map->tz,map_nil->vd,mem_append->xF,mem_cons->xy,mem_cons_of_mem->xM,mem_cons_self->wA,mem_iff_getElem->wE,mem_map->wJ,mem_range->wW,mem_range'_1->ue,mem_singleton->xu,nil_append->yy,nodup_append->ub,nodup_cons->wm,nodup_range'->uf,not_mem_nil->ybC,range->xY,range'->xZ,range'_eq_map_range->yaE,range_succ->vt,replicate->yz,replicate_succ->wP,set_eq_take_append_cons_drop->vI,singleton_append->uo,take_length->xL,take_of_length_le->yE,take_succ_eq_append_getElem->xi,zipWith->vh,zipWith_cons_cons->yaM
open List.cons renaming injEq->tW
open Nat renaming add_mul->xR,add_zero->yX,ble_eq_true_of_le->yv,div_lt_of_lt_mul->ybg,le_refl->yp,min_eq_left->xB,min_self->ycG,mod_lt->xJ,mul_comm->xt,mul_le_mul->xf,mul_le_mul_right->yO,mul_one->ym,mul_pos->wU,not_lt_zero->ybN,one_mul->tZ,pos_of_ne_zero->th,reduceAdd->yb,reduceEqDiff->ya,reduceLT->yx,reduceLeDiff->yi,reduceMul->xp,zero_add->yd,zero_mul->wC
open Option renaming bind_eq_bind->vU,bind_some->wH,map_eq_some_iff->wR,pure_def->ve
open Option.some renaming injEq->yc
open Prod.mk renaming injEq->yo
open Rat renaming not_lt->yaw
open Option renaming some->Gp
open Bool renaming true->ydb,false->ydc
namespace VE
open Go (IntKind)
variable {P:aE}{L:Lib}
section
open Go
section
variable {H:Type}{enc:yA×yh->H}{P:xx}{w:yk}{base:Nat}{sp:Nat->Bool}{held:Bool}
def mapM_mem{α β:Type}{f:α->Option β}:∀{l:List α} {r:List β},l.mapM f=Gp r->∀y,y∈r->∃x,f x=Gp y
 | [],r,h,y,hy=>by simp only[List.mapM_nil,ve,yc] at h;subst h;cases hy
 | x::l,r,h,y,hy=>by
  rw[uO] at h
  cases h1:f x with
  | none=>simp[h1] at h
  | some z=>
   cases h2:l.mapM f with
   | none=>simp[h1,h2] at h
   | some zs=>
    simp only[h1,h2,wH,vU,ve,yc] at h;subst h;rcases xy.1 hy with rfl | hy
    .grind
    .exact mapM_mem h2 y hy
def Rd(enc:yA×yh->H)(P:xx)(w:yk)(base:Nat)(sp:Nat->Bool)(held:Bool)(t:yA)(d:wa H):Prop:=∃bm cs ps,DataW.trod enc P w base sp held bm t cs=Gp (d,ps)
def axa{t:yA}{k:xe}{d:wa H}{n:Nat}(ht:P.underlying t=Gp (.int k))(h:Rd enc P w base sp held t d):∃z,cP P (n+1) t d=[.int k z]/\(Lit.int k z).wf=ydb:=by
 obtain⟨bm,cs,ps,h⟩:=h
 cases bm with
 | zero=>simp[DataW.trod] at h
 | succ bm=>
  unfold DataW.trod at h
  split at h
  all_goals first
   | (rename_i hu;rw[ht] at hu;cases hu;done)
   | skip
  .rename_i k1 k2 z hu;rw[ht] at hu;injection hu with hu
   injection hu with hu
   subst hu
   split at h
   .rename_i hk;obtain⟨rfl,rfl⟩:=h;exact⟨z,by simp only[cP,ht],hk.2⟩
   .cases h
  grind
def aqO{t e:yA}{d:wa H}{n:Nat}(ht:P.underlying t=Gp (.slice e))(h:Rd enc P w base sp held t d):
  cP P (n+1) t d=[.ah]\/∃(x:Bool) (kV:List (wa H)),cP P (n+1) t d=[.ap x kV.length (kV.flatMap fun y=>cP P n e y)]/\∀y,y∈kV->Rd enc P w base sp held e y:=by
 obtain⟨bm,cs,ps,h⟩:=h
 cases bm with
 | zero=>simp[DataW.trod] at h
 | succ bm=>
  unfold DataW.trod at h
  split at h
  all_goals first
   | (rename_i hu;rw[ht] at hu;cases hu;done)
   | skip
  .simp only [yc,yo] at h;obtain⟨rfl,rfl⟩:=h;exact .inl (by simp only[cP,ht])
  .rename_i e' a len cap hu;rw[ht] at hu;injection hu with hu
   injection hu with hu
   subst hu;simp only at h
   split at h
   case isFalse=>cases h
   cases h1:(xY len).mapM fun i=>(w.cells? base (a.add (i*P.cellsOf e)) (P.cellsOf e)).bind (DataW.trod enc P w base sp held bm e) with
   | none=>rw[h1] at h;simp at h
   | some kV=>
    rw[h1] at h;obtain⟨rest,_,h⟩:=wR.1 h;obtain⟨rfl,rfl⟩:=h;refine .inr ⟨(rest.map (·.1)).isEmpty,kV.map (·.1),by simp only[cP,ht,yS],?_⟩;intro y hy;obtain⟨p,hp,rfl⟩:=wJ.1 hy;obtain⟨i,hi⟩:=mapM_mem h1 p hp;obtain⟨dE,_,B2⟩:=Option.bind_eq_some_iff.1 hi;exact⟨bm,dE,p.2,B2⟩
  grind
def aoG{t:yA}{fs:Array ua}{d:wa H}{n:Nat}(ht:P.underlying t=Gp (.struct fs))(h:Rd enc P w base sp held t d):
  ∃ds:List (wa H),ds.length=fs.toList.length/\cP P (n+1) t d=(fs.toList.zip ds).flatMap (fun x=>cP P n x.1.type x.2)/\∀i (h1:i<fs.toList.length) (h2:i<ds.length),Rd enc P w base sp held fs.toList[i].type ds[i]:=by
 obtain⟨bm,cs,ps,h⟩:=h
 cases bm with
 | zero=>simp[DataW.trod] at h
 | succ bm=>
  unfold DataW.trod at h
  split at h
  all_goals first
   | (rename_i hu;rw[ht] at hu;cases hu;done)
   | (cases h;done)
   | skip
  rename_i cs x1 No fs' hu;rw[ht] at hu;injection hu with hu
  injection hu with hu
  subst hu
  split at h
  case isFalse=>cases h
  obtain⟨xs,h1,h⟩:=wR.1 h;obtain⟨rfl,rfl⟩:=h;refine⟨xs.map (·.1),by simp[OB h1],by simp only[cP,ht],?_⟩;have key:∀{r:List ua} {xs:List (wa H×List wN)},r.mapM (fun f=>DataW.trod enc P w base sp held bm f.type ((cs.drop f.offset).take (P.cellsOf f.type)))=Gp xs->
    ∀i (h1:i<r.length) (h2:i<(xs.map (·.1)).length),Rd enc P w base sp held r[i].type (xs.map (·.1))[i]:=by
   intro r
   induction r with
   | nil=>intro xs h i h1;exact absurd h1 (ybN i)
   | cons f r ih=>
    intro xs h i h1 h2;rw[uO] at h
    cases g1:DataW.trod enc P w base sp held bm f.type ((cs.drop f.offset).take (P.cellsOf f.type)) with
    | none=>simp[g1] at h
    | some x=>
     cases g2:r.mapM (fun f=>DataW.trod enc P w base sp held bm f.type ((cs.drop f.offset).take (P.cellsOf f.type))) with
     | none=>simp[g1,g2] at h
     | some ys=>
      simp only[g1,g2,wH,vU,ve,yc] at h;subst h
      cases i with
      | zero=>exact⟨bm,_,x.2,g1⟩
      | succ i=>exact ih g2 i (by simpa using h1) (by simpa using h2)
  exact key h1
def aqP{t e:yA}{k:Nat}{d:wa H}{n:Nat}(ht:P.underlying t=Gp (.array k e))(h:Rd enc P w base sp held t d):
  ∃ds:List (wa H),ds.length=k/\cP P (n+1) t d=ds.flatMap (fun x=>cP P n e x)/\∀y,y∈ds->Rd enc P w base sp held e y:=by
 obtain⟨bm,cs,ps,h⟩:=h
 cases bm with
 | zero=>simp[DataW.trod] at h
 | succ bm=>
  unfold DataW.trod at h
  split at h
  all_goals first
   | (rename_i hu;rw[ht] at hu;cases hu;done)
   | (cases h;done)
   | skip
  rename_i cs x1 No k' e' hu;rw[ht] at hu;injection hu with hu
  injection hu with zA Cb
  subst zA;subst Cb
  split at h
  case isFalse=>cases h
  obtain⟨xs,h1,h⟩:=wR.1 h;obtain⟨rfl,rfl⟩:=h;refine⟨xs.map (·.1),by simp[OB h1],by simp only[cP,ht],fun y hy=>?_⟩;obtain⟨p,hp,rfl⟩:=wJ.1 hy;obtain⟨i,hi⟩:=mapM_mem h1 p hp;exact⟨bm,_,p.2,hi⟩
end
end
section
open Go
inductive Ty
 | int (k:xe)
 | aw (k:wc)
 | bool
 | str
 | sl (e:Ty)
 | nil
 | cat (a b:Ty)
 | ar (n:Nat) (e:Ty)
def nk:Ty->List AV->Prop
 | .int k,l=>∃z,l=[.int k z]/\(Lit.int k z).wf=ydb
 | .aw k,l=>∃b,l=[.aw k b]/\(Lit.float k b).wf=ydb
 | .bool,l=>∃b,l=[.bool b]
 | .str,l=>∃s:List Nat,l=[.str s]/\s.length<9223372036854775808/\∀c,c∈s->c<256
 | .sl e,l=>l=[.ah]\/∃(x:Bool) (ps:List (List AV)),l=[.ap x ps.length ps.flatten]/\∀p,p∈ps->nk e p
 | .nil,l=>l=[]
 | .cat a b,l=>∃x y,l=x++y/\nk a x/\nk b y
 | .ar n e,l=>∃ps:List (List AV),ps.length=n/\l=ps.flatten/\∀p,p∈ps->nk e p
def oF:List (Option Ty)->Option Ty
 | []=>Gp .nil
 | some a::r=>match oF r with
  | some b=>Gp (.cat a b)
  | none=>none
 | none::_=>none
def ic(P:xx):Nat->yA->Option Ty
 | 0,_=>none
 | n+1,t=>
  match P.underlying t with
  | some .bool=>Gp .bool
  | some (.int k)=>Gp (.int k)
  | some (.float k)=>Gp (.aw k)
  | some .string=>Gp .str
  | some (.slice e)=>(ic P n e).map .sl
  | some (.struct fs)=>oF (fs.toList.map fun f=>ic P n f.type)
  | some (.array k e)=>(ic P n e).map (.ar k)
  | _=>none
section
variable {H:Type}{enc:yA×yh->H}{P:xx}{w:yk}{base:Nat}{sp:Nat->Bool}{held:Bool}
def axb{t:yA}{k:wc}{d:wa H}{n:Nat}(ht:P.underlying t=Gp (.float k))(h:Rd enc P w base sp held t d):∃b,cP P (n+1) t d=[.aw k b]/\(Lit.float k b).wf=ydb:=by
 obtain⟨bm,cs,ps,h⟩:=h
 cases bm with
 | zero=>simp[DataW.trod] at h
 | succ bm=>
  unfold DataW.trod at h
  split at h
  all_goals first
   | (rename_i hu;rw[ht] at hu;cases hu;done)
   | skip
  .rename_i k1 k2 z hu;rw[ht] at hu;injection hu with hu
   injection hu with hu
   subst hu
   split at h
   .rename_i hw;obtain⟨rfl,rfl⟩:=h;exact⟨z,by simp only[cP,ht],hw.2⟩
   .cases h
  grind
def ats{t:yA}{d:wa H}{n:Nat}(ht:P.underlying t=Gp .bool)(h:Rd enc P w base sp held t d):∃b,cP P (n+1) t d=[.bool b]:=by
 obtain⟨bm,cs,ps,h⟩:=h
 cases bm with
 | zero=>simp[DataW.trod] at h
 | succ bm=>
  unfold DataW.trod at h
  split at h
  all_goals first
   | (rename_i hu;rw[ht] at hu;cases hu;done)
   | skip
  .simp only [yc,yo] at h;obtain⟨rfl,rfl⟩:=h;rename_i b _;exact⟨b,by simp only[cP,ht]⟩
  grind
def axc{t:yA}{d:wa H}{n:Nat}(ht:P.underlying t=Gp .string)(h:Rd enc P w base sp held t d):
  ∃s:List Nat,cP P (n+1) t d=[.str s]/\s.length<9223372036854775808/\∀c,c∈s->c<256:=by
 obtain⟨bm,cs,ps,h⟩:=h
 cases bm with
 | zero=>simp[DataW.trod] at h
 | succ bm=>
  unfold DataW.trod at h
  split at h
  all_goals first
   | (rename_i hu;rw[ht] at hu;cases hu;done)
   | skip
  .rename_i s hu
   split at h
   .rename_i hs;obtain⟨rfl,rfl⟩:=h;refine⟨_,by simp only[cP,ht];rfl,?_,fun c hc=>?_⟩
    .simp only [yS,Array.length_toList];have h1:s.size<=9223372036854775807:=hs;have h2:s.data.size=s.size:=rfl;omega
    .obtain ⟨b,_,rfl⟩:=wJ.1 hc;exact b.toNat_lt
   .cases h
  grind
def abt{n:Nat}(ih:∀{t:yA} {T:Ty} {d:wa H},ic P n t=Gp T->Rd enc P w base sp held t d->nk T (cP P n t d)):
  ∀(fs:List ua) (ds:List (wa H)) (T:Ty),oF (fs.map fun f=>ic P n f.type)=Gp T->ds.length=fs.length->(∀i (h1:i<fs.length) (h2:i<ds.length),Rd enc P w base sp held fs[i].type ds[i])->
   nk T ((fs.zip ds).flatMap fun x=>cP P n x.1.type x.2)
 | [],ds,T,hT,_,_=>by
  simp only[vd,oF,yc] at hT;subst hT;simp[nk]
 | f::fs,[],T,_,hl,_=>by simp at hl
 | f::fs,d::ds,T,hT,hl,hr=>by
  simp only[xb] at hT
  cases h1:ic P n f.type with
  | none=>simp[h1,oF] at hT
  | some a=>
   cases h2:oF (fs.map fun f=>ic P n f.type) with
   | none=>simp[h1,h2,oF] at hT
   | some b=>
    simp only[h1,h2,oF,yc] at hT;subst hT;exact⟨_,_,rfl,ih h1 (hr 0 (by simp) (by simp)),abt ih fs ds b h2 (by simpa using hl) (fun i h1 h2=>hr (i+1) (by simpa using h1) (by simpa using h2))⟩
def afr:∀(n:Nat) {t:yA} {T:Ty} {d:wa H},ic P n t=Gp T->Rd enc P w base sp held t d->nk T (cP P n t d)
 | 0,t,T,d,hT,_=>by simp[ic] at hT
 | n+1,t,T,d,hT,hr=>by
  have ih:=@afr n
  cases hu:P.underlying t with
  | none=>simp[ic,hu] at hT
  | some u=>
   cases u with
   | slice e=>
    simp only[ic,hu] at hT;obtain⟨E,hE,rfl⟩:=wR.1 hT
    rcases aqO (n:=n) hu hr with h | ⟨x,kV,h,hm⟩
    .exact .inl h
    .refine .inr ⟨x,kV.map (cP P n e),by rw[h,yS,ybB],fun p hp=>?_⟩
     grind
   | struct fs=>
    simp only[ic,hu] at hT;obtain⟨ds,e1,e2,e3⟩:=aoG (n:=n) hu hr;rw[e2];exact abt ih fs.toList ds T hT e1 e3
   | array k e=>
    simp only[ic,hu] at hT;obtain⟨E,hE,rfl⟩:=wR.1 hT;obtain⟨ds,e1,e2,e3⟩:=aqP (n:=n) hu hr;refine⟨ds.map (cP P n e),by simp[e1],by rw[e2,ybB],fun p hp=>?_⟩
    grind
   | int k=>
    simp only[ic,hu,yc] at hT;subst hT;exact axa hu hr
   | float k=>
    simp only[ic,hu,yc] at hT;subst hT;exact axb hu hr
   | bool=>
    simp only[ic,hu,yc] at hT;subst hT;exact ats hu hr
   | string=>
    simp only[ic,hu,yc] at hT;subst hT;exact axc hu hr
   | _=>simp[ic,hu] at hT
def HW:Ty->List AV->AV
 | .nil,l | .cat _ _,l | .ar _ _,l=>.agg l
 | _,l=>l.headD .undef
def aoH:∀{l:List (Option Ty)} {T:Ty},oF l=Gp T->∀x,HW T x=.agg x
 | [],T,h=>by simp only[oF,yc] at h;subst h;exact fun _=>rfl
 | none::r,T,h=>by simp[oF] at h
 | some a::r,T,h=>by
  cases h1:oF r with
  | none=>simp[oF,h1] at h
  | some b=>
   simp only[oF,h1,yc] at h;subst h;exact fun _=>rfl
def azo{n:Nat}{t:yA}{T:Ty}{d:wa H}(hT:ic P n t=Gp T):mR P n t d=HW T (cP P n t d):=by
 cases n with
 | zero=>simp[ic] at hT
 | succ n=>
  cases hu:P.underlying t with
  | none=>simp[ic,hu] at hT
  | some u=>
   cases u with
   | slice e=>
    simp only[ic,hu] at hT;obtain⟨E,hE,rfl⟩:=wR.1 hT;simp only[mR,hu,HW]
   | struct fs=>
    simp only[ic,hu] at hT;rw[aoH hT];simp only[mR,hu]
   | array k e=>
    simp only[ic,hu] at hT;obtain⟨E,hE,rfl⟩:=wR.1 hT;simp only[mR,hu,HW]
   | _=>
    simp only[ic,hu,yc,reduceCtorEq] at hT<;>
    (subst hT
     simp only[mR,hu,HW])
def LI:List Ty->List (List AV)->List AV
 | T::Ts,l::ls=>HW T l::LI Ts ls
 | _,_=>[]
def adz{n:Nat}:∀{ts:List yA} {Ts:List Ty} {vs:List yh} {ds:List (wa H)} {ps:List wN},(ts.map (ic P n))=Ts.map Gp->DataW.TrodAll enc P w base sp held ts vs ds ps->
  ∃ls,jr nk Ts ls/\Bv P n ts ds=LI Ts ls/\ds.length=ts.length
 | [],[],[],[],ps,_,_=>⟨[],trivial,rfl,rfl⟩
 | t::ts,T::Ts,v::vs,d::ds,ps,hT,⟨p,q,⟨bm,h1⟩,h2,_⟩=>by
  simp only[xb,tW] at hT;have⟨ls,k1,k2,k3⟩:=adz hT.2 h2;exact⟨cP P n t d::ls,⟨afr n hT.1 ⟨bm,_,_,h1⟩,k1⟩,by simp only[Bv,LI,k2,azo hT.1],by simp[k3]⟩
 | [],_::_,_,_,_,h,_=>by simp at h
 | _::_,[],_,_,_,h,_=>by simp at h
 | [],[],_::_,_,_,_,h=>by simp[DataW.TrodAll] at h
 | [],[],[],_::_,_,_,h=>by simp[DataW.TrodAll] at h
 | _::_,_,[],_,_,_,h=>by simp[DataW.TrodAll] at h
 | _::_,_,_::_,[],_,_,h=>by simp[DataW.TrodAll] at h
def axd{α β:Type}{p:α->β->Prop}{a:α}:∀{l:List β},jr p [a] l->∃x,l=[x]/\p a x
 | [x],h=>⟨x,rfl,h.1⟩
 | [],h=>h.elim
 | _::_::_,h=>h.2.elim
def axe{α β:Type}{p:α->β->Prop}{a b:α}:∀{l:List β},jr p [a,b] l->∃x y,l=[x,y]/\p a x/\p b y
 | x::l,h=>let ⟨y,h1,h2⟩:=axd h.2;⟨x,y,by rw[h1],h.1,h2⟩
 | [],h=>h.elim
def axf{α β:Type}{p:α->β->Prop}{a b c:α}:∀{l:List β},jr p [a,b,c] l->∃x y z,l=[x,y,z]/\p a x/\p b y/\p c z
 | x::l,h=>let ⟨y,z,h1,h2,h3⟩:=axe h.2;⟨x,y,z,by rw[h1],h.1,h2,h3⟩
 | [],h=>h.elim
end
end
def NX{lv:List Nat}{tm tm':Env}{hp:Hp}{c c' b:Nat}(hk:bc tm lv=bc tm' lv):bn lv ⟨tm,hp,c,b⟩=bn lv ⟨tm',hp,c',b⟩:=by
 simp only[bn,hk]
def c7(C R S:Nat):AV:=.bC [aa C,aa R,aa S]
def R7(l C R S k:Nat):Env:=[(0,.fn (.y l) [] []),(1,c7 C R S),(8,aa ((C*R:Nat):Int)),(9,aa k)]
def Lk(cs:List AV):CY 0 (.bC cs)=Gp (.bC cs):=rfl
def afs(a:AV)(cs:List AV):CY 1 (.bC (a::cs))=Gp (.bC cs):=by
 show (bif Nat.ble 1 (cs.length+1) then Gp (AV.bC cs) else none)=_
 rw[yv (by omega),yu]
def PW(a b:AV)(cs:List AV):CY 2 (.bC (a::b::cs))=Gp (.bC cs):=by
 show (bif Nat.ble 2 (cs.length+1+1) then Gp (AV.bC cs) else none)=_
 rw[yv (by omega),yu]
def Yc{P:aE}{L:Lib}{f:cx}{hp:Hp}{ct l:Nat}{xs:List AV}:eL P L f hp ct .heap (.fn (.y l) [] []) xs=gF f hp ct l xs:=rfl
section
variable {lv ps:List Nat}
def abu{f:Nat->Option Nat}:∀{E:Env},pO E=ydb->dw f E=E
 | [],_=>rfl
 | (i,v)::r,h=>by
  simp only[pO,ye] at h;simp only[dw,jB _ h.1]
  rw[abu (E:=r) h.2]
def Qu(B l:Nat)(hp:Hp):List Nat:=reach hp B 100000 (l::b7 B hp) []
def jc(B l:Nat)(hp:Hp):Hp×Nat:=(eF hp (gW B (Qu B l hp)) (Qu B l hp) B (fT B (gW B (Qu B l hp)) hp),B+(Qu B l hp).length)
def acu{tm rest:Env}{hp:Hp}{ct B l:Nat}(hk:bc tm lv=(0,.fn (.y l) [] [])::rest)(hr:pO rest=ydb)(hl:l<B):
  bn lv ⟨tm,hp,ct,B⟩=⟨(0,.fn (.y l) [] [])::rest,(jc B l hp).1,(jc B l hp).2,B⟩:=by
 have e:cJ ((0,AV.fn (.y l) [] [])::rest)=[l]:=by
  rw[abi,TN hr];rfl
 have e2:∀f:Nat->Option Nat,f l=Gp l->dw f ((0,AV.fn (.y l) [] [])::rest)=(0,.fn (.y l) [] [])::rest:=fun f hf=>by
  simp only[dw,bq,hf,dO];rw[abu hr]
 simp only[bn,hk,e,yj,yy];rw[e2 _ (by simp only[gW,oA hl,yu])];rfl
def El{tm rest:Env}{hp H:Hp}{ct B l c:Nat}(hk:bc tm lv=(0,.fn (.y l) [] [])::rest)(hr:pO rest=ydb)(hl:l<B)(h:jc B l hp=(H,c)):
  bn lv ⟨tm,hp,ct,B⟩=⟨(0,.fn (.y l) [] [])::rest,H,c,B⟩:=by
 rw[acu hk hr hl,h]
def ji(a b:Nat):AV:=.bC [aa a,aa b]
def Ll(l C R S a b k:Nat):Env:=[(0,.fn (.y l) [] []),(1,c7 C R S),(2,ji a b),(7,aa S),(8,aa k)]
def VZ(l C R S a b k i:Nat):Env:=[(0,.fn (.y l) [] []),(1,c7 C R S),(2,ji a b),(4,aa k),(7,aa S),(8,aa k),(12,aa S),(13,aa i)]
def NN(S a b k i:Nat):List AV:=[.agg [aa i,aa k],.agg [aa ((a*S+i:Nat):Int),aa ((b*S+k:Nat):Int)]]
structure Rnd(Inv:Nat->Hp->Nat->Prop)(B l:Nat):Prop where
 y:∀{j H c},Inv j H c->jc B l H=(H,c)
 z:∀{j H c},Inv j H c->∀tm ct,bn [] ⟨tm,H,ct,B⟩=⟨[],H,c,B⟩
 l:∀{j H c},Inv j H c->∃tm p a b,ai H l=Gp (.lp tm p a b 0 .none)
def WI(HX:Has P L 719 Mk){f:X}{as_ body:VC}{s:St}{C R S a b:Nat}(hS:S<=8)(ha:a<=8)(hb:b<=8)(hf:ay s.tm f=.fn (.f 719) [] [c7 C R S,ji a b]){Inv:Nat->Hp->Nat->Prop}(hI:Rnd Inv (s.ct+1) s.ct)(h0:∃H c,jc (s.ct+1) s.ct ((s.ct,.lp s.tm ps as_ body 0 .none)::s.hp)=(H,c)/\Inv 0 H c)(hr:∀k i H c,k<S->i<S->Inv (k*S+i) H c->∃hp aI H' c',gF (D P L) H c s.ct (NN S a b k i)=Gp (.bool ydb,hp,aI)/\jc (s.ct+1) s.ct hp=(H',c')/\Inv (k*S+i+1) H' c'):
  ∃H c,Inv (S*S) H c/\D P L (.rf f ps as_ body) s=Gp (.normal,⟨s.tm,cE H s.ct,c,s.base⟩):=by
 have Yd:∀k,k<S->_:=fun k hk=>gV P L [0,1,2,4,7,8,12,13] K3
  (fun d st=>∃i H c,i+d=S/\Inv (k*S+i) H c/\st=⟨VZ s.ct C R S a b k i,H,c,s.ct+1⟩)
  (fun ex st=>ex=.exit 2/\∃tm ct H c,Inv (k*S+S) H c/\st=⟨tm,H,ct,s.ct+1⟩/\bc tm [0,1,2,7,8]=Ll s.ct C R S a b k) (by
  rintro d st ⟨i,H,c,hid,cG,rfl⟩;by_cases hi:i<S
  .left
   obtain⟨hp,aI,H',c',e,mg,FK⟩:=hr k i H c hk hi cG;have b1:a*S<=64:=xf ha hS;have b2:b*S<=64:=xf hb hS;have m1:(a:Int)*(S:Int)=((a*S:Nat):Int):=by rw[xS]
   have m2:(b:Int)*(S:Int)=((b*S:Nat):Int):=by rw[xS]
   have a1:((a*S:Nat):Int)+(i:Int)=((a*S+i:Nat):Int):=by rw[yaV]
   have a2:((b*S:Nat):Int)+(k:Int)=((b*S+k:Nat):Int):=by rw[yaV]
   unfold NN at e
   simp only[go_sem,ya,yb,yi,K3,VZ,c7,ji,Lk,afs,PW,show (i:Int)<S by omega,m1,m2,wrap64 (n:=((a*S:Nat):Int)) (by omega) (by omega),wrap64 (n:=((b*S:Nat):Int)) (by omega) (by omega),a1,a2,wrap64 (n:=((a*S+i:Nat):Int)) (by omega) (by omega),wrap64 (n:=((b*S+k:Nat):Int)) (by omega) (by omega),Yc,e];refine⟨_,d-1,rfl,by omega,i+1,H',c',by omega,FK,?_⟩;rw[wrap64 (by omega) (by omega)];exact El (by simp only[go_sem,ya]<;>rfl) rfl (by omega) mg
  .right
   have Gj:i=S:=by omega
   subst Gj;simp only[go_sem,ya,K3,VZ,c7,ji,show ¬(i:Int)<i by omega]
   exact⟨_,_,rfl,by simp,rfl,_,_,H,c,cG,rfl,by simp only[go_sem,ya,Ll,c7,ji]<;>rfl⟩)
 have aBV:=gV P L [0,1,2,7,8] K4
  (fun d st=>∃k H c,k+d=S/\Inv (k*S) H c/\st=⟨Ll s.ct C R S a b k,H,c,s.ct+1⟩)
  (fun ex st=>ex=.exit 0/\∃tm ct H c,Inv (S*S) H c/\st=⟨tm,H,ct,s.ct+1⟩) (by
  rintro d st ⟨k,H,c,Tb,cG,rfl⟩;by_cases hk:k<S
  .left
   have hm:(k+1)*S=k*S+S:=by rw[xR,tZ]
   simp only[go_sem,ya,K4,Ll,c7,ji,PW,show (k:Int)<S by omega];generalize hq:D P L (.loop _ K3) _=q;obtain⟨ex,st,rfl,rfl,tm,ct,H',c',FK,rfl,lX⟩:=bL hq (Yd k hk S) ⟨0,H,c,by omega,cG,El (by simp only[go_sem,ya]<;>rfl) rfl (by omega) (hI.y cG)⟩
   have hcp:=fun ct=>El (lv:=[0,1,2,7,8]) (ct:=ct) lX rfl (Nat.lt_succ_self _) (hI.y FK)
   simp only[go_sem,ya,hcp];refine⟨_,d-1,rfl,by omega,k+1,H',c',by omega,by rw[hm];exact FK,?_⟩
   rw[wrap64 (by omega) (by omega)];exact El (by simp only[go_sem,ya,c7,ji]<;>rfl) rfl (by omega) (hI.y FK)
  .right
   have oP:k=S:=by omega
   subst oP;simp only[go_sem,ya,K4,Ll,c7,ji,show ¬(k:Int)<k by omega]
   exact⟨_,_,rfl,by simp,rfl,_,_,H,c,cG,rfl⟩)
 obtain⟨H0,c0,Z9,h02⟩:=h0;have hb:∃tm H c,Inv (S*S) H c/\D P L Mk.body ⟨fA 0 [.fn (.y s.ct) [] [],c7 C R S,ji a b],(s.ct,.lp s.tm ps as_ body 0 .none)::s.hp,s.ct+1,s.ct+1⟩=Gp (.normal,⟨tm,H,c,s.ct+1⟩):=by
  simp only[go_sem,ya,Mk,c7,ji,PW];generalize hq:D P L (.loop _ K4) _=q;obtain⟨ex,st,rfl,rfl,tm,ct,H,c,cG,rfl⟩:=bL hq (aBV S) ⟨0,H0,c0,by omega,by rw[wC];exact h02,El (by simp only[go_sem,ya,c7,ji]<;>rfl) rfl (by omega) Z9⟩
  refine⟨[],H,c,cG,?_⟩;simp only[go_sem];exact congrArg (fun x=>Gp (Ex.normal,x)) (hI.z cG _ _)
 obtain⟨tm,H,c,cG,hD⟩:=hb;obtain⟨gO,p,a',b',hl⟩:=hI.l cG;exact⟨H,c,cG,agH hf HX.heap (GN HX hD (.inl rfl) rfl) hl (by decide)⟩
def aft(FL:Has P L 718 HK){f:X}{as_ body:VC}{s:St}{C R S:Nat}(hC:C<=8)(hR:R<=8)(hf:ay s.tm f=.fn (.f 718) [] [c7 C R S]){Inv:Nat->Hp->Nat->Prop}{Bad:Hp->Nat->Prop}(hI:Rnd Inv (s.ct+1) s.ct)(h0:∃H c,jc (s.ct+1) s.ct ((s.ct,.lp s.tm ps as_ body 0 .none)::s.hp)=(H,c)/\Inv 0 H c)(hr:∀k H c,k<C*R->Inv k H c->(∃hp aI H' c',gF (D P L) H c s.ct [aa k,.agg [aa ((k%C:Nat):Int),aa ((k/C:Nat):Int)]]=Gp (.bool ydb,hp,aI)/\jc (s.ct+1) s.ct hp=(H',c')/\Inv (k+1) H' c')\/
   ∃hp aI tm p a b,gF (D P L) H c s.ct [aa k,.agg [aa ((k%C:Nat):Int),aa ((k/C:Nat):Int)]]=Gp (.bool ydc,hp,aI)/\ai hp s.ct=Gp (.lp tm p a b 2 .ret)/\Bad hp aI):
  (∃H c,Inv (C*R) H c/\D P L (.rf f ps as_ body) s=Gp (.normal,⟨s.tm,cE H s.ct,c,s.base⟩))\/∃hp aI,Bad hp aI/\D P L (.rf f ps as_ body) s=Gp (.ret,⟨s.tm,cE hp s.ct,aI,s.base⟩):=by
 have JC:C*R<=64:=xf hC hR;have key:=gV P L [0,1,8,9] G9
  (fun d st=>∃k H c,k+d=C*R/\Inv k H c/\st=⟨R7 s.ct C R S k,H,c,s.ct+1⟩)
  (fun ex st=>(ex=.exit 0/\∃tm ct H c,Inv (C*R) H c/\st=⟨tm,H,ct,s.ct+1⟩)\/(ex=.ret/\∃tm hp aI tm' p a b,st=⟨tm,hp,aI,s.ct+1⟩/\ai hp s.ct=Gp (.lp tm' p a b 2 .ret)/\Bad hp aI)) (by
  rintro d st ⟨k,H,c,Tb,cG,rfl⟩;by_cases hk:k<C*R
  .have lz:0<C:=th (fun h=>by rw[h,wC] at hk;omega);have h1:(k:Int).tmod (C:Int)=((k%C:Nat):Int):=(ycd k C).symm;have h2:(k:Int).tdiv (C:Int)=((k/C:Nat):Int):=(yce k C).symm;have h3:k%C<C:=xJ _ lz;have h4:k/C<=k:=Nat.div_le_self _ _;have hr:=hr k H c hk cG;generalize ha:k%C=a' at*
   generalize bJ:k/C=b' at*
   have Gk:(C:Int)≠0:=by omega
   rcases hr with ⟨hp,aI,H',c',e,mg,FK⟩ | ⟨hp,aI,tm',p,a,b,e,hg,hB⟩
   .left
    simp only[go_sem,ya,yb,yi,G9,R7,c7,Lk,show (k:Int)<((C*R:Nat):Int) by omega,fH _ _ _ Gk,eX _ _ _ Gk,h1,h2,wrap64 (n:=(b':Int)) (by omega) (by omega),Yc,e];refine⟨_,d-1,rfl,by omega,k+1,H',c',by omega,FK,?_⟩;rw[wrap64 (by omega) (by omega)];exact El (by simp only[go_sem,ya]<;>rfl) rfl (by omega) mg
   .right
    simp only[go_sem,ya,yb,yi,G9,R7,c7,Lk,show (k:Int)<((C*R:Nat):Int) by omega,fH _ _ _ Gk,eX _ _ _ Gk,h1,h2,wrap64 (n:=(b':Int)) (by omega) (by omega),Yc,e];exact⟨_,_,rfl,by simp,.inr ⟨rfl,_,hp,aI,tm',p,a,b,rfl,hg,hB⟩⟩
  .right
   have rZ:k=C*R:=by omega
   subst rZ;simp only[go_sem,ya,G9,R7,c7,show ¬((C*R:Nat):Int)<((C*R:Nat):Int) by omega]
   exact⟨_,_,rfl,by simp,.inl ⟨rfl,_,_,H,c,cG,rfl⟩⟩)
 obtain⟨H0,c0,Z9,h02⟩:=h0;have hb:∃ex st,D P L HK.body ⟨fA 0 [.fn (.y s.ct) [] [],c7 C R S],(s.ct,.lp s.tm ps as_ body 0 .none)::s.hp,s.ct+1,s.ct+1⟩=Gp (ex,st)/\((ex=.normal/\∃tm H c,Inv (C*R) H c/\st=⟨tm,H,c,s.ct+1⟩)\/(ex=.ret/\∃tm hp aI tm' p a b,st=⟨tm,hp,aI,s.ct+1⟩/\ai hp s.ct=Gp (.lp tm' p a b 2 .ret)/\Bad hp aI)):=by
  have hcr:(C:Int)*(R:Int)=((C*R:Nat):Int):=by rw[xS]
  simp only[go_sem,ya,HK,c7,Lk,afs,hcr,wrap64 (n:=((C*R:Nat):Int)) (by omega) (by omega)];generalize hq:D P L (.loop _ G9) _=q;obtain⟨ex,st,rfl,hh⟩:=bL hq (key (C*R)) ⟨0,H0,c0,by omega,h02,El (by simp only[go_sem,ya,c7]<;>rfl) rfl (by omega) Z9⟩
  rcases hh with ⟨rfl,tm,ct,H,c,cG,rfl⟩ | ⟨rfl,hh⟩
  .refine ⟨.normal,⟨[],H,c,s.ct+1⟩,?_,.inl ⟨rfl,_,H,c,cG,rfl⟩⟩;simp only[go_sem];exact congrArg (fun x=>Gp (Ex.normal,x)) (hI.z cG _ _)
  .exact ⟨_,_,rfl,.inr ⟨rfl,hh⟩⟩
 obtain⟨ex,st,hD,hh⟩:=hb;have zb:∀s':St,jA s' HK.dR=Gp (.av []):=fun _=>rfl
 rcases hh with ⟨rfl,tm,H,c,cG,rfl⟩ | ⟨rfl,tm,hp,aI,tm',p,a,b,rfl,hg,hB⟩
 .left
  obtain⟨gO,p,a,b,hl⟩:=hI.l cG;exact⟨H,c,cG,agH hf FL.heap (GN FL hD (.inl rfl) (zb _)) hl (by decide)⟩
 .right
  refine⟨hp,aI,hB,?_⟩;have h3:=GN FL hD (.inr rfl) (zb _);rw[lM];simp only[bE,hf,FL.heap,yy,h3,hg,gU (show (2:Nat)≠1 by decide),yP]
end
def N7{B:Nat}{H:Hp}:∀{J:Hp},(∀p,p∈J->B<=p.1)->b7 B (J++H)=b7 B H
 | [],_=>rfl
 | (id,o)::r,h=>by
  have:=h (id,o) (by simp)
  rw[yj,b7,sS (by simpa using this),yP,N7 fun p hp=>h p (by simp[hp])]
def Uq{B:Nat}{f:Nat->Option Nat}{H:Hp}:∀{J:Hp},(∀p,p∈J->B<=p.1)->fT B f (J++H)=fT B f H
 | [],_=>rfl
 | (id,o)::r,h=>by
  have:=h (id,o) (by simp)
  rw[yj,fT,sS (by simpa using this),yP,Uq fun p hp=>h p (by simp[hp])]
def alr{live:List Nat}{tm:Env}{B ct:Nat}{J old:Hp}{rs:List (List AV)}(hJ:∀p,p∈J->B+rs.length<=p.1)(ht:lH B (bc tm live))(ho:fS B (B+rs.length) old)(hl:(cJ (bc tm live)).length+(b7 B old).length<100000)(hr:(b7 B old).filter (fun x=> !Nat.blt x B)=xZ B rs.length):bn live ⟨tm,J++(gJ B rs++old),ct,B⟩=⟨bc tm live,gJ B rs++old,B+rs.length,B⟩:=by
 have hJ':∀p,p∈J->B<=p.1:=fun p hp=>by have:=hJ p hp;omega
 have mX:∀i (h:i<rs.length),ai (J++(gJ B rs++old)) (B+i)=Gp (.cells ydb ydb ydb 1 (rs.reverse[i]'(by simpa using h))):=fun i h=>by
  rw[acs (b:=B+rs.length) (by omega) hJ];exact Ul h
 have P8:reach (J++(gJ B rs++old)) B 100000 (cJ (bc tm live)++b7 B (J++(gJ B rs++old))) []=xZ B rs.length:=by
  have:=Oo (hp:=J++(gJ B rs++old)) (B:=B) (R:=rs.length) (fun i hi=>⟨_,_,_,_,mX i hi⟩) (cJ (bc tm live)++b7 B (J++(gJ B rs++old))) 100000 0 (by rw[N7 hJ',JM,yJ];exact hl) (Nat.zero_le _) (by
   rw[List.filter_append,N7 hJ',JM,hr,tP.2 (fun x hx=>by
    have:=N4 ht x hx
    simp[oA this])]
   simp)
  simpa using this
 have hid:∀x,x<B+rs.length->gW B (xZ B rs.length) x=Gp x:=fun x hx=>aaO hx
 have hn:=TP (hp:=J++(gJ B rs++old)) (f:=gW B (xZ B rs.length)) rs.reverse B old (fun i hi=>mX i (by simpa using hi));rw[List.length_reverse] at hn;simp only[bn,P8,Uq hJ',TO,N5 hid ho,hn,Uk,List.length_range']
 rw[On (n:=B) (fun x hx=>hid x (by omega)) ht]
def bt(B:Nat)(s:List Nat):Nat->Option Nat:=gW B s
def lC(B:Nat)(hp:Hp):Nat->List Nat->List Nat->List Nat:=reach hp B
def cmB(B:Nat)(hp:Hp)(s:List Nat):Hp×Nat:=(eF hp (bt B s) s B (fT B (bt B s) hp),B+s.length)
def sR(B l:Nat)(hp:Hp):jc B l hp=cmB B hp (lC B hp 100000 (l::b7 B hp) []):=rfl
def axg(B:Nat)(hp:Hp)(s:List Nat):cmB B hp s=(eF hp (bt B s) s B (fT B (bt B s) hp),B+s.length):=rfl
def adA(B:Nat):b7 B []=[]:=rfl
def EQ{B id:Nat}(o:Obj)(r:Hp)(h:id<B):b7 B ((id,o)::r)=iT o++b7 B r:=by rw[b7,oA h,yu]
def axh{B id:Nat}(o:Obj)(r:Hp)(h:B<=id):b7 B ((id,o)::r)=b7 B r:=by rw[b7,sS h,yP]
def R8(B:Nat)(hp:Hp)(n id:Nat)(cA seen:List Nat)(q:Option Obj):List Nat:=match q with | some o=>lC B hp n (iT o++cA) (seen++[id]) | none=>lC B hp n cA seen
def R9(B:Nat)(hp:Hp)(n id:Nat)(cA seen:List Nat)(b:Bool):List Nat:=bif b then lC B hp n cA seen else R8 B hp n id cA seen (ai hp id)
def att(B:Nat)(hp:Hp)(n:Nat)(seen:List Nat):lC B hp (n+1) [] seen=seen:=rfl
def ag7{B id:Nat}(hp:Hp)(n:Nat)(cA seen:List Nat)(h:id<B):lC B hp (n+1) (id::cA) seen=lC B hp n cA seen:=by
 simp only[lC,reach,oA h,tc,yu]
def WJ{B id:Nat}(hp:Hp)(n:Nat)(cA seen:List Nat)(h:B<=id):lC B hp (n+1) (id::cA) seen=R9 B hp n id cA seen (jH id seen):=by
 simp only[lC,reach,sS h,vV,R9,R8]
 cases jH id seen with
 | true=>rfl
 | false=>simp only[yP];cases ai hp id<;>rfl
def axi(B:Nat)(hp:Hp)(n id:Nat)(cA seen:List Nat):R9 B hp n id cA seen ydb=lC B hp n cA seen:=rfl
def V1(B:Nat)(hp:Hp)(n id:Nat)(cA seen:List Nat):R9 B hp n id cA seen ydc=R8 B hp n id cA seen (ai hp id):=rfl
def V2(B:Nat)(hp:Hp)(n id:Nat)(cA seen:List Nat)(o:Obj):R8 B hp n id cA seen (Gp o)=lC B hp n (iT o++cA) (seen++[id]):=rfl
def Qv{B id:Nat}(s:List Nat)(h:id<B):bt B s id=Gp id:=by simp only[bt,gW,oA h,yu]
def WK{B id:Nat}(s:List Nat)(h:B<=id):bt B s id=dz id s B:=by simp only[bt,gW,sS h,yP]
def aqQ(B:Nat)(f:Nat->Option Nat):fT B f []=[]:=rfl
def axj{B id:Nat}(f:Nat->Option Nat)(o:Obj)(r:Hp)(h:id<B):fT B f ((id,o)::r)=(id,gL f o)::fT B f r:=by rw[fT,oA h,yu]
def axk{B id:Nat}(f:Nat->Option Nat)(o:Obj)(r:Hp)(h:B<=id):fT B f ((id,o)::r)=fT B f r:=by rw[fT,sS h,yP]
section
variable (B:Nat)(s:List Nat)
def atu:dw (bt B s) []=[]:=rfl
def aqR(i:Nat)(v:AV)(r:Env):dw (bt B s) ((i,v)::r)=(i,bq (bt B s) v)::dw (bt B s) r:=rfl
def axl(k:xe)(n:Int):bq (bt B s) (.int k n)=.int k n:=rfl
def atv(b:Bool):bq (bt B s) (.bool b)=.bool b:=rfl
def axm(t:List Nat):bq (bt B s) (.str t)=.str t:=rfl
def axn(k:wc)(b:Nat):bq (bt B s) (.aw k b)=.aw k b:=rfl
def axo(k:wc)(a b:Nat):bq (bt B s) (.dh k a b)=.dh k a b:=rfl
def atw:bq (bt B s) .ah=.ah:=rfl
def atx:bq (bt B s) .iE=.iE:=rfl
def aty:bq (bt B s) .jF=.jF:=rfl
def atz:bq (bt B s) .kN=.kN:=rfl
def axp(e:Bool)(n:Nat)(cs:List AV):bq (bt B s) (.ap e n cs)=.ap e n cs:=rfl
def atA(cs:List AV):bq (bt B s) (.bC cs)=.bC cs:=rfl
def atB(a b:List AV):bq (bt B s) (.jG a b)=.jG a b:=rfl
def aqS:bq (bt B s) .undef=.undef:=rfl
def axq(id o:Nat):bq (bt B s) (.ptr id o)=Qm o (bt B s id):=by cases h:bt B s id<;>simp[bq,Qm,h]
def axr(id o n:Nat):bq (bt B s) (.aq id o n)=Qn o n (bt B s id):=by cases h:bt B s id<;>simp[bq,Qn,h]
def azp(g:Nat)(a b:List AV):bq (bt B s) (.fn (.f g) a b)=.fn (.f g) (dO (bt B s) a) (dO (bt B s) b):=rfl
def axs(cs:List AV):bq (bt B s) (.agg cs)=.agg (dO (bt B s) cs):=rfl
def axt(cs:List AV):bq (bt B s) (.av cs)=.av (dO (bt B s) cs):=rfl
def atD:dO (bt B s) []=[]:=rfl
def aqT(v:AV)(r:List AV):dO (bt B s) (v::r)=bq (bt B s) v::dO (bt B s) r:=rfl
def Ye(hp:Hp)(r:List Nat)(k:Nat)(acc:Hp)(q:Option Obj):Hp:=match q with | some o=>eF hp (bt B s) r (k+1) ((k,gL (bt B s) o)::acc) | none=>eF hp (bt B s) r (k+1) acc
def atE(hp:Hp)(k:Nat)(acc:Hp):eF hp (bt B s) [] k acc=acc:=rfl
def aqU(hp:Hp)(id:Nat)(r:List Nat)(k:Nat)(acc:Hp):eF hp (bt B s) (id::r) k acc=Ye B s hp r k acc (ai hp id):=by
 simp only[eF,Ye];cases ai hp id<;>rfl
def axu(hp:Hp)(r:List Nat)(k:Nat)(acc:Hp)(o:Obj):Ye B s hp r k acc (Gp o)=eF hp (bt B s) r (k+1) ((k,gL (bt B s) o)::acc):=rfl
end
def aoI:refs .iE=[]:=rfl
def aoJ:refs .jF=[]:=rfl
def aoK:refs .kN=[]:=rfl
def aoL(a b:List AV):refs (.jG a b)=[]:=rfl
def aqV(cs:List AV):refs (.av cs)=eZ cs:=rfl
def aqW(k:wc)(a b:Nat):refs (.dh k a b)=[]:=rfl
def atF(k:wc)(b:Nat):refs (.aw k b)=[]:=rfl
attribute [go_sem] axg adA EQ axh att ag7 WJ axi V1 V2 Qv WK aqQ axj axk atu aqR axl atv axm axn axo atw atx aty atz axp atA atB aqS axq axr azp axs axt atD aqT atE aqU axu aoI aoJ aoK aoL aqV aqW atF
def adB{B l:Nat}{J old:Hp}(hJ:∀p,p∈J->B<=p.1)(ho:fS B B old)(hl:l<B)(hn:(b7 B old).length<=90000):jc B l (J++old)=(old,B):=by
 have h:=alr (live:=[0]) (tm:=[(0,.fn (.y l) [] [])]) (ct:=0) (rs:=[]) (by simpa using hJ) (show lH B [(0,AV.fn (.y l) [] [])] from⟨⟨hl,rfl,rfl⟩,trivial⟩) (by simpa using ho) (show [l].length+_<100000 by simp only[yF,yN];omega) (by
  rw[tP.2 (fun x hx=>by have:=JU (yp B) ho x hx;simp[oA this])]
  rfl)
 have h2:=acu (lv:=[0]) (tm:=[(0,.fn (.y l) [] [])]) (hp:=J++old) (ct:=0) (B:=B) (l:=l) rfl rfl hl;simp only[gJ,yy,yN,yX] at h;rw[h] at h2;injection h2 with _ h3 h4
 exact Prod.ext h3.symm h4.symm
def lD(k:Nat)(v:AV)(ps:List (List AV)):Prop:=((v=.ah/\ps=[])\/∃e,v=.ap e ps.length ps.flatten)/\∀p,p∈ps->p.length=k
section
variable {k:Nat}{v:AV}{ps:List (List AV)}{hp:Hp}
def lD.len(h:lD k v ps){hp:Hp}:jo hp 1 v=Gp (.int .i64 (ps.length:Nat)):=by
 rcases h.1 with ⟨rfl,rfl⟩ | ⟨e,rfl⟩<;>rfl
def lD.pu(h:lD k v ps):aW v=ydb:=by
 rcases h.1 with ⟨rfl,rfl⟩ | ⟨e,rfl⟩<;>rfl
def lD.aj(h:lD k v ps)(n:Nat){hp:Hp}:freeze (n+1) hp v=Gp (v,hp):=by
 rcases h.1 with ⟨rfl,rfl⟩ | ⟨e,rfl⟩<;>rfl
def lD.bI(h:lD k v ps):bI v=v:=by
 rcases h.1 with ⟨rfl,rfl⟩ | ⟨e,rfl⟩<;>rfl
def OF:∀{ps:List (List AV)},(∀p,p∈ps->p.length=k)->ps.flatten.length=ps.length*k
 | [],_=>by simp
 | p::ps,h=>by
  have:=OF (ps:=ps) (fun q hq=>h q (xM _ hq))
  grind
def Ur:∀{ps:List (List AV)} {i:Nat},(∀p,p∈ps->p.length=k)->∀(hi:i<ps.length),∃rest,ps.flatten.drop (i*k)=ps[i]++rest
 | [],i,_,hi=>absurd hi (ybN i)
 | p::ps,0,h,_=>⟨ps.flatten,by simp⟩
 | p::ps,i+1,h,hi=>by
  have⟨rest,e⟩:=Ur (ps:=ps) (i:=i) (fun q hq=>h q (xM _ hq)) (by simpa using hi);refine⟨rest,?_⟩;rw[show (i+1)*k=p.length+i*k by rw[h p wA,xR];lia,uB,<-List.drop_drop,List.drop_left,e]
  rfl
def lD.bk(h:lD k v ps){i:Nat}(hi:i<ps.length):∃rest,gH k i v=Gp (.bC (ps[i]++rest)):=by
 obtain⟨rest,e⟩:=Ur h.2 hi;refine⟨rest,?_⟩;rcases h.1 with ⟨rfl,rfl⟩ | ⟨b,rfl⟩
 .grind
 .rw [Pj b _ hi,e]
def zW:lD k .ah []:=⟨.inl ⟨rfl,rfl⟩,fun _ h=>by cases h⟩
def aeD(e:Bool)(h:∀p,p∈ps->p.length=k):lD k (.ap e ps.length ps.flatten) ps:=⟨.inr ⟨e,rfl⟩,h⟩
end
abbrev nl:=List Nat×List Nat
def zJ(p:nl):List AV:=[.str p.1,.str p.2]
def iV(v:AV)(l:List nl):Prop:=lD 2 v (l.map zJ)
structure Lay where
 w:AV
 s:List (List Int)
 hh:List Nat
 sc:List Nat
 st:List Nat
 ox:List Nat
 oy:List Nat
 wx:List Nat
 wy:List Nat
def Lay.cs(a:Lay):List AV:=[a.w,.str a.hh,.str a.sc,.str a.st,.str a.ox,.str a.oy,.str a.wx,.str a.wy]
def Lay.T(a:Lay):AV:=lyT a.w a.hh a.sc a.st a.ox a.oy a.wx a.wy
noncomputable def Lay.E(a:Lay):Int:=aBT a.s a.hh a.sc a.st a.ox a.oy a.wx a.wy
section
variable {v:AV}{hp:Hp}
def iV.len{l:List nl}(h:iV v l){hp:Hp}:jo hp 1 v=Gp (.int .i64 (l.length:Nat)):=by
 have:=lD.len (hp:=hp) h;rwa[yS] at this
def iV.pu{l:List nl}(h:iV v l):aW v=ydb:=lD.pu h
def iV.aj{l:List nl}(h:iV v l)(n:Nat){hp:Hp}:freeze (n+1) hp v=Gp (v,hp):=lD.aj h n
def iV.bI{l:List nl}(h:iV v l):VE.bI v=v:=lD.bI h
def iV.bk{l:List nl}(h:iV v l){i:Nat}(hi:i<l.length):∃rest,gH 2 i v=Gp (.bC (.str l[i].1:: .str l[i].2::rest)):=by
 have⟨rest,e⟩:=lD.bk h (i:=i) (by simpa using hi);refine⟨rest,?_⟩;rw[e,vj];rfl
end
section
variable {v:AV}{l:List Rat}
def take_set{α:Type}{l:List α}{i:Nat}{a:α}(h:i<l.length):(l.set i a).take (i+1)=l.take i++[a]:=by
 rw[xi (by simpa using h),List.getElem_set_self,List.take_set_of_le (yp i)]
def stS{hp:Hp}{ct id o:Nat}{v:List Nat}{ex:Bool}{l:List (List Nat)}(h:o<l.length):gD hp ct id o 1 [.str v] (Gp (.cells ydb ydb ex 1 (l.map .str)))=Gp (.av [],aU hp id (.cells ydb ydb ex 1 ((l.set o v).map .str)),ct):=by
 rw[sT (by rfl) (by simp;lia) (by rfl)]
 have:over o [.str v] (l.map .str)=(l.set o v).map .str:=by
  simp only[over,yF,yN,yd];rw[List.map_set,vI,yC (by simpa using h)]
  simp
 rw[this];rfl
def aBW(ct:Nat){n:Nat}(h:n<=10000000000):BO ct 1 16 [.str []] (Gp n) (Gp n)=Gp (.aq ct 0 n,.cells ydb ydb ydb 1 ((yz n []).map .str)):=by
 rw[Ld (sz:=1) (by lia) (by lia) (by rfl) (by rfl)]
 have:∀n,(yz n [AV.str []]).flatten=(yz n []).map .str:=fun n=>by
  induction n with
  | zero=>rfl
  | succ n ih=>rw[wP,uB,ih,wP,xb];rfl
 rw[this];rfl
def atG(l:List (List Nat)):fO (.ap ydb l.length (l.map .str)) l:=Kw ydb l
def aBX(h:Has P L 160 HB)(hv:mY v l)(hl:l.length<=1000000){g:Nat}{p:Rat->Bool}(hg:∀w x,x∈l->bS w x->ab P L g [w] (.bool (p x))):∃n:Int,ab P L 160 [v,.fn (.f g) [] []] (aa n)/\decide (0<=n)=l.any p:=by
 have key:=gV P L [0,1,7,8] G1
  (fun k s=>∃i:Nat,i+k=l.length/\(l.drop i).any p=l.any p/\s=⟨[(0,v),(1,.fn (.f g) [] []),(7,aa l.length),(8,aa i)],[],0,0⟩)
  (fun ex s=>∃tm hp ct,s=⟨tm,hp,ct,0⟩/\((∃n:Int,ex=.ret/\ak tm 4=aa n/\0<=n/\l.any p=ydb)\/(ex=.exit 0/\l.any p=ydc))) ?_
 .unfold ab;rw[aD h];simp only[go_sem,ya,HB,hv.len];generalize hq:D P L (.loop _ G1) _=q;obtain⟨ex,s,rfl,tm,hp,ct,rfl,h2⟩:=bL hq (key l.length) ⟨0,by lia,rfl,by simp only[go_sem,ya,ax,aG hv.pu]<;>rfl⟩
  rcases h2 with ⟨n,rfl,h2,h3,h4⟩ | ⟨rfl,h2⟩
  .exact ⟨n,by simp only[go_sem,h2]<;>rfl,by rw[h4];simpa using h3⟩
  .exact ⟨-1,by simp only[go_sem,ax]<;>rfl,by rw[h2];decide⟩
 .rintro k s ⟨i,hk,hf,rfl⟩;by_cases hi:i<l.length
  .have cZ:(i:Int)<l.length:=by lia
   have⟨a,b,c,d,r,e1,hx⟩:=hv.bk hi;have e2:=hg _ _ (xI hi) hx;have gx:=hx.f4;rw[UO hi] at hf
   cases dj:p l[i] with
   | false=>
    left
    rw[dj] at e2;simp only[go_sem,ya,G1,cZ,e1,MG,jZ,gx.aj,e2];rw[dj,vV] at hf;refine⟨_,k-1,rfl,by lia,i+1,by lia,hf,?_⟩;rw[wrap64 (by lia) (by lia)];simp only[go_sem,ya,ax,aG hv.pu]<;>rfl
   | true=>
    right
    rw[dj] at e2;simp only[go_sem,ya,G1,cZ,e1,MG,jZ,gx.aj,e2];refine⟨_,_,rfl,by simp,_,_,_,rfl,.inl ⟨i,rfl,?_,by lia,?_⟩⟩
    .simp only [go_sem]
    .rw [<-hf,dj,tc]
  .right
   simp only[go_sem,ya,G1,show ¬(i:Int)<l.length by lia];refine⟨_,_,rfl,by simp,_,_,_,rfl,.inr ⟨rfl,?_⟩⟩;rw[<-hf,xd (by lia)];rfl
def aBY(h:Has P L 122 LO)(HY:Has P L 160 HB)(hv:mY v l)(hl:l.length<=1000000){g:Nat}{p:Rat->Bool}(hg:∀w x,x∈l->bS w x->ab P L g [w] (.bool (p x))):ab P L 122 [v,.fn (.f g) [] []] (.bool (l.any p)):=by
 have⟨n,e1,e2⟩:=aBX HY hv hl hg;unfold ab at e1 ⊢;rw[aD h];simp only[go_sem,ya,LO,hv.aj,e1,e2]
def aBZ(h:Has P L 123 LP)(hT:Tx P L){K:Nat}(hv:mY v l)(hl:l.length<=1000000)(hk:∀x,x∈l->Hq K x)(hK:K<=4000000000):∃r,ab P L 123 [v] r/\fO (shut r) (l.map RT):=by
 have key:=gV P L [3,9,10,11] KG
  (fun k st=>∃(i:Nat) (out:List (List Nat)),i+k=l.length/\out.length=l.length/\out.take i=(l.take i).map RT/\st=⟨[(3,.aq 0 0 l.length),(9,v),(10,aa l.length),(11,aa i)],[(0,.cells ydb ydb ydb 1 (out.map .str))],1,0⟩)
  (fun ex st=>∃tm hp ct,st=⟨tm,hp,ct,0⟩/\ex=.exit 0/\ak tm 3=.aq 0 0 l.length/\ai hp 0=Gp (.cells ydb ydb ydb 1 ((l.map RT).map .str))) ?_
 .unfold ab;rw[aD h];simp only[go_sem,ya,yb,LP,hv.len,acf (show (0:Int)<=l.length by lia),xh,aBW 0 (show l.length<=10000000000 by lia)];generalize hq:D P L (.loop _ KG) _=q;obtain⟨ex,st,rfl,tm,hp,ct,rfl,rfl,t3,g0⟩:=bL hq (key l.length) ⟨0,yz l.length [],by lia,by simp,by simp,by simp only[go_sem,ya,yb,ax,aG hv.pu]<;>rfl⟩
  refine⟨.cF ydb 1 l.length ((l.map RT).map .str),?_,?_⟩
  .simp only [go_sem,yb,ax,t3,g0];exact Ok (iP _ _ _) (by simp) (by decide)
  .have:=atG (l.map RT)
   rwa[yS] at this
 .rintro k st ⟨i,out,AH,hlen,Db,rfl⟩;by_cases hi:i<l.length
  .left
   have⟨a,b,c,d,r,e1,hx⟩:=hv.bk hi;have e2:=m46 hT hx (hk _ (xI hi)) hK;have gx:=hx.f4;unfold ab at e2
   simp only[go_sem,ya,yb,ym,KG,show (i:Int)<l.length by lia,e1,MG,aQ,gx.st,jZ,gx.aj,yf,e2,acf (show (0:Int)<=i by lia),xh,cV 0 0 hi,yd,stS (l:=out) (o:=i) (by lia)];refine⟨_,k-1,rfl,by lia,i+1,out.set i (RT l[i]),by lia,by simpa using hlen,?_,?_⟩
   .rw [take_set (by lia),Db,xi hi,xg];rfl
   .rw [wrap64 (by lia) (by lia)];simp only[go_sem,ya,yb,ax,aG hv.pu]<;>rfl
  .right
   have:i=l.length:=by lia
   subst this;rw[yE (by lia),yE (yp _)] at Db;subst Db;simp only[go_sem,ya,KG,show ¬(l.length:Int)<l.length by lia];exact⟨_,_,rfl,by simp,_,_,_,rfl,rfl,rfl,rfl⟩
end
noncomputable def Lay.low(sh:List Nat)(a:Lay):Bool:=awZ (gZ sh) (gZ a.hh)
def abw{α:Type}{f:α->Int}:∀{l:List α},b9 (l.map f)=0->∀a,a∈l->f a=0
 | [],_,_,h=>by cases h
 | x::l,h,a,ha=>by
  rw[xb,al9] at h;rcases xy.1 ha with rfl | ha
  .grind
  .exact abw h.2 a ha
section
variable {v:AV}{l:List Int}
def Yf(h:Has P L 677 Rw)(hv:bA v l)(hl:l.length<=1000000):ab P L 677 [v] (aa (b9 l)):=by
 unfold ab;rw[aD h];simp only[go_sem,ya,Rw,hv.len];have key:=OU (P:=P) (L:=L) (live:=[5,6,7]) (a:=PJ)
  (I:=fun k s=>∃tm ct i,s=⟨tm,[],ct,0⟩/\ak tm 5=v/\ak tm 6=aa l.length/\ak tm 7=aa (i:Nat)/\i+k=l.length/\b9 (l.drop i)=b9 l)
  (Q:=fun ex s=>∃tm,s=⟨tm,[],0,0⟩/\((ex=.ret/\ak tm 2=aa (b9 l))\/(ex=.exit 0/\b9 l=0))) ?_ l.length
 .generalize hq:D P L (.loop _ PJ) _=q;obtain⟨ex,s,rfl,tm,rfl,h2⟩:=bL hq key ⟨_,_,0,rfl,rfl,rfl,rfl,by omega,rfl⟩;rcases h2 with ⟨rfl,h2⟩ | ⟨rfl,h2⟩
  .simp only [go_sem,h2]
  .rw [h2];simp only[go_sem]
 .rintro k s ⟨tm,ct,i,rfl,h5,h6,h7,hk,hf⟩;rw[NW (by simp only[go_sem,h5,h6,h7,hv.pu])];simp only[go_sem,ya,h5,h6,h7,PJ];by_cases hi:i<l.length
  .have cZ:(i:Int)<l.length:=by omega
   rw[Tz hi] at hf;by_cases hz:l[i]=0
   .left
    simp only[go_sem,ya,cZ,hv.bk hi,hz];refine⟨_,k-1,rfl,by omega,_,_,i+1,rfl,?_⟩;rw[wrap64 (by omega) (by omega)];rw[yC hz] at hf;simp only[go_sem,ya];exact⟨trivial,trivial,rfl,by omega,hf⟩
   .right
    simp only[go_sem,ya,cZ,hv.bk hi,hz];rw[yr hz] at hf;refine⟨_,_,rfl,by simp,_,rfl,.inl ⟨rfl,?_⟩⟩;simp only[go_sem,hf]
  .right
   have cZ:¬(i:Int)<l.length:=by omega
   simp only[go_sem,cZ];refine⟨_,_,rfl,by simp,_,rfl,.inr ⟨rfl,?_⟩⟩;rw[<-hf,xd (by omega)];rfl
def HZ(h:Has P L 692 Fo)(b:Bool)(n:Int):ab P L 692 [.bool b,aa n] (aa (if b=ydb then n else 0)):=by
 unfold ab;rw[aD h]
 cases b with
 | true=>simp only[go_sem,ya,Fo,xP]
 | false=>simp only[go_sem,ya,Fo];rfl
def Yg(h:Has P L 676 HI)(rM:Has P L 692 Fo)(n lo hi:Int):ab P L 676 [aa n,aa lo,aa hi] (aa (if n<lo\/hi<n then 3 else 0)):=by
 unfold ab;rw[aD h];by_cases h1:n<lo
 .simp only [go_sem,ya,HI,h1,true_or,xP,HZ rM]
 .by_cases h2:hi<n
  .simp only [go_sem,ya,HI,h1,h2,or_true,xP,HZ rM]
  .simp only [go_sem,ya,HI,h1,h2,or_self,xz,HZ rM];rfl
def Yh(h:Has P L 647 Me)(hv:bA v l)(hl:l.length<=1000000):ab P L 647 [v] (aa (b9 l)):=by
 unfold ab;rw[aD h];simp only[go_sem,Me];have key:=OU (P:=P) (L:=L) (live:=[0,3]) (a:=PI)
  (I:=fun k s=>∃tm ct i,s=⟨tm,[],ct,0⟩/\ak tm 0=v/\ak tm 3=aa (i:Nat)/\i+k=l.length/\b9 (l.drop i)=b9 l)
  (Q:=fun ex s=>∃tm,s=⟨tm,[],0,0⟩/\((ex=.ret/\ak tm 2=aa (b9 l))\/(ex=.exit 0/\b9 l=0))) ?_ l.length
 .generalize hq:D P L (.loop _ PI) _=q;obtain⟨ex,s,rfl,tm,rfl,h2⟩:=bL hq key ⟨_,_,0,rfl,rfl,rfl,by omega,rfl⟩;rcases h2 with ⟨rfl,h2⟩ | ⟨rfl,h2⟩
  .simp only [go_sem,h2]
  .rw [h2];simp only[go_sem]
 .rintro k s ⟨tm,ct,i,rfl,h0,h3,hk,hf⟩;rw[NW (by simp only[go_sem,h0,h3,hv.pu])];simp only[go_sem,ya,h0,h3,PI,hv.len];by_cases hi:i<l.length
  .have cZ:(i:Int)<l.length:=by omega
   rw[Tz hi] at hf;by_cases hz:l[i]=0
   .left
    simp only[go_sem,ya,cZ,hv.bk hi,hz];refine⟨_,k-1,rfl,by omega,_,_,i+1,rfl,?_⟩;rw[wrap64 (by omega) (by omega)];rw[yC hz] at hf;simp only[go_sem,ya];exact⟨trivial,rfl,by omega,hf⟩
   .right
    simp only[go_sem,ya,cZ,hv.bk hi,hz];rw[yr hz] at hf;refine⟨_,_,rfl,by simp,_,rfl,.inl ⟨rfl,?_⟩⟩;simp only[go_sem,hf]
  .right
   have cZ:¬(i:Int)<l.length:=by omega
   simp only[go_sem,cZ];refine⟨_,_,rfl,by simp,_,rfl,.inr ⟨rfl,?_⟩⟩;rw[<-hf,xd (by omega)];rfl
def aiE(MH:Has P L 686 Mi)(Sa:Has P L 122 LO)(Sb:Has P L 123 LP)(HY:Has P L 160 HB)(hT:Tx P L){l:List Rat}{K:Nat}(hv:mY v l)(hl:l.length<=1000000)(hk:∀x,x∈l->Hq K x)(hK:K<=4000000000):
  (l.any LG=ydb->ab P L 686 [v] (.av [.ah,aa 4]))/\(l.any LG=ydc->∃r,fO r (l.map RT)/\ab P L 686 [v] (.av [r,aa 0])):=by
 have e1:=aBY Sa HY hv hl (g:=107) (p:=LG) (fun w x hx hw=>aBe hT hw (hk x hx) hK);obtain⟨r,e2,hr⟩:=aBZ Sb hT hv hl hk hK;unfold ab at e1 e2 ⊢;constructor
 .intro ha;rw[ha] at e1;rw[aD MH];simp only[go_sem,ya,Mi,hv.aj,e1]
 .intro ha;rw[ha] at e1;refine⟨_,hr,?_⟩;rw[aD MH];simp only[go_sem,ya,Mi,hv.aj,e1,e2];rcases hr with ⟨hr,_⟩ | ⟨e,hr⟩<;>rw[hr]<;>rfl
end
def H4{z:Int}(h:z.natAbs<2^40):Hq 40 (z:Rat):=by
 refine⟨?_,?_⟩
 .rw [Rat.num_intCast];unfold Bd;omega
 .rw [Rat.den_intCast];unfold Bd;decide
section
variable {s:Bool}{M b:Nat}
def axv(hb:Fl b s M):binOp .sub (.aw .f32 b) (.aw .f32 b)=Gp (.aw .f32 0):=by
 have hf:=hb.fin;unfold gN at hf
 cases hr:ycF.read b with
 | number s m e=>
  have h1:ycw.format.sub b b=Gp 0:=aeA hr;simp[binOp,P4,h1]
 | _=>rw[hr] at hf;cases hf
def aB0:binOp .eql (.aw .f32 0) (.aw .f32 0)=Gp (.bool ydb):=by rfl
def azq(MI:Has P L 231 LX)(hb:Fl b s M):ab P L 231 [.aw .f32 b] (.bool ydb):=by
 unfold ab;rw[aD MI];simp only[go_sem,ya,LX,axv hb,aB0]
 first | done | rfl
def azr(hx:Fx P L)(ht:Tx P L)(MI:Has P L 231 LX)(Yi:Has P L 203 QY)(hb:Fl b s M):ab P L 203 [.aw .f32 b] (.av [.str (RT (kP s M)),aa 0]):=by
 have e1:=azq MI hb;obtain⟨r,e2,hr⟩:=aBP hx hb;have e3:=m46 ht hr (WH hb) (by decide);obtain⟨v1,v2,v3,v4,rfl,fv⟩:=hr.gen;unfold ab at e1 e2 e3;unfold ab;rw[aD Yi];simp only[go_sem,ya,QY,ml,e1,e2,e3,fv.aj,bw,yY];rfl
def aB1(ht:Tx P L)(Yj:Has P L 685 Rz)(hb:Fl b s M)(e1:ab P L 203 [.aw .f32 b] (.av [.str (RT (kP s M)),aa 0])):∃r,ab P L 685 [.aw .f32 b] r/\bS r (kP s M):=by
 have hl:=Hj (WH hb);obtain⟨r,e2,hr⟩:=m62 ht (a:=kP s M) (by omega);have bg:=hr;obtain⟨v1,v2,v3,v4,rfl,fv⟩:=hr.gen;refine⟨_,?_,bg⟩;unfold ab at e1 e2 ⊢;rw[aD Yj];simp only[go_sem,ya,yb,Rz,aQ,ml,e1,UN,TL,Ui,e2,bw,fv.st,cR,cS,yf,jZ,fv.dR]
structure Exc(P:aE)(L:Lib):Prop extends Fx P L,Tx P L where
 Yi:Has P L 203 QY
 MI:Has P L 231 LX
 Yj:Has P L 685 Rz
end
def jr.snoc{α β:Type}{p:α->β->Prop}:∀{l:List α} {m:List β} {a:α} {b:β},jr p l m->p a b->jr p (l++[a]) (m++[b])
 | [],[],_,_,_,h=>⟨h,trivial⟩
 | _::_,_::_,_,_,h,k=>⟨h.1,jr.snoc h.2 k⟩
def cC{β:Type}(p:AV->β->Prop)(v:AV)(M:List β):Prop:=∃rows,cp v rows/\jr p rows M
section
variable {β:Type}{p:AV->β->Prop}{v:AV}{s:List β}
def cC.len(h:cC p v s){hp:Hp}:jo hp 1 v=Gp (.int .i64 (s.length:Nat)):=by
 have⟨rows,h1,h2⟩:=h;rw[<-h2.len];exact h1.len
def cC.pu(h:cC p v s):aW v=ydb:=by have⟨rows,h1,h2⟩:=h;exact h1.pu
def cC.aj(h:cC p v s)(n:Nat){hp:Hp}:freeze (n+1) hp v=Gp (v,hp):=by have⟨rows,h1,h2⟩:=h;exact h1.aj n
def cC.shut(h:cC p v s):VE.shut v=v:=by obtain⟨rows,h1,h2⟩:=h;exact h1.shut
def cC.one(h:cC p v s):db v=ydb:=by have⟨rows,h1,h2⟩:=h;exact h1.one
def cC.cells(h:cC p v s):cellsOf v=[v]:=by have⟨rows,h1,h2⟩:=h;exact h1.cells
def cC.bk(h:cC p v s){i:Nat}(hi:i<s.length):∃r rest,p r s[i]/\gH 1 i v=Gp (.bC (r::rest)):=by
 have⟨rows,h1,h2⟩:=h;have cZ:i<rows.length:=by rw[h2.len];exact hi
 exact⟨_,_,h2.get cZ hi,h1.bk cZ⟩
def acv:cC p .ah []:=⟨[],po,trivial⟩
def UY(e:Bool){rows:List AV}(h:jr p rows s):cC p (.ap e s.length rows) s:=by
 have:=Kr e rows
 rw[h.len] at this;exact⟨rows,this,h⟩
end
def rY(f:Nat->Nat->Int)(n A B:Nat):Int:=RM (fun a=>RM (fun b=>f a b) n) A+RM (fun b=>f A b) B
def aqX{α:Type}{p:α->Bool}{l:List α}{i:Nat}(h:i<l.length):(l.drop i).all p=(p l[i]&&(l.drop (i+1)).all p):=by
 rw[yR h,List.all_cons]
def alF{α:Type}{f:α->Int}{l:List α}{i:Nat}(h:i<l.length):b9 ((l.drop i).map f)=if f l[i]=0 then b9 ((l.drop (i+1)).map f) else f l[i]:=by
 rw[yR h,xb,b9]
def rc(f:Nat):List AV->Nat
 | []=>f
 | _::_=>f+1
def aB2(h:Fr' P L)(FM:Has P L 720 HL){v w:AV}{s:Rat}{l:List Rat}{K M:Nat}(hv:bS v s)(hw:mY w l)(ks:Hq M s)(kl:∀x,x∈l->Hq K x)(hl:l.length<=1000000)(hK:M+l.length*(K+1)+K<=1000000000):∃r,ab P L 720 [w,v,.fn (.f 74) [] []] r/\bS r (fw s l):=by
 have key:=gV P L [2,4,6,9,10,11] K5
  (fun k st=>∃i:Nat,i+k=l.length/\∃c1 c2 c3 c4,bS (.agg [c1,c2,c3,c4]) (fw s (l.take i))/\st=⟨[(2,.fn (.f 74) [] []),(4,.ptr 0 0),(6,.ptr 1 0),(9,w),(10,aa l.length),(11,aa i)],[(1,.cells ydb ydb ydb 4 [.int .i64 0,.ah,.int .i64 0,.ah]),(0,.cells ydb ydb ydb 4 [c1,c2,c3,c4])],2,0⟩)
  (fun ex st=>∃tm hp ct c1 c2 c3 c4,bS (.agg [c1,c2,c3,c4]) (fw s l)/\st=⟨tm,hp,ct,0⟩/\ex=.exit 0/\ak tm 4=.ptr 0 0/\ak tm 6=.ptr 1 0/\ai hp 0=Gp (.cells ydb ydb ydb 4 [c1,c2,c3,c4])/\ai hp 1=Gp (.cells ydb ydb ydb 4 [.int .i64 0,.ah,.int .i64 0,.ah])) ?_
 .have eK:=hv;obtain⟨v1,v2,v3,v4,rfl,gv⟩:=hv.gen;unfold ab;rw[aD FM];simp only[go_sem,ya,yb,HL,gv.bx,aQ,hw.len];generalize hq:D P L (.loop _ K5) _=q;obtain⟨ex,st,rfl,tm,hp,ct,c1,c2,c3,c4,h1,rfl,rfl,t4,t6,g0,g1⟩:=bL hq (key l.length) ⟨0,by omega,v1,v2,v3,v4,by simpa[fw] using eK,by simp only[go_sem,ya,yb,ax,aG hw.pu]<;>rfl⟩
  have g:=h1.f4;refine⟨_,?_,h1⟩;simp only[go_sem,ya,yb,ax,t4,t6,g0,g1,jZ,g.st,cR,cS,yf];exact g.dR _
 .rintro k st ⟨i,hk,c1,c2,c3,c4,hs,rfl⟩;by_cases hi:i<l.length
  .left
   obtain⟨a,b,c,d,r,e1,hx⟩:=hw.bk hi;obtain⟨y,e2,hy⟩:=ND h hs hx (K:=M+l.length*(K+1)+K) ((Pz ks kl i).mono (by omega)) ((kl _ (xI hi)).mono (by omega)) (by omega);rw[<-Up hi] at hy;have Gg:=hy;obtain⟨y1,y2,y3,y4,rfl,gy⟩:=hy.gen;have gs:=hs.f4;have gx:=hx.f4;unfold ab at e2;simp only[go_sem,ya,yb,K5,show (i:Int)<l.length by omega,e1,MG,jZ,aQ,gx.st,e2,gs.aj,gx.aj,gy.st,bw,yf];refine⟨_,k-1,rfl,by omega,i+1,by omega,y1,y2,y3,y4,Gg,?_⟩;rw[wrap64 (by omega) (by omega)];simp only[go_sem,ya,yb,ax,aG hw.pu]<;>rfl
  .right
   simp only[go_sem,ya,K5,show ¬(i:Int)<l.length by omega];rw[yE (by omega)] at hs;exact⟨_,_,rfl,by simp,_,_,_,c1,c2,c3,c4,hs,rfl,rfl,by simp only[go_sem,ya],by simp only[go_sem,ya],by simp only[go_sem,ya],by simp only[go_sem]⟩
def aB3(h:Fr' P L)(FM:Has P L 720 HL)(MJ:Has P L 674 Mg){w:AV}{l:List Rat}{K:Nat}(hw:mY w l)(kl:∀x,x∈l->Hq K x)(hl:l.length<=1000000)(hK:40+l.length*(K+1)+K<=1000000000):∃r,ab P L 674 [w] r/\bS r (fw 0 l):=by
 obtain⟨z,e0,hz⟩:=Gc h (z:=0) (by omega) (by omega);have hz:bS z 0:=hz;obtain⟨r,e1,hr⟩:=aB2 h FM hz hw (H4 (z:=0) (by decide)) kl hl hK;obtain⟨z1,z2,z3,z4,rfl,gz⟩:=hz.gen;have bg:=hr;obtain⟨r1,r2,r3,r4,rfl,gr⟩:=hr.gen;refine⟨_,?_,bg⟩;unfold ab at e0 e1 ⊢;rw[aD MJ];simp only[go_sem,ya,yb,Mg,aQ,hw.aj,e0,gz.aj,bw,e1,gr.st,cR,cS,yf,jZ];exact gr.dR _
section
variable {v:AV}{F:List (List Nat)}{l r:List Nat}
def dD(v:AV)(r:List Nat):Prop:=cp v (dQ r)
def GJ{i:Nat}(h:i<l.length):(dQ l)[i]'(by simpa using h)=.aw .f32 l[i]:=by simp[dQ]
def rN(r:List Nat):Bool:=r.any fun b=> !gN b
def nm(n:Nat)(r:List Nat):Int:=b9 [if r.length=n then 0 else 2,if rN r=ydb then 1 else 0]
def Ds(n m:Nat)(F:List (List Nat)):Int:=if F.length=n then b9 (F.map (nm m)) else 2
def oZ(z lo hi:Int):Int:=if z<lo\/hi<z then 3 else 0
def rO(C R S:Int):Int:=b9 [oZ C 1 8,oZ R 1 8,oZ S 2 8]
def Vt{C R S:Int}(h:rO C R S=0):(1<=C/\C<=8)/\(1<=R/\R<=8)/\2<=S/\S<=8:=by
 obtain⟨h1,h2,h3⟩:=atm.1 h;unfold oZ at h1 h2 h3;refine⟨?_,?_,?_⟩
 .by_cases c:C<1\/8<C
  .rw [yC c] at h1;exact absurd h1 (by decide)
  .omega
 .by_cases c:R<1\/8<R
  .rw [yC c] at h2;exact absurd h2 (by decide)
  .omega
 .by_cases c:S<2\/8<S
  .rw [yC c] at h3;exact absurd h3 (by decide)
  .omega
def fe(C R S:Int)(F:List (List Nat)):Int:=if rO C R S=0 then Ds (R.toNat*S.toNat) (C.toNat*S.toNat) F else rO C R S
structure Frc(P:aE)(L:Lib):Prop where
 aB4:L.pure 753=Gp AB
 aB5:Has P L 641 Xk
 aB6:Has P L 643 Ri
 aB7:Has P L 670 Rr
 Yk:Has P L 676 HI
 Yl:Has P L 677 Rw
 rM:Has P L 692 Fo
 aB8:Has P L 716 Xn
 Ym:Has P L 717 RC
 aB9:Has P L 741 Xp
 aCa:Has P L 742 Xq
 aCb:Has P L 752 RE
def aCc(h:L.pure 753=Gp AB)(b:Nat):ab P L 753 [.aw .f32 b] (.bool (gN b)):=by
 unfold ab;simp only[bO,h,AB]
def aCd(h:Frc P L)(b:Nat):ab P L 742 [.aw .f32 b] (.bool (!gN b)):=by
 have e:=aCc (P:=P) h.aB4 b;unfold ab at e;unfold ab;rw[aD h.aCa];simp only[go_sem,ya,Xq,ml,e]
def aCe(h:Has P L 752 RE)(hv:cp v (dQ l))(hl:l.length<=1000000){g:Nat}{p:Nat->Bool}(hg:∀x,ab P L g [.aw .f32 x] (.bool (p x))):∃n:Int,ab P L 752 [v,.fn (.f g) [] []] (aa n)/\decide (0<=n)=l.any p:=by
 have hlen:(dQ l).length=l.length:=by simp
 have key:=gV P L [0,1,7,8] Hb
  (fun k s=>∃i:Nat,i+k=l.length/\(l.drop i).any p=l.any p/\s=⟨[(0,v),(1,.fn (.f g) [] []),(7,aa l.length),(8,aa i)],[],0,0⟩)
  (fun ex s=>∃tm hp ct,s=⟨tm,hp,ct,0⟩/\((∃n:Int,ex=.ret/\ak tm 4=aa n/\0<=n/\l.any p=ydb)\/(ex=.exit 0/\l.any p=ydc))) ?_
 .unfold ab;rw[aD h];simp only[go_sem,ya,RE,hv.len,hlen];generalize hq:D P L (.loop _ Hb) _=q;obtain⟨ex,s,rfl,tm,hp,ct,rfl,h2⟩:=bL hq (key l.length) ⟨0,by omega,rfl,by simp only[go_sem,ya,ax,aG hv.pu]<;>rfl⟩
  rcases h2 with ⟨n,rfl,h2,h3,h4⟩ | ⟨rfl,h2⟩
  .exact ⟨n,by simp only[go_sem,h2]<;>rfl,by rw[h4];simpa using h3⟩
  .exact ⟨-1,by simp only[go_sem,ax]<;>rfl,by rw[h2];decide⟩
 .rintro k s ⟨i,hk,hf,rfl⟩;by_cases hi:i<l.length
  .have cZ:(i:Int)<l.length:=by omega
   have e1:=hv.bk (i:=i) (by simpa using hi);rw[GJ hi] at e1;have e2:=hg l[i];unfold ab at e2;rw[UO hi] at hf
   cases dj:p l[i] with
   | false=>
    left
    rw[dj] at e2;simp only[go_sem,ya,Hb,cZ,e1,ml,e2];rw[dj,vV] at hf;refine⟨_,k-1,rfl,by omega,i+1,by omega,hf,?_⟩;rw[wrap64 (by omega) (by omega)];simp only[go_sem,ya,ax,aG hv.pu]<;>rfl
   | true=>
    right
    rw[dj] at e2;simp only[go_sem,ya,Hb,cZ,e1,ml,e2];refine⟨_,_,rfl,by simp,_,_,_,rfl,.inl ⟨i,rfl,?_,by omega,?_⟩⟩
    .simp only [go_sem]
    .rw [<-hf,dj,tc]
  .right
   simp only[go_sem,ya,Hb,show ¬(i:Int)<l.length by omega];refine⟨_,_,rfl,by simp,_,_,_,rfl,.inr ⟨rfl,?_⟩⟩;rw[<-hf,xd (by omega)];rfl
def aCf(Ym:Has P L 717 RC){M:List (List Nat)}(hv:cC dD v M)(hl:M.length<=1000000){g:Nat}{cap:List AV}(hc:aF cap=ydb)(hz:∀(n:Nat) (hp:Hp),cB (n+900) hp cap=Gp (cap,hp)){f:List Nat->Int}(hg:∀w a,a∈M->dD w a->ab P L g (w::cap) (aa (f a))):ab P L 717 [v,.fn (.f g) [] cap] (aa (b9 (M.map f))):=by
 have pf:aW (.fn (.f g) [] cap)=ydb:=by simp[aW,aF,hc]
 have key:=gV P L [1,8,9,10] PK
  (fun k s=>∃i:Nat,s=⟨[(1,.fn (.f g) [] cap),(8,v),(9,aa M.length),(10,aa i)],[],0,0⟩/\i+k=M.length/\b9 ((M.drop i).map f)=b9 (M.map f))
  (fun ex s=>∃tm ct,s=⟨tm,[],ct,0⟩/\((ex=.ret/\ak tm 4=aa (b9 (M.map f)))\/(ex=.exit 0/\b9 (M.map f)=0))) ?_
 .unfold ab;rw[aD Ym];simp only[go_sem,ya,RC,hv.len];generalize hq:D P L (.loop _ PK) _=q;obtain⟨ex,s,rfl,tm,ct,rfl,h2⟩:=bL hq (key M.length) ⟨0,by simp only[go_sem,ya,ax,aG hv.pu,aG pf]<;>rfl,by omega,by simp⟩
  rcases h2 with ⟨rfl,h2⟩ | ⟨rfl,h2⟩
  .simp only [go_sem,h2]
  .rw [h2];simp only[go_sem,ax]
 .rintro k s ⟨i,rfl,hk,hf⟩;simp only[go_sem,ya,PK];by_cases hi:i<M.length
  .have cZ:(i:Int)<M.length:=by omega
   obtain⟨r,rest,hr,e0⟩:=hv.bk hi;have e1:=hg r _ (xI hi) hr;unfold ab at e1;rw[yR hi,xb] at hf;simp only[b9] at hf;by_cases dj:f M[i]=0
   .left
    rw[dj] at e1;simp only[go_sem,ya,cZ,e0,hr.aj,hz,e1];refine⟨_,k-1,rfl,by omega,i+1,?_,by omega,by rw[yC dj] at hf;exact hf⟩
    rw[wrap64 (by omega) (by omega)];simp only[go_sem,ya,ax,aG hv.pu,aG pf]<;>rfl
   .right
    simp only[go_sem,ya,cZ,e0,hr.aj,hz,e1,dj];rw[yr dj] at hf;refine⟨_,_,rfl,by simp,_,_,rfl,.inl ⟨rfl,?_⟩⟩;simp only[go_sem,hf]
  .right
   have cZ:¬(i:Int)<M.length:=by omega
   simp only[go_sem,cZ];refine⟨_,_,rfl,by simp,_,_,rfl,.inr ⟨rfl,?_⟩⟩;rw[<-hf,xd (by omega)];rfl
def aCg(h:Frc P L)(hv:dD v r)(hl:r.length<=1000000):ab P L 741 [v,.fn (.f 742) [] []] (.bool (rN r)):=by
 obtain⟨n,e1,e2⟩:=aCe h.aCb hv hl (g:=742) (p:=fun b=> !gN b) (fun x=>aCd h x);have e2:decide (0<=n)=rN r:=e2;have hv:cp v (dQ r):=hv;unfold ab at e1 ⊢;rw[aD h.aB9];simp only[go_sem,ya,Xp,hv.aj,e1,e2]
def jN(a b c:Int)(ct:Nat):zc ct 3 [aa a,aa b,aa c]=Gp (.ptr ct 0,.cells ydb ydb ydb 3 [aa a,aa b,aa c]):=rfl
def fB(a b c:Int):ie 3 ydb [aa a,aa b,aa c]=Gp (.agg [aa a,aa b,aa c]):=rfl
def aCh(h:Frc P L){w:AV}{C R S:Nat}(hC:C<=8)(hS:S<=8)(hw:dD w r)(hl:r.length<=1000000):ab P L 716 [w,c7 C R S] (aa (nm (C*S) r)):=by
 have e1:=aCg h hw hl;have hw:cp w (dQ r):=hw;have hlen:(dQ r).length=r.length:=by simp
 have b1:C*S<=64:=xf hC hS;have m1:(C:Int)*(S:Int)=((C*S:Nat):Int):=by rw[xS]
 have e2:=HZ h.rM (!decide ((r.length:Int)=((C*S:Nat):Int))) 2;have q:decide ((r.length:Int)=((C*S:Nat):Int))=decide (r.length=C*S):=tQ.2 (by omega);rw[q] at e2;rw[show (if (!decide (r.length=C*S))=ydb then (2:Int) else 0)=(if r.length=C*S then 0 else 2) by by_cases e:r.length=C*S<;>simp[e]] at e2
 have e3:=HZ h.rM (rN r) 1;have e4:=Yf h.Yl (jY ydb [if r.length=C*S then 0 else 2,if rN r=ydb then 1 else 0]) (by simp);simp only[yF,yN,yd,yb,xb,vd] at e4;unfold ab at e1 e2 e3 e4 ⊢;rw[aD h.aB8];unfold nm
 simp only[go_sem,ya,yb,yx,yi,ym,Xn,c7,Lk,PW,hw.len,hw.aj,hlen,m1,wrap64 (n:=((C*S:Nat):Int)) (by omega) (by omega),q,e1,e2,e3,e4]
def aCi(h:Frc P L){C R S:Nat}(hC:C<=8)(hR:R<=8)(hS:S<=8)(hv:cC dD v F)(hl:F.length<=1000000)(hr:∀r,r∈F->r.length<=1000000):ab P L 670 [.agg [aa C,aa R,aa S],v] (aa (Ds (R*S) (C*S) F)):=by
 have e1:=aCf h.Ym hv hl (g:=716) (cap:=[c7 C R S]) rfl (fun n hp=>rfl) (f:=nm (C*S)) (fun w r bg hw=>aCh h hC hS hw (hr r bg));have b1:R*S<=64:=xf hR hS;have m1:(R:Int)*(S:Int)=((R*S:Nat):Int):=by rw[xS]
 unfold ab at e1 ⊢;rw[aD h.aB7];unfold c7 at e1;unfold Ds;by_cases hn:F.length=R*S
 .rw [yC hn]
  simp only[go_sem,ya,Rr,jN,aY,yd,yf,yH,hv.len,hv.aj,m1,wrap64 (n:=((R*S:Nat):Int)) (by omega) (by omega),hn,yI,e1]
 .rw [yr hn]
  simp only[go_sem,ya,Rr,jN,aY,yd,yf,yH,hv.len,m1,wrap64 (n:=((R*S:Nat):Int)) (by omega) (by omega),show ¬(F.length:Int)=((R*S:Nat):Int) by omega,yM]
def aCj(h:Frc P L)(C R S:Int):ab P L 641 [.agg [aa C,aa R,aa S]] (aa (rO C R S)):=by
 have e1:=Yg h.Yk h.rM C 1 8;have e2:=Yg h.Yk h.rM R 1 8;have e3:=Yg h.Yk h.rM S 2 8;have e4:=Yf h.Yl (jY ydb [oZ C 1 8,oZ R 1 8,oZ S 2 8]) (by simp);simp only[yF,yN,yd,yb,xb,vd] at e4;unfold ab at e1 e2 e3 e4 ⊢;rw[aD h.aB5];unfold oZ at e4;unfold rO oZ;simp only[go_sem,ya,yb,yx,yi,ym,Xk,jN,aY,yd,yf,yH,e1,e2,e3,e4]
def Yn(h:Frc P L){C R S:Int}(hv:cC dD v F)(hl:F.length<=1000000)(hr:∀r,r∈F->r.length<=1000000):ab P L 643 [.agg [aa C,aa R,aa S],v] (aa (fe C R S F)):=by
 have e1:=aCj h C R S;have fz:∀(n:Nat) (hp:Hp),freeze (n+20) hp (.agg [aa C,aa R,aa S])=Gp (.agg [aa C,aa R,aa S],hp):=fun n hp=>b6 _ _ (by simp only[go_sem])
 unfold ab;rw[aD h.aB6];unfold fe;by_cases h0:rO C R S=0
 .rw [yC h0];obtain⟨⟨a1,a2⟩,⟨b1,b2⟩,c1,c2⟩:=Vt h0;have e2:=aCi h (C:=C.toNat) (R:=R.toNat) (S:=S.toNat) (by omega) (by omega) (by omega) hv hl hr;rw[vl (by omega),vl (by omega),vl (by omega)] at e2;rw[h0] at e1;unfold ab at e1 e2;simp only[go_sem,ya,yb,Ri,jN,yf,fB,fz,e1,hv.aj,e2]
 .rw [yr h0];unfold ab at e1;simp only[go_sem,ya,yb,Ri,jN,yf,fB,fz,e1,h0]
end
section
open Go (IntKind)
open Ieee
def axw{b:Nat}{s:Bool}{M:Nat}(h:Fl b s M):Hq 429 (kP s M):=by
 have hM:=h.lt;have k1:Hq 278 (((bK s M:Int)):Rat):=UW 278 (ag5 278 277 hM (by decide)) (by decide);exact (k1.mul (WG (-149))).mono (by decide)
end
section
variable {F:List (List Nat)}{b c m n r:Nat}
noncomputable def fq(b:Nat):Rat:=match ycF.read b with
 | .number s m e=>kP s (dS m e)
 | _=>0
def azs{M:Nat}{s:Bool}(h:Fl b s M):fq b=kP s M:=by
 obtain⟨m,e,h1,h2⟩:=h.ex;unfold fq;rw[h1.read,h2]
def Qw(hb:b<4294967296)(hf:gN b=ydb):∃s M,Fl b s M/\fq b=kP s M:=by
 rcases aw9 hb with ⟨s,M,h⟩ | h
 .exact ⟨s,M,h,azs h⟩
 .rw [hf] at h;cases h
def aCk(hb:b<4294967296)(hf:gN b=ydb):Hq 429 (fq b):=by
 obtain⟨s,M,h,e⟩:=Qw hb hf;rw[e];exact axw h
structure gh(F:List (List Nat))(n m:Nat):Prop where
 len:F.length=n
 row:∀r,r∈F->r.length=m
 fin:∀r,r∈F->∀b,b∈r->gN b=ydb/\b<4294967296
noncomputable def fP(F:List (List Nat))(c r:Nat):Rat:=fq ((F.getD r []).getD c 0)
def afu{r:List Nat}(h:nm n r=0):r.length=n/\∀b,b∈r->gN b=ydb:=by
 unfold nm at h;obtain⟨h1,h2⟩:=aey.1 h;have h3:r.length=n:=by
  by_cases c:r.length=n
  .exact c
  .rw [yr c] at h1;exact absurd h1 (by decide)
 refine⟨h3,fun b hb=>?_⟩
 cases hf:gN b with
 | true=>rfl
 | false=>
  have:rN r=ydb:=by
   unfold rN;rw[yag];exact⟨b,hb,by rw[hf];rfl⟩
  rw[yC this] at h2;exact absurd h2 (by decide)
def atH(h:Ds n m F=0)(hb:∀r,r∈F->∀b,b∈r->b<4294967296):gh F n m:=by
 unfold Ds at h;by_cases c:F.length=n
 .rw [yC c] at h
  have:=abw h
  exact⟨c,fun r hr=>(afu (this r hr)).1,fun r hr b bJ=>⟨(afu (this r hr)).2 b bJ,hb r hr b bJ⟩⟩
 .rw [yr c] at h;exact absurd h (by decide)
def gh.at(h:gh F n m)(hr:r<n)(hc:c<m):∃(h1:r<F.length) (h2:c<F[r].length),fP F c r=fq (F[r][c])/\gN (F[r][c])=ydb/\F[r][c]<4294967296:=by
 have h1:r<F.length:=by rw[h.len];exact hr
 have h2:c<F[r].length:=by rw[h.row _ (xI h1)];exact hc
 refine⟨h1,h2,?_,h.fin _ (xI h1) _ (xI h2)⟩;unfold fP;simp only[xc,xv h1,xv h2,Option.getD_some]
def gh.H(h:gh F n m)(hr:r<n)(hc:c<m):Hq 429 (fP F c r):=by
 obtain⟨_,_,e,f1,f2⟩:=h.at hr hc;rw[e];exact aCk f2 f1
def rP(S i:Nat):Rat:=((2*(i:Int)+1-(S:Int):Int):Rat)/((2:Int):Rat)
def CW{S i:Nat}(hS:S<=8)(hi:i<=8):Hq 80 (rP S i):=(H4 (z:=2*(i:Int)+1-(S:Int)) (by omega)).div (H4 (z:=2) (by decide))
def pY(ct:Nat)(a b:Int):zc ct 2 [aa a,aa b]=Gp (.ptr ct 0,.cells ydb ydb ydb 2 [aa a,aa b]):=rfl
def WL(h:Exc P L)(hb:b<4294967296)(hf:gN b=ydb):∃r,ab P L 685 [.aw .f32 b] r/\bS r (fq b):=by
 obtain⟨s,M,bJ,e⟩:=Qw hb hf;rw[e];exact aB1 h.toTx h.Yj bJ (azr h.toFx h.toTx h.MI h.Yi bJ)
def aCl(h:Exc P L)(Yo:Has P L 687 RA){v:AV}(hv:cC dD v F)(hF:gh F n m)(hc:c<m)(hr:r<n):∃x,ab P L 687 [.agg [aa c,aa r],.bC [v]] x/\bS x (fP F c r):=by
 obtain⟨bg,iv,e,f1,f2⟩:=hF.at hr hc;obtain⟨w,rest,hw,e0⟩:=hv.bk bg;have hw:cp w (dQ F[r]):=hw;have e1:=hw.bk (i:=c) (by simpa using iv);rw[GJ iv] at e1;obtain⟨x,e2,hx⟩:=WL h f2 f1;rw[e];have oX:=hx;obtain⟨x1,x2,x3,x4,rfl,gx⟩:=hx.gen;unfold ab at e2;refine⟨_,?_,oX⟩;unfold ab;rw[aD Yo];simp only[go_sem,ya,yb,RA,aQ,aY,yd,yf,yH,e0,e1,ml,e2,gx.st,bw,cR,cS,jZ,gx.dR]
def aiF(h:Fr' P L)(Sc:Has P L 725 RD){C R S i:Nat}(hS:S<=8)(hi:i<=8):∃x,ab P L 725 [.agg [aa C,aa R,aa S],aa i] x/\bS x (rP S i):=by
 obtain⟨u,e1,hu⟩:=Gc h (z:=2*(i:Int)+1-(S:Int)) (by omega) (by omega);obtain⟨w,e2,hw⟩:=Gc h (z:=2) (by omega) (by omega);obtain⟨x,e3,hx⟩:=ZN h hu hw (by decide) (H4 (by omega)) (H4 (by decide)) (by decide);obtain⟨u1,u2,u3,u4,rfl,gu⟩:=hu.gen;obtain⟨w1,w2,w3,w4,rfl,gw⟩:=hw.gen;have oX:=hx;obtain⟨x1,x2,x3,x4,rfl,gx⟩:=hx.gen;unfold ab at e1 e2 e3;refine⟨_,?_,oX⟩;unfold ab;rw[aD Sc]
 simp only[go_sem,ya,yb,RD,aQ,aY,yd,yf,yH,wrap64 (n:=2*(i:Int)) (by omega) (by omega),wrap64 (n:=2*(i:Int)+1) (by omega) (by omega),wrap64 (n:=2*(i:Int)+1-(S:Int)) (by omega) (by omega),e1,e2,gu.aj,gw.aj,e3,gx.st,bw,cR,cS,jZ,gx.dR]
end
section
variable {TM:Env}{M cap:List AV}{C R S a b g i k:Nat}{f x y:Rat}
def bH(f:Nat->Rat):Nat->Rat
 | 0=>0
 | n+1=>bH f n+f n
def E7{f:Nat->Rat}{K N:Nat}(h:∀t,t<N->Hq K (f t)):∀{n:Nat},n<=N->Hq (2+n*(K+1)) (bH f n)
 | 0,_=>R4.mono (by omega)
 | n+1,hn=>((E7 h (n:=n) (by omega)).add (h n (by omega))).mono (by rw[xR];omega)
def Mo(M:List AV)(f x y:Rat):Prop:=∃a1 a2 a3 a4 a5 a6 a7 a8 a9 dH dI a12,M=[a1,a2,a3,a4,a5,a6,a7,a8,a9,dH,dI,a12]/\bS (.agg [a1,a2,a3,a4]) f/\bS (.agg [a5,a6,a7,a8]) x/\bS (.agg [a9,dH,dI,a12]) y
section
variable {c1 c2 c3 c4:AV}(h:F4 c1 c2 c3 c4)(hp:Hp)(ct id:Nat)(a1 a2 a3 a4 a5 a6 a7 a8 a9 dH dI a12:AV)
include h
theorem F4.p:aF [c1,c2,c3,c4]=ydb:=by have:=h.pu;simpa[aW] using this
theorem F4.o:cd [c1,c2,c3,c4]=ydb:=by simp[cd,h.o1,h.o2,h.o3,h.o4]
theorem F4.DJ:gD hp ct id 0 4 [c1,c2,c3,c4] (Gp (.cells ydb ydb ydb 12 [a1,a2,a3,a4,a5,a6,a7,a8,a9,dH,dI,a12]))=Gp (.av [],aU hp id (.cells ydb ydb ydb 12 [c1,c2,c3,c4,a5,a6,a7,a8,a9,dH,dI,a12]),ct):=by
 rw[sT (sz:=4) (by rfl) (by simp) h.o,h.p];rfl
theorem F4.st4:gD hp ct id 4 4 [c1,c2,c3,c4] (Gp (.cells ydb ydb ydb 12 [a1,a2,a3,a4,a5,a6,a7,a8,a9,dH,dI,a12]))=Gp (.av [],aU hp id (.cells ydb ydb ydb 12 [a1,a2,a3,a4,c1,c2,c3,c4,a9,dH,dI,a12]),ct):=by
 rw[sT (sz:=4) (by rfl) (by simp) h.o,h.p];rfl
theorem F4.st8:gD hp ct id 8 4 [c1,c2,c3,c4] (Gp (.cells ydb ydb ydb 12 [a1,a2,a3,a4,a5,a6,a7,a8,a9,dH,dI,a12]))=Gp (.av [],aU hp id (.cells ydb ydb ydb 12 [a1,a2,a3,a4,a5,a6,a7,a8,c1,c2,c3,c4]),ct):=by
 rw[sT (sz:=4) (by rfl) (by simp) h.o,h.p];rfl
end
def MK(h:Mo M f x y)(hp:Hp)(ct id:Nat){N:List AV}(hN:N.length=12):gD hp ct id 0 12 M (Gp (.cells ydb ydb ydb 12 N))=Gp (.av [],aU hp id (.cells ydb ydb ydb 12 M),ct):=by
 obtain⟨a1,a2,a3,a4,a5,a6,a7,a8,a9,dH,dI,a12,rfl,h1,h2,h3⟩:=h;have g1:=h1.f4;have g2:=h2.f4;have g3:=h3.f4;have p1:=g1.p;have p2:=g2.p;have p3:=g3.p;simp only[aF,ye,vL] at p1 p2 p3
 rw[sT (sz:=12) (by rfl) (by simp[hN]) (by simp[cd,g1.o1,g1.o2,g1.o3,g1.o4,g2.o1,g2.o2,g2.o3,g2.o4,g3.o1,g3.o2,g3.o3,g3.o4])];have e:over 0 [a1,a2,a3,a4,a5,a6,a7,a8,a9,dH,dI,a12] N=[a1,a2,a3,a4,a5,a6,a7,a8,a9,dH,dI,a12]:=by
  unfold over;rw[xd (by simp[hN])];rfl
 rw[e];have e2:aF [a1,a2,a3,a4,a5,a6,a7,a8,a9,dH,dI,a12]=ydb:=by simp[aF,p1,p2,p3]
 rw[e2];rfl
structure Mom(P:aE)(L:Lib):Prop extends Fr' P L where
 HX:Has P L 719 Mk
 aiG:Has P L 673 Rv
 aCm:Has P L 724 Xo
 Sc:Has P L 725 RD
def ML:List AV:=[.int .i64 0,.ah,.int .i64 0,.ah,.int .i64 0,.ah,.int .i64 0,.ah,.int .i64 0,.ah,.int .i64 0,.ah]
def jV(A B:VC)(TM:Env)(C R S a b g:Nat)(cap M:List AV)(st:Nat):Hp:=[(5,.lp TM [18,19] A B st .none),(4,.cells ydb ydb ydb 12 M),(3,.cells ydb ydb ydb 12 ML),(2,.cells ydb ydb ydb 1 [.fn (.f g) [] cap]),(1,.cells ydb ydb ydb 2 [aa a,aa b]),(0,.cells ydb ydb ydb 3 [aa C,aa R,aa S])]
def zi(hp:Hp)(ct id:Nat)(a b:Int)(x y:AV):gD hp ct id 0 2 [aa a,aa b] (Gp (.cells ydb ydb ydb 2 [x,y]))=Gp (.av [],aU hp id (.cells ydb ydb ydb 2 [aa a,aa b]),ct):=rfl
def Dt(n:Nat)(hp:Hp)(a b:Int):freeze (n+20) hp (.agg [aa a,aa b])=Gp (.agg [aa a,aa b],hp):=b6 _ _ (by simp only[go_sem])
def lh(n:Nat)(hp:Hp)(a b c:Int):freeze (n+20) hp (.agg [aa a,aa b,aa c])=Gp (.agg [aa a,aa b,aa c],hp):=b6 _ _ (by simp only[go_sem])
def PxF(P:aE)(L:Lib)(g:Nat)(cap:List AV)(C R:Nat)(q:Nat->Nat->Rat):Prop:=∀c r,c<C->r<R->∃x,ab P L g (.agg [aa c,aa r]::cap) x/\bS x (q c r)
structure sW(cap:List AV):Prop where
 pu:aF cap=ydb
 z:∀(n:Nat) (hp:Hp),cB (n+900) hp cap=Gp (cap,hp)
def WM{A B:VC}(hb:lH 5 TM)(hc:sW cap)(M:List AV)(st:Nat):fS 6 6 (jV A B TM C R S a b g cap M st):=
 ⟨by omega,aaP (by omega) hb,by omega,.inl rfl,by omega,.inl rfl,by omega,.inl rfl,by omega,.inl rfl,by omega,.inl rfl,trivial⟩
def WO{A B:VC}(hn:(cJ TM).length<=1000)(M:List AV)(st:Nat):(b7 6 (jV A B TM C R S a b g cap M st)).length<=90000:=by
 have:b7 6 (jV A B TM C R S a b g cap M st)=cJ TM:=by
  simp only[jV,EQ _ _ (show 5<6 by omega),EQ _ _ (show 4<6 by omega),EQ _ _ (show 3<6 by omega),EQ _ _ (show 2<6 by omega),EQ _ _ (show 1<6 by omega),EQ _ _ (show 0<6 by omega),iT,yu,xU,adA]
 rw[this];omega
def aCn(h:Mom P L)(t3:ak TM 3=.ptr 0 0)(t5:ak TM 5=.ptr 2 0)(t7:ak TM 7=.ptr 4 0)(hc:sW cap)(hM:Mo M f x y)(kf:Hq 300000 f)(kx:Hq 300000 x)(ky:Hq 300000 y)(hS:S<=8)(hk:k<S)(hi:i<S){n:Rat}(kn:Hq 3000 n){u:AV}(e1:ab P L g (.agg [aa ((a*S+i:Nat):Int),aa ((b*S+k:Nat):Int)]::cap) u)(hu:bS u n):
  ∃M' J,Mo M' (f+n) (x+n*rP S i) (y+n*rP S k)/\(∀p:Nat×Obj,p∈J->6<=p.1)/\gF (D P L) (jV ow oz TM C R S a b g cap M 0) 6 5 (NN S a b k i)=Gp (.bool ydb,J++jV ow oz TM C R S a b g cap M' 0,9):=by
 obtain⟨a1,a2,a3,a4,a5,a6,a7,a8,a9,dH,dI,a12,rfl,hf,hx,hy⟩:=hM;obtain⟨ci,e2,Ir⟩:=aiF h.toFr' h.Sc (C:=C) (R:=R) (S:=S) (i:=i) hS (by omega);obtain⟨ck,e3,gP⟩:=aiF h.toFr' h.Sc (C:=C) (R:=R) (S:=S) (i:=k) hS (by omega);have kci:=CW hS (show i<=8 by omega);have kck:=CW hS (show k<=8 by omega);obtain⟨s,e4,hs⟩:=ND h.toFr' hf hu (K:=300000) kf (kn.mono (by omega)) (by decide);obtain⟨px,e5,hpx⟩:=S4 h.toFr' hu Ir (K:=3000) kn (kci.mono (by omega)) (by decide);obtain⟨py,e6,Zp⟩:=S4 h.toFr' hu gP (K:=3000) kn (kck.mono (by omega)) (by decide);obtain⟨sx,e7,hsx⟩:=ND h.toFr' hx hpx (K:=300000) kx ((kn.mul kci).mono (by omega)) (by decide);obtain⟨sy,e8,hsy⟩:=ND h.toFr' hy Zp (K:=300000) ky ((kn.mul kck).mono (by omega)) (by decide);have gf:=hf.f4;have gx:=hx.f4;have gy:=hy.f4;obtain⟨u1,u2,u3,u4,rfl,gu⟩:=hu.gen;obtain⟨i1,i2,i3,i4,rfl,gi⟩:=Ir.gen
 obtain⟨k1,k2,k3,k4,rfl,gk⟩:=gP.gen;obtain⟨p1,p2,p3,p4,rfl,gp⟩:=hpx.gen;obtain⟨q1,q2,q3,q4,rfl,gq⟩:=Zp.gen;have Ga:=hs;have aCo:=hsx;have aCp:=hsy;obtain⟨s1,s2,s3,s4,rfl,gs⟩:=hs.gen;obtain⟨v1,v2,v3,v4,rfl,gv⟩:=hsx.gen;obtain⟨w1,w2,w3,w4,rfl,gw⟩:=hsy.gen;refine⟨[s1,s2,s3,s4,v1,v2,v3,v4,w1,w2,w3,w4],[(8,.cells ydb ydb ydb 4 [u1,u2,u3,u4]),(7,.cells ydb ydb ydb 2 [aa ((a*S+i:Nat):Int),aa ((b*S+k:Nat):Int)]),(6,.cells ydb ydb ydb 2 [aa i,aa k])],⟨_,_,_,_,_,_,_,_,_,_,_,_,rfl,Ga,aCo,aCp⟩,?_,?_⟩
 .intro p hp;simp only[xy,ybC,or_false] at hp;rcases hp with rfl | rfl | rfl<;>simp
 unfold ab at e1 e2 e3 e4 e5 e6 e7 e8;have z1:Nat->Nat->AV:=fun _ _=>.ah
 generalize hA:((a*S+i:Nat):Int)=A at*
 generalize hB:((b*S+k:Nat):Int)=B at*
 have ej:∀Ac Bc,D P L ow ⟨(19,.agg [aa A,aa B])::(18,.agg [aa i,aa k])::TM,jV Ac Bc TM C R S a b g cap [a1,a2,a3,a4,a5,a6,a7,a8,a9,dH,dI,a12] 0,6,6⟩=Gp (.normal,⟨(9,.ptr 7 0)::(8,.ptr 6 0)::(19,.agg [aa A,aa B])::(18,.agg [aa i,aa k])::TM,(7,.cells ydb ydb ydb 2 [aa A,aa B])::(6,.cells ydb ydb ydb 2 [aa i,aa k])::jV Ac Bc TM C R S a b g cap [a1,a2,a3,a4,a5,a6,a7,a8,a9,dH,dI,a12] 0,8,6⟩):=by
  intro Ac Bc;unfold jV;simp only[go_sem,ya,yb,ow,pY,zi]
 have cQ:∀Ac Bc,∃tm,D P L oz ⟨(9,.ptr 7 0)::(8,.ptr 6 0)::(19,.agg [aa A,aa B])::(18,.agg [aa i,aa k])::TM,(7,.cells ydb ydb ydb 2 [aa A,aa B])::(6,.cells ydb ydb ydb 2 [aa i,aa k])::jV Ac Bc TM C R S a b g cap [a1,a2,a3,a4,a5,a6,a7,a8,a9,dH,dI,a12] 1,8,8⟩=Gp (.normal,⟨tm,(8,.cells ydb ydb ydb 4 [u1,u2,u3,u4])::(7,.cells ydb ydb ydb 2 [aa A,aa B])::(6,.cells ydb ydb ydb 2 [aa i,aa k])::jV Ac Bc TM C R S a b g cap [s1,s2,s3,s4,v1,v2,v3,v4,w1,w2,w3,w4] 1,9,8⟩):=by
  intro Ac Bc;unfold jV;simp only[go_sem,ya,yb,oz,Dt,lh,bV,t3,t5,t7,aY,yd,yf,yH,fB,jZ,hc.z,e1,aQ,gu.st,bw,gf.aj,gu.aj,e4,gs.DJ,e2,gi.aj,e5,gx.aj,gp.aj,e7,gv.st4,e3,gk.aj,e6,gy.aj,gq.aj,e8,gw.st8];exact⟨_,rfl⟩
 obtain⟨tm,cQ⟩:=cQ ow oz
 have:=Bl (P:=P) (L:=L) (hp:=jV ow oz TM C R S a b g cap [a1,a2,a3,a4,a5,a6,a7,a8,a9,dH,dI,a12] 0) (ct:=6) (l:=5) (xs:=[.agg [aa i,aa k],.agg [aa A,aa B]]) rfl rfl (ej _ _) rfl cQ rfl
 unfold NN;rw[hA,hB];exact this
def iM(q:Nat->Nat->Rat)(a b S t:Nat):Rat:=q (a*S+t%S) (b*S+t/S)
def A3(q:Nat->Nat->Rat)(a b S t:Nat):Rat:=iM q a b S t*rP S (t%S)
def A4(q:Nat->Nat->Rat)(a b S t:Nat):Rat:=iM q a b S t*rP S (t/S)
def PX(hi:i<S):(k*S+i)%S=i:=by rw[xt,Nat.mul_add_mod,Nat.mod_eq_of_lt hi]
def PY(hi:i<S):(k*S+i)/S=k:=by rw[xt,Nat.mul_add_div (by omega),Nat.div_eq_of_lt hi,yX]
def lL(ha:a<C)(hi:i<S):a*S+i<C*S:=by
 have:=yO S (show a+1<=C by omega)
 rw[xR,tZ] at this;omega
def afv{q:Nat->Nat->Rat}(hi:i<S):iM q a b S (k*S+i)=q (a*S+i) (b*S+k):=by unfold iM;rw[PX hi,PY hi]
def C9{t:Nat}(h:t<S*S):t%S<S/\t/S<S:=by
 have h0:0<S:=th (fun e=>by subst e;simp at h);exact⟨xJ _ h0,ybg h⟩
section
variable {q:Nat->Nat->Rat}{a b C R S:Nat}(kq:∀c r,c<C*S->r<R*S->Hq 3000 (q c r))(ha:a<C)(hb:b<R)(hS:S<=8)
include kq ha hb
theorem WQ{t:Nat}(h:t<S*S):Hq 3000 (iM q a b S t):=kq _ _ (lL ha (C9 h).1) (lL hb (C9 h).2)
include hS
theorem azt{t:Nat}(h:t<S*S):Hq 3080 (A3 q a b S t):=(WQ kq ha hb h).mul (CW hS (by have:=(C9 h).1;omega))
theorem azu{t:Nat}(h:t<S*S):Hq 3080 (A4 q a b S t):=(WQ kq ha hb h).mul (CW hS (by have:=(C9 h).2;omega))
theorem WR{n:Nat}(hn:n<=S*S):Hq 300000 (bH (iM q a b S) n)/\Hq 300000 (bH (A3 q a b S) n)/\Hq 300000 (bH (A4 q a b S) n):=by
 have Ge:S*S<=64:=xf hS hS
 exact⟨(E7 (N:=S*S) (fun t ht=>WQ kq ha hb ht) hn).mono (by omega),(E7 (N:=S*S) (fun t ht=>azt kq ha hb hS ht) hn).mono (by omega),(E7 (N:=S*S) (fun t ht=>azu kq ha hb hS ht) hn).mono (by omega)⟩
end
def aCq(h:Mom P L){q:Nat->Nat->Rat}(t3:ak TM 3=.ptr 0 0)(t5:ak TM 5=.ptr 2 0)(t7:ak TM 7=.ptr 4 0)(t17:ak TM 17=.fn (.f 719) [] [c7 C R S,ji a b])(zH:lH 5 TM)(hn:(cJ TM).length<=1000)(hc:sW cap)(hC:C<=8)(hR:R<=8)(hS:S<=8)(ha:a<C)(hb:b<R)(hq:PxF P L g cap (C*S) (R*S) q)(kq:∀c r,c<C*S->r<R*S->Hq 3000 (q c r))(hM:Mo M 0 0 0){Q:Option (Ex×St)}(hQ:D P L (.rf (.t 17) [18,19] ow oz) ⟨TM,[(4,.cells ydb ydb ydb 12 M),(3,.cells ydb ydb ydb 12 ML),(2,.cells ydb ydb ydb 1 [.fn (.f g) [] cap]),(1,.cells ydb ydb ydb 2 [aa a,aa b]),(0,.cells ydb ydb ydb 3 [aa C,aa R,aa S])],5,0⟩=Q):
  ∃M',Mo M' (bH (iM q a b S) (S*S)) (bH (A3 q a b S) (S*S)) (bH (A4 q a b S) (S*S))/\Q=Gp (.normal,⟨TM,[(4,.cells ydb ydb ydb 12 M'),(3,.cells ydb ydb ydb 12 ML),(2,.cells ydb ydb ydb 1 [.fn (.f g) [] cap]),(1,.cells ydb ydb ydb 2 [aa a,aa b]),(0,.cells ydb ydb ydb 3 [aa C,aa R,aa S])],6,0⟩):=by
 have mg:∀M,jc 6 5 (jV ow oz TM C R S a b g cap M 0)=(jV ow oz TM C R S a b g cap M 0,6):=fun M=>adB (J:=[]) (by simp) (WM zH hc M 0) (by omega) (WO hn M 0)
 obtain⟨H,c,⟨M',rfl,rfl,A5⟩,e⟩:=WI (P:=P) (L:=L) h.HX (f:=.t 17) (ps:=[18,19]) (as_:=ow) (body:=oz) (s:=⟨TM,[(4,.cells ydb ydb ydb 12 M),(3,.cells ydb ydb ydb 12 ML),(2,.cells ydb ydb ydb 1 [.fn (.f g) [] cap]),(1,.cells ydb ydb ydb 2 [aa a,aa b]),(0,.cells ydb ydb ydb 3 [aa C,aa R,aa S])],5,0⟩) (C:=C) (R:=R) (a:=a) (b:=b) hS (by omega) (by omega) t17
  (Inv:=fun j H c=>∃M,H=jV ow oz TM C R S a b g cap M 0/\c=6/\Mo M (bH (iM q a b S) j) (bH (A3 q a b S) j) (bH (A4 q a b S) j))
  ⟨by rintro j H c ⟨M,rfl,rfl,_⟩;exact mg M,by
   rintro j H c ⟨M,rfl,rfl,_⟩ tm ct
   exact TB (live:=[]) trivial (WM zH hc M 0) (by have:=WO hn (A:=ow) (B:=oz) (C:=C) (R:=R) (S:=S) (a:=a) (b:=b) (g:=g) (cap:=cap) M 0;show 0+(b7 6 (jV ow oz TM C R S a b g cap M 0)).length<100000;omega),by rintro j H c ⟨M,rfl,rfl,_⟩;exact⟨_,_,_,_,rfl⟩⟩
  ⟨_,_,mg M,M,rfl,rfl,hM⟩ (by
   rintro k i H c hk hi ⟨M,rfl,rfl,hM⟩;obtain⟨u,e1,hu⟩:=hq (a*S+i) (b*S+k) (lL ha hi) (lL hb hk);have kn:=kq (a*S+i) (b*S+k) (lL ha hi) (lL hb hk);have hj:k*S+i<=S*S:=by
    have:=lL (S:=S) hk hi
    omega
   obtain⟨kf,kx,ky⟩:=WR kq ha hb hS hj;obtain⟨M',J,h1,h2,h3⟩:=aCn h t3 t5 t7 hc hM kf kx ky hS hk hi kn e1 hu;refine⟨_,_,_,_,h3,adB h2 (WM zH hc M' 0) (by omega) (WO hn M' 0),M',rfl,rfl,?_⟩;simp only[bH,A3,A4,afv hi,PX hi,PY hi]
   exact h1)
 exact⟨M',A5,by rw[<-hQ,e];rfl⟩
def Mo.aj(h:Mo M f x y)(n:Nat)(hp:Hp):freeze (n+30) hp (.agg M)=Gp (.agg M,hp):=by
 obtain⟨a1,a2,a3,a4,a5,a6,a7,a8,a9,dH,dI,a12,rfl,h1,h2,h3⟩:=h;have g1:=h1.f4;have g2:=h2.f4;have g3:=h3.f4;exact b6 _ _ (by simp only[go_sem,g1.z1,g1.z2,g1.z3,g1.z4,g2.z1,g2.z2,g2.z3,g2.z4,g3.z1,g3.z2,g3.z3,g3.z4])
def Mo.dR(h:Mo M f x y)(hp:Hp):result hp (.agg M)=Gp (.agg M):=by
 have e:=h.aj 970 hp;simp only[yb] at e;simp only[result,mL,deep,e]
def Mo.ld(h:Mo M f x y):ie 12 ydb M=Gp (.agg M):=by
 obtain⟨a1,a2,a3,a4,a5,a6,a7,a8,a9,dH,dI,a12,rfl,h1,h2,h3⟩:=h;rfl
def aCr(h:Mom P L){q:Nat->Nat->Rat}(hc:sW cap)(hC:C<=8)(hR:R<=8)(hS:S<=8)(ha:a<C)(hb:b<R)(hq:PxF P L g cap (C*S) (R*S) q)(kq:∀c r,c<C*S->r<R*S->Hq 3000 (q c r)):
  ∃M,ab P L 724 [.agg [aa C,aa R,aa S],.agg [aa a,aa b],.fn (.f g) [] cap] (.agg M)/\Mo M (bH (iM q a b S) (S*S)) (bH (A3 q a b S) (S*S)) (bH (A4 q a b S) (S*S)):=by
 obtain⟨z,e1,hz⟩:=Gc h.toFr' (z:=0) (by omega) (by omega);have dj:=hz;obtain⟨z1,z2,z3,z4,rfl,gz⟩:=hz.gen;have e2:ab P L 673 [.agg [aa C,aa R,aa S],.agg [aa a,aa b]] (.fn (.f 719) [] [c7 C R S,ji a b]):=by
  unfold ab;rw[aD h.aiG];simp only[go_sem,ya,yb,Rv,jN,pY]
  first | done | rfl
 have ss:Mo [z1,z2,z3,z4,z1,z2,z3,z4,z1,z2,z3,z4] 0 0 0:=⟨_,_,_,_,_,_,_,_,_,_,_,_,rfl,dj,dj,dj⟩;unfold ab at e1 e2;have H5:=fun hp ct id (N:List AV) (hN:N.length=12)=>MK ss hp ct id hN
 have pf:db (.fn (.f g) [] cap)=ydb:=rfl;have jW:∀ct,zc ct 1 [.fn (.f g) [] cap]=Gp (.ptr ct 0,.cells ydb ydb ydb 1 [.fn (.f g) [] cap]):=fun ct=>by
  rw[aQ (n:=1) rfl (by simp[cd,pf])];simp[aF,aW,hc.pu]
 have aX:cd [z1,z2,z3,z4]=ydb:=gz.o;unfold ab;rw[aD h.aCm];simp only[go_sem,ya,yb,yi,Xo,aQ,hc.pu,aX,List.take_zero,yy,List.take_succ_cons,yj,yf,yH,e1,bw,CI,over,H5,bV,fB,Dt,lh,e2];have pz:=gz.p;simp only[aF,ye,vL] at pz;obtain⟨pz1,pz2,pz3,pz4⟩:=pz;generalize hQ:D P L (.rf _ _ _ _) _=Q;obtain⟨M',A5,rfl⟩:=aCq h rfl rfl rfl rfl (by
  have b1:=nn (n:=5) pz1;have b2:=nn (n:=5) pz2;have b3:=nn (n:=5) pz3;have b4:=nn (n:=5) pz4;have b5:=Gr (n:=5) hc.pu
  simp[lH,below,mN,c7,ji,b1,b2,b3,b4,b5]) (by simp[cJ,refs,eZ,c7,ji,eW pz1,eW pz2,eW pz3,eW pz4,zQ hc.pu]) hc hC hR hS ha hb hq kq ss hQ
 refine⟨M',?_,A5⟩;have hl:=A5.ld;have hs:=fun hp ct id (N:List AV) (hN:N.length=12)=>MK A5 hp ct id hN
 simp only[go_sem,ya,yb,yf,hl,ML,hs,cR,cS,A5.dR]
end
def aCs(p q:nl):km (.ag [2,2]) (.agg (zJ p)) (.agg (zJ q))=Gp (cK p.1 q.1&&cK p.2 q.2):=by
 show dc [2,2] [.str p.1,.str p.2] [.str q.1,.str q.2]=_
 simp only[dc];cases cK p.1 q.1<;>cases cK p.2 q.2<;>rfl
def hF(vs mc:List AV):Hp:=[(1,.cells ydb ydb ydb 4 mc),(0,.cells ydb ydb ydb 4 vs)]
section
variable {M T cap:List AV}{f x y:Rat}
structure Cen(P:aE)(L:Lib):Prop extends Mom P L,Tx P L where
 aiH:Has P L 672 Ru
 MH:Has P L 686 Mi
 aCt:Has P L 688 Xm
 FL:Has P L 718 HK
 Sa:Has P L 122 LO
 Sb:Has P L 123 LP
 HY:Has P L 160 HB
def aiI(h:Has P L 672 Ru)(C R S:Nat):ab P L 672 [.agg [aa C,aa R,aa S]] (.fn (.f 718) [] [c7 C R S]):=by
 unfold ab;rw[aD h];simp only[go_sem,ya,yb,Ru,jN]
 first | done | rfl
def acw{hp:Hp}{ct l:Nat}{xs:List AV}{tm tm' gO nd:Env}{ps qc rY:List Nat}{a b a1 b1 a2 b2:VC}{pe nQ Sv:sY}{s1 s2:St}(h1:ai hp l=Gp (.lp tm ps a b 0 pe))(h2:ri tm ps xs=Gp tm')(h3:D P L a ⟨tm',hp,ct,ct⟩=Gp (.normal,s1))(h4:ai s1.hp l=Gp (.lp gO qc a1 b1 0 nQ))(h5:D P L b ⟨s1.tm,aU s1.hp l (.lp gO qc a1 b1 1 nQ),s1.ct,s1.ct⟩=Gp (.ret,s2))(h6:ai s2.hp l=Gp (.lp nd rY a2 b2 1 Sv)):
  gF (D P L) hp ct l xs=Gp (.bool ydc,aU s2.hp l (.lp nd rY a2 b2 2 .ret),s2.ct):=by
 simp only[gF,h1,h2,h3,h4,h5,h6,PF]
def gE(C R S g:Nat)(cap:List AV):Env:=[(16,.fn (.f 718) [] [c7 C R S]),(15,.agg [aa C,aa R,aa S]),(6,.ptr 4 0),(5,.ptr 3 0),(4,.ptr 2 0),(3,.ptr 1 0),(2,.ptr 0 0),(0,.agg [aa C,aa R,aa S]),(1,.fn (.f g) [] cap)]
def eC(A B:VC)(C R S g:Nat)(cap:List AV):Nat->List AV->Nat->Hp
 | 0,_,st=>[(5,.lp (gE C R S g cap) [17,18] A B st .none),(4,.cells ydb ydb ydb 1 [.ah]),(3,.cells ydb ydb ydb 1 [aa 0]),(2,.cells ydb ydb ydb 1 [.ah]),(1,.cells ydb ydb ydb 1 [.fn (.f g) [] cap]),(0,.cells ydb ydb ydb 3 [aa C,aa R,aa S])]
 | n+1,T,st=>[(6,.cells ydb ydb ydc 12 T),(5,.lp (gE C R S g cap) [17,18] A B st .none),(4,.cells ydb ydc ydb 1 [.aq 6 0 (n+1)]),(3,.cells ydb ydb ydb 1 [aa 0]),(2,.cells ydb ydb ydb 1 [.ah]),(1,.cells ydb ydb ydb 1 [.fn (.f g) [] cap]),(0,.cells ydb ydb ydb 3 [aa C,aa R,aa S])]
def D7:Nat->Nat
 | 0=>6
 | _+1=>7
def Mo.cells(h:Mo M f x y):M.length=12/\cd M=ydb/\aF M=ydb:=by
 obtain⟨a1,a2,a3,a4,a5,a6,a7,a8,a9,dH,dI,a12,rfl,h1,h2,h3⟩:=h;have g1:=h1.f4;have g2:=h2.f4;have g3:=h3.f4;have p1:=g1.p;have p2:=g2.p;have p3:=g3.p;simp only[aF,ye,vL] at p1 p2 p3;exact⟨rfl,by simp[cd,g1.o1,g1.o2,g1.o3,g1.o4,g2.o1,g2.o2,g2.o3,g2.o4,g3.o1,g3.o2,g3.o3,g3.o4],by simp[aF,p1,p2,p3]⟩
def aqY(h:0<f):¬bW f.num<=0:=by
 have:=(abr f).2 h
 omega
def axx{tm:Env}{x1 x2 x3 x4 x5 x6 x7 x8 x9 x10 x11 x12 a1 a2 a3 a4 a5 a6 a7 a8 a9 dH dI a12:AV}(h:cd [a1,a2,a3,a4,a5,a6,a7,a8,a9,dH,dI,a12]=ydb):kX tm [x1,x2,x3,x4,x5,x6,x7,x8,x9,x10,x11,x12] 0 12 [a1,a2,a3,a4,a5,a6,a7,a8,a9,dH,dI,a12] []=Gp [a1,a2,a3,a4,a5,a6,a7,a8,a9,dH,dI,a12]:=by
 simp only[kX,h];rfl
def afw(bZ pu ex:Bool)(a1 a2 a3 a4 a5 a6 a7 a8 a9 dH dI a12:AV):DP 0 1 12 (Gp (.cells bZ pu ex 12 [a1,a2,a3,a4,a5,a6,a7,a8,a9,dH,dI,a12]))=Gp (1,[a1,a2,a3,a4,a5,a6,a7,a8,a9,dH,dI,a12]):=rfl
def aCu(h:Cen P L){C R S g k a b n:Nat}(hc:sW cap)(hT:T.length=n*12)(hn:n<=64)(hM:Mo M f x y)(hf:0<f)(e1:ab P L 724 [.agg [aa C,aa R,aa S],.agg [aa a,aa b],.fn (.f g) [] cap] (.agg M)):
  ∃hp aI,gF (D P L) (eC jl jm C R S g cap n T 0) (D7 n) 5 [aa k,.agg [aa a,aa b]]=Gp (.bool ydb,hp,aI)/\jc 6 5 hp=(eC jl jm C R S g cap (n+1) (T++M) 0,7):=by
 have hl:=hM.ld;have hs:=fun hp ct id (N:List AV) (hN:N.length=12)=>MK hM hp ct id hN
 obtain⟨m1,m2,m3⟩:=hM.cells;obtain⟨a1,a2,a3,a4,a5,a6,a7,a8,a9,dH,dI,a12,rfl,r5,Tc,hy1⟩:=hM;have e2:=RX h.toFr' r5;have g1:=r5.f4;have jv:=hc.z;have Ap:decide (bW f.num<=0)=ydc:=yW (aqY hf);unfold ab at e1 e2;have sX:=fun tm (y1 y2 y3 y4 y5 y6 y7 y8 y9 y10 y11 y12:AV)=>axx (tm:=tm) (x1:=y1) (x2:=y2) (x3:=y3) (x4:=y4) (x5:=y5) (x6:=y6) (x7:=y7) (x8:=y8) (x9:=y9) (x10:=y10) (x11:=y11) (x12:=y12) m2
 match n,hT with
 | 0,hT=>
  have hT:T=[]:=wZ.1 (by simpa using hT);subst hT;have ej:∀Ac Bc,D P L jl ⟨(18,.agg [aa a,aa b])::(17,aa k)::gE C R S g cap,eC Ac Bc C R S g cap 0 [] 0,6,6⟩=Gp (.normal,⟨(8,.ptr 6 0)::(18,.agg [aa a,aa b])::(17,aa k)::gE C R S g cap,(6,.cells ydb ydb ydb 2 [aa a,aa b])::eC Ac Bc C R S g cap 0 [] 0,7,6⟩):=by
   intro Ac Bc;unfold eC;simp only[go_sem,ya,yb,jl,pY,zi]
  have cQ:∀Ac Bc,∃tm,D P L jm ⟨(8,.ptr 6 0)::(18,.agg [aa a,aa b])::(17,aa k)::gE C R S g cap,(6,.cells ydb ydb ydb 2 [aa a,aa b])::eC Ac Bc C R S g cap 0 [] 1,7,7⟩=Gp (.normal,⟨tm,[(9,.cells ydb ydb ydc 12 [a1,a2,a3,a4,a5,a6,a7,a8,a9,dH,dI,a12]),(8,.cells ydb ydb ydb 12 [a1,a2,a3,a4,a5,a6,a7,a8,a9,dH,dI,a12]),(7,.cells ydb ydb ydb 12 [a1,a2,a3,a4,a5,a6,a7,a8,a9,dH,dI,a12]),(6,.cells ydb ydb ydb 2 [aa a,aa b]),(5,.lp (gE C R S g cap) [17,18] Ac Bc 1 .none),(4,.cells ydb ydc ydb 1 [.aq 9 0 1]),(3,.cells ydb ydb ydb 1 [aa 0]),(2,.cells ydb ydb ydb 1 [.ah]),(1,.cells ydb ydb ydb 1 [.fn (.f g) [] cap]),(0,.cells ydb ydb ydb 3 [aa C,aa R,aa S])],10,7⟩):=by
   intro Ac Bc;unfold eC;simp only[go_sem,ya,yb,xp,yx,yi,jm,gE,aY,yd,fB,bV,jZ,lh,Dt,jv,Lf,Lg,Lh,e1,bw,aQ,yf,hs,hl,g1.aj,e2,Ap,sX,iB,m1,m3,Be,A9,afw,iA,oK];exact⟨_,rfl⟩
  obtain⟨tm,cQ⟩:=cQ jl jm
  refine⟨_,_,Bl (P:=P) (L:=L) (hp:=eC jl jm C R S g cap 0 [] 0) (ct:=6) (l:=5) (xs:=[aa k,.agg [aa a,aa b]]) rfl rfl (ej _ _) rfl cQ rfl,?_⟩;simp only[go_sem,ya,yb,yx,yi,sR,eC,gE,c7,zQ hc.pu,Bg _ hc.pu]
 | n+1,hT=>
  have BX:=fun (hp:Hp) (ct:Nat) (hg:ai hp 6=Gp (.cells ydb ydb ydc 12 T))=>gG (ct:=ct) (by':=192) (new:=[a1,a2,a3,a4,a5,a6,a7,a8,a9,dH,dI,a12]) (m:=1) (n:=n+1) hg hT (by omega) (by omega) (by decide) m2
  have ej:∀Ac Bc,D P L jl ⟨(18,.agg [aa a,aa b])::(17,aa k)::gE C R S g cap,eC Ac Bc C R S g cap (n+1) T 0,7,7⟩=Gp (.normal,⟨(8,.ptr 7 0)::(18,.agg [aa a,aa b])::(17,aa k)::gE C R S g cap,(7,.cells ydb ydb ydb 2 [aa a,aa b])::eC Ac Bc C R S g cap (n+1) T 0,8,7⟩):=by
   intro Ac Bc;unfold eC;simp only[go_sem,ya,yb,jl,pY,zi]
  have cQ:∀Ac Bc,∃tm,D P L jm ⟨(8,.ptr 7 0)::(18,.agg [aa a,aa b])::(17,aa k)::gE C R S g cap,(7,.cells ydb ydb ydb 2 [aa a,aa b])::eC Ac Bc C R S g cap (n+1) T 1,8,8⟩=Gp (.normal,⟨tm,[(10,.cells ydb ydb ydc 12 (T++[a1,a2,a3,a4,a5,a6,a7,a8,a9,dH,dI,a12])),(9,.cells ydb ydb ydb 12 [a1,a2,a3,a4,a5,a6,a7,a8,a9,dH,dI,a12]),(8,.cells ydb ydb ydb 12 [a1,a2,a3,a4,a5,a6,a7,a8,a9,dH,dI,a12]),(7,.cells ydb ydb ydb 2 [aa a,aa b]),(5,.lp (gE C R S g cap) [17,18] Ac Bc 1 .none),(4,.cells ydb ydc ydb 1 [.aq 10 0 (n+1+1)]),(3,.cells ydb ydb ydb 1 [aa 0]),(2,.cells ydb ydb ydb 1 [.ah]),(1,.cells ydb ydb ydb 1 [.fn (.f g) [] cap]),(0,.cells ydb ydb ydb 3 [aa C,aa R,aa S])],11,8⟩):=by
   intro Ac Bc;unfold eC;simp only[go_sem,ya,yb,xp,jm,gE,aY,yd,fB,bV,jZ,lh,Dt,jv,Lf,Lg,Lh,e1,bw,aQ,yf,hs,hl,g1.aj,e2,Ap,sX,iB,m1,m3,Be,A9,afw,BX,oK,vn];exact⟨_,rfl⟩
  obtain⟨tm,cQ⟩:=cQ jl jm
  refine⟨_,_,Bl (P:=P) (L:=L) (hp:=eC jl jm C R S g cap (n+1) T 0) (ct:=7) (l:=5) (xs:=[aa k,.agg [aa a,aa b]]) rfl rfl (ej _ _) rfl cQ rfl,?_⟩;simp only[go_sem,ya,yb,yx,yi,sR,eC,gE,c7,zQ hc.pu,Bg _ hc.pu]
def ag8(hp:Hp)(_:Nat):Prop:=ai (cE hp 5) 2=Gp (.cells ydb ydb ydb 1 [.ah])/\ai (cE hp 5) 3=Gp (.cells ydb ydb ydb 1 [aa 6])
def azv(h:Cen P L){C R S g k a b n:Nat}(hc:sW cap)(hM:Mo M f x y)(hf:¬0<f)(e1:ab P L 724 [.agg [aa C,aa R,aa S],.agg [aa a,aa b],.fn (.f g) [] cap] (.agg M)):
  ∃hp aI tm p A B,gF (D P L) (eC jl jm C R S g cap n T 0) (D7 n) 5 [aa k,.agg [aa a,aa b]]=Gp (.bool ydc,hp,aI)/\ai hp 5=Gp (.lp tm p A B 2 .ret)/\ag8 hp aI:=by
 have hl:=hM.ld;have hs:=fun hp ct id (N:List AV) (hN:N.length=12)=>MK hM hp ct id hN
 obtain⟨m1,m2,m3⟩:=hM.cells;obtain⟨a1,a2,a3,a4,a5,a6,a7,a8,a9,dH,dI,a12,rfl,r5,Tc,hy1⟩:=hM;have e2:=RX h.toFr' r5;have g1:=r5.f4;have jv:=hc.z;have Ap:decide (bW f.num<=0)=ydb:=by rw[ato];exact xk (yaw.1 hf)
 unfold ab at e1 e2
 cases n with
 | zero=>
  have ej:∀Ac Bc,D P L jl ⟨(18,.agg [aa a,aa b])::(17,aa k)::gE C R S g cap,eC Ac Bc C R S g cap 0 T 0,6,6⟩=Gp (.normal,⟨(8,.ptr 6 0)::(18,.agg [aa a,aa b])::(17,aa k)::gE C R S g cap,(6,.cells ydb ydb ydb 2 [aa a,aa b])::eC Ac Bc C R S g cap 0 T 0,7,6⟩):=by
   intro Ac Bc;unfold eC;simp only[go_sem,ya,yb,jl,pY,zi]
  have cQ:∀Ac Bc,∃tm,D P L jm ⟨(8,.ptr 6 0)::(18,.agg [aa a,aa b])::(17,aa k)::gE C R S g cap,(6,.cells ydb ydb ydb 2 [aa a,aa b])::eC Ac Bc C R S g cap 0 T 1,7,7⟩=Gp (.ret,⟨tm,[(7,.cells ydb ydb ydb 12 [a1,a2,a3,a4,a5,a6,a7,a8,a9,dH,dI,a12]),(6,.cells ydb ydb ydb 2 [aa a,aa b]),(5,.lp (gE C R S g cap) [17,18] Ac Bc 1 .none),(4,.cells ydb ydb ydb 1 [.ah]),(3,.cells ydb ydb ydb 1 [aa 6]),(2,.cells ydb ydb ydb 1 [.ah]),(1,.cells ydb ydb ydb 1 [.fn (.f g) [] cap]),(0,.cells ydb ydb ydb 3 [aa C,aa R,aa S])],8,7⟩):=by
   intro Ac Bc;unfold eC;simp only[go_sem,ya,yb,jm,gE,aY,yd,fB,bV,jZ,lh,Dt,jv,Lf,Lg,Lh,e1,bw,aQ,yf,hs,g1.aj,e2,Ap,oK];exact⟨_,rfl⟩
  obtain⟨tm,cQ⟩:=cQ jl jm
  exact⟨_,_,_,_,_,_,acw (P:=P) (L:=L) (hp:=eC jl jm C R S g cap 0 T 0) (ct:=6) (l:=5) (xs:=[aa k,.agg [aa a,aa b]]) rfl rfl (ej _ _) rfl cQ rfl,rfl,rfl,rfl⟩
 | succ n=>
  have ej:∀Ac Bc,D P L jl ⟨(18,.agg [aa a,aa b])::(17,aa k)::gE C R S g cap,eC Ac Bc C R S g cap (n+1) T 0,7,7⟩=Gp (.normal,⟨(8,.ptr 7 0)::(18,.agg [aa a,aa b])::(17,aa k)::gE C R S g cap,(7,.cells ydb ydb ydb 2 [aa a,aa b])::eC Ac Bc C R S g cap (n+1) T 0,8,7⟩):=by
   intro Ac Bc;unfold eC;simp only[go_sem,ya,yb,jl,pY,zi]
  have cQ:∀Ac Bc,∃tm,D P L jm ⟨(8,.ptr 7 0)::(18,.agg [aa a,aa b])::(17,aa k)::gE C R S g cap,(7,.cells ydb ydb ydb 2 [aa a,aa b])::eC Ac Bc C R S g cap (n+1) T 1,8,8⟩=Gp (.ret,⟨tm,[(8,.cells ydb ydb ydb 12 [a1,a2,a3,a4,a5,a6,a7,a8,a9,dH,dI,a12]),(7,.cells ydb ydb ydb 2 [aa a,aa b]),(6,.cells ydb ydb ydc 12 T),(5,.lp (gE C R S g cap) [17,18] Ac Bc 1 .none),(4,.cells ydb ydc ydb 1 [.aq 6 0 (n+1)]),(3,.cells ydb ydb ydb 1 [aa 6]),(2,.cells ydb ydb ydb 1 [.ah]),(1,.cells ydb ydb ydb 1 [.fn (.f g) [] cap]),(0,.cells ydb ydb ydb 3 [aa C,aa R,aa S])],9,8⟩):=by
   intro Ac Bc;unfold eC;simp only[go_sem,ya,yb,jm,gE,aY,yd,fB,bV,jZ,lh,Dt,jv,Lf,Lg,Lh,e1,bw,aQ,yf,hs,g1.aj,e2,Ap,oK];exact⟨_,rfl⟩
  obtain⟨tm,cQ⟩:=cQ jl jm
  exact⟨_,_,_,_,_,_,acw (P:=P) (L:=L) (hp:=eC jl jm C R S g cap (n+1) T 0) (ct:=7) (l:=5) (xs:=[aa k,.agg [aa a,aa b]]) rfl rfl (ej _ _) rfl cQ rfl,rfl,rfl,rfl⟩
end
section
variable {cap:List AV}{C R S g:Nat}
abbrev MT:=Rat×Rat×Rat
def kQ(t:MT):Rat×Rat:=(t.2.1/t.1,t.2.2/t.1)
def zK(t:MT):Bool:=LG (kQ t).1||LG (kQ t).2
noncomputable def D8(t:MT):nl:=(RT (kQ t).1,RT (kQ t).2)
def MoS(Ms:List (List AV))(ts:List MT):Prop:=jr (fun M t=>Mo M t.1 t.2.1 t.2.2) Ms ts
noncomputable def mh(ts:List MT):List AV:=(ts.map fun t=>zJ (D8 t)).flatten
def aeE(ts:List MT):(mh ts).length=ts.length*2:=by
 unfold mh
 rw[OF (k:=2) (fun p hp=>by obtain⟨t,_,rfl⟩:=wJ.1 hp;rfl),yS]
def aqZ(ts:List MT)(t:MT):mh (ts++[t])=mh ts++zJ (D8 t):=by unfold mh;simp
def rQ(n i:Nat)(T O:List AV):St:=match i with
 | 0=>⟨[(4,.ptr 0 0),(5,.ptr 1 0),(10,.ah),(31,.aq 2 0 n),(32,aa n),(33,aa 0)],[(2,.cells ydb ydb ydc 12 T),(1,.cells ydb ydb ydb 1 [aa 0]),(0,.cells ydb ydb ydb 1 [.ah])],3,0⟩
 | i+1=>⟨[(4,.ptr 0 0),(5,.ptr 1 0),(10,.aq 2 0 (i+1)),(31,.aq 3 0 n),(32,aa n),(33,aa ((i+1:Nat):Int))],[(3,.cells ydb ydb ydc 12 T),(2,.cells ydb ydb ydc 2 O),(1,.cells ydb ydb ydb 1 [aa 0]),(0,.cells ydb ydb ydb 1 [.ah])],4,0⟩
def axy(h:Cen P L){Ms:List (List AV)}{ts:List MT}{n:Nat}(hn:ts.length=n)(aGp:n<=64)(hM:MoS Ms ts)(hp:∀t,t∈ts->0<t.1)(hk:∀t,t∈ts->Hq 300000 t.1/\Hq 300000 t.2.1/\Hq 300000 t.2.2):
  ∀d st,(∃i,i+d=n/\(ts.take i).any zK=ydc/\bn [4,5,10,31,32,33] st=rQ n i Ms.flatten (mh (ts.take i)))->∃ex s',D P L (.loop [4,5,10,31,32,33] Bu) st=Gp (ex,s')/\
   ((ex=.ret/\ts.any zK=ydb/\∃tm hp ct,s'=⟨tm,hp,ct,0⟩/\ak tm 4=.ptr 0 0/\ak tm 5=.ptr 1 0/\ai hp 0=Gp (.cells ydb ydb ydb 1 [.ah])/\ai hp 1=Gp (.cells ydb ydb ydb 1 [aa 4]))\/
    (ex=.exit 2/\ts.any zK=ydc/\∃tm ct,s'=⟨tm,(rQ n n Ms.flatten (mh ts)).hp,ct,0⟩/\bc tm [4,5,10]=bc (rQ n n Ms.flatten (mh ts)).tm [4,5,10])):=by
 have Td:Ms.length=n:=by rw[<-hn];exact hM.len
 have Jy:∀p,p∈Ms->p.length=12:=fun p hp=>by
  obtain⟨i,hi,rfl⟩:=wE.1 hp;exact (hM.get hi (by rw[hn,<-Td];exact hi)).cells.1
 intro dq sq;generalize zE:bn [4,5,10,31,32,33] sq=s0;revert zE s0 sq dq;apply avU;rintro d st ⟨i,hid,hB,rfl⟩;have hT:Ms.flatten.length=n*12:=by rw[OF Jy,Td]
 by_cases hi:i<n
 .have qF:i<Ms.length:=by omega
  have Gi:i<ts.length:=by omega
  have jV:=hM.get qF Gi;have ht:=hp _ (xI Gi);obtain⟨k1,k2,k3⟩:=hk _ (xI Gi);obtain⟨rest,Qx⟩:=Ur Jy qF;have Nc:(ts.take (i+1)).any zK=zK ts[i]:=by
   rw[xi Gi,ybJ,hB];simp
  have htO:mh (ts.take (i+1))=mh (ts.take i)++zJ (D8 ts[i]):=by
   rw[xi Gi,aqZ]
  have hOl:(mh (ts.take i)).length=i*2:=by rw[aeE,yQ,xB (by omega)]
  have Im:=jV.ld;have H5:=fun hp ct id (N:List AV) (hN:N.length=12)=>MK jV hp ct id hN
  obtain⟨m1,m2,m3⟩:=jV.cells;generalize zy:ts[i]=t at*
  generalize Ms[i]=M at*
  obtain⟨a1,a2,a3,a4,a5,a6,a7,a8,a9,dH,dI,a12,rfl,h1,h2,h3⟩:=jV;have Sd:∀(r:List AV),ie 12 ydb (a1::a2::a3::a4::a5::a6::a7::a8::a9::dH::dI::a12::r)=Gp (.agg [a1,a2,a3,a4,a5,a6,a7,a8,a9,dH,dI,a12]):=fun _=>rfl
  have h0:t.1≠0:=fun e=>by rw[e] at ht;exact absurd ht (by decide)
  obtain⟨vx,e1,hx⟩:=ZN h.toFr' h2 h1 h0 k2 k1 (by decide);obtain⟨vy,e2,hy⟩:=ZN h.toFr' h3 h1 h0 k3 k1 (by decide);have kx:Hq 600000 (t.2.1/t.1):=(k2.div k1).mono (by decide);have ky:Hq 600000 (t.2.2/t.1):=(k3.div k1).mono (by decide);have g1:=h1.f4;have g2:=h2.f4;have g3:=h3.f4;obtain⟨x1,x2,x3,x4,rfl,gx⟩:=hx.gen;obtain⟨y1,y2,y3,y4,rfl,gy⟩:=hy.gen;obtain⟨px1,px2,px3,px4⟩:=gx.Z8;obtain⟨py1,py2,py3,py4⟩:=gy.Z8;have hL:mY (.ap ydb 2 [x1,x2,x3,x4,y1,y2,y3,y4]) [(kQ t).1,(kQ t).2]:=UX (l:=[(kQ t).1,(kQ t).2]) ydb (QL.cons hx (QL.cons hy QL.nil));have e9:=aiE h.MH h.Sa h.Sb h.HY h.toTx hL (show 2<=1000000 by decide) (K:=600000) (fun z hz=>by
   rcases xy.1 hz with rfl | hz
   .exact kx
   .rcases xy.1 hz with rfl | hz
    .exact ky
    .exact absurd hz ybC) (by decide)
  have pl:aF [x1,x2,x3,x4,y1,y2,y3,y4]=ydb:=by simp only[aF,px1,px2,px3,px4,py1,py2,py3,py4,vn]
  have Yp:[(kQ t).1,(kQ t).2].any LG=zK t:=by simp[zK]
  rw[Yp] at e9;unfold ab at e1 e2;have me:∀id,gH 12 i (.aq id 0 n)=Gp (.ptr id (0+i*12)):=fun id=>cV id 0 hi
  have aH:(i:Int)<n:=by omega
  have asn:dd (aa i)=Gp i:=rfl
  cases Tf:zK t with
  | true=>
   right
   have e9:=e9.1 Tf;have iY:ts.any zK=ydb:=by
    rw[yag];exact⟨_,xI Gi,by rw[zy,Tf]⟩
   unfold ab at e9
   cases i with
   | zero=>
    have DC:Ms.flatten=[a1,a2,a3,a4,a5,a6,a7,a8,a9,dH,dI,a12]++rest:=by simpa using Qx
    have mF:(0:Int)<n:=by omega
    have Yq:∀id,gH 12 0 (.aq id 0 n)=Gp (.ptr id 0):=me;simp only[go_sem,ya,yb,xp,yx,Bu,rQ,mF,Yq,DC,aY,yd,Sd,H5,yf,yH,yj,yy,jZ,g2.aj,g1.aj,g3.aj,e1,e2,bw,Px gx.o1 gx.o2 gx.o3 gx.o4,Py gy.o1 gy.o2 gy.o3 gy.o4,iB,pl,e9,oK,aQ,show ¬(4:Int)=0 by decide,yM];exact⟨_,_,rfl,by simp,.inl ⟨rfl,iY,_,_,_,rfl,by simp only[go_sem,ya],by simp only[go_sem,ya],by simp only[go_sem,ya],by simp only[go_sem,ya]⟩⟩
   | succ i=>
    simp only[go_sem,ya,yb,xp,yx,Bu,rQ,aH,me,asn,Qx,aY,yd,Sd,H5,yf,yH,yj,yy,jZ,g2.aj,g1.aj,g3.aj,e1,e2,bw,Px gx.o1 gx.o2 gx.o3 gx.o4,Py gy.o1 gy.o2 gy.o3 gy.o4,iB,pl,e9,oK,aQ,show ¬(4:Int)=0 by decide,yM];exact⟨_,_,rfl,by simp,.inl ⟨rfl,iY,_,_,_,rfl,by simp only[go_sem,ya],by simp only[go_sem,ya],by simp only[go_sem,ya],by simp only[go_sem,ya]⟩⟩
  | false=>
   left
   obtain⟨rs,AT,e9⟩:=e9.2 Tf;have AT:fO rs [RT (kQ t).1,RT (kQ t).2]:=AT;have i0:=AT.bk (i:=0) (show 0<2 by decide);have i1:=AT.bk (i:=1) (show 1<2 by decide);simp only[wI,wT] at i0 i1;unfold ab at e9;have fY:∀a b:List Nat,cellsOf (.agg [AV.str a,.str b])=[.str a,.str b]:=fun _ _=>rfl
   have aiJ:∀(tm:Env) (a b:List Nat),kX tm [AV.str [],.str []] 0 2 [.str a,.str b] []=Gp [.str a,.str b]:=fun _ _ _=>rfl
   have AR:∀(bZ pu ex:Bool) (a b:AV),DP 0 1 2 (Gp (.cells bZ pu ex 2 [a,b]))=Gp (1,[a,b]):=fun _ _ _ _ _=>rfl
   rw[Tf] at Nc;unfold D8 zJ at htO;generalize RT (kQ t).1=tx at*
   generalize RT (kQ t).2=ty at*
   cases i with
   | zero=>
    have DC:Ms.flatten=[a1,a2,a3,a4,a5,a6,a7,a8,a9,dH,dI,a12]++rest:=by simpa using Qx
    have mF:(0:Int)<n:=by omega
    have Yq:∀id,gH 12 0 (.aq id 0 n)=Gp (.ptr id 0):=me;simp only[go_sem,ya,yb,xp,yx,yi,Bu,rQ,mF,Yq,DC,aY,yd,Sd,H5,yf,yH,yj,yy,jZ,g2.aj,g1.aj,g3.aj,e1,e2,bw,Px gx.o1 gx.o2 gx.o3 gx.o4,Py gy.o1 gy.o2 gy.o3 gy.o4,iB,pl,e9,aQ,yI,AT.bI,i0,i1,fY,aiJ,AR,iA];refine⟨_,d-1,rfl,by omega,1,by omega,Nc,?_⟩;rw[htO];have hz:mh (ts.take 0)=[]:=rfl;simp only[go_sem,ya,yb,ax,hz,yy]
    try rfl
   | succ i=>
    have BX:=fun (hp:Hp) (ct:Nat) (hg:ai hp 2=Gp (.cells ydb ydb ydc 2 (mh (ts.take (i+1)))))=>gG (ct:=ct) (by':=32) (new:=[AV.str tx,.str ty]) (m:=1) (n:=i+1) hg hOl (by omega) (by omega) (by decide) rfl
    simp only[go_sem,ya,yb,xp,yx,yi,Bu,rQ,aH,me,asn,Qx,aY,yd,Sd,H5,yf,yH,yj,yy,jZ,g2.aj,g1.aj,g3.aj,e1,e2,bw,Px gx.o1 gx.o2 gx.o3 gx.o4,Py gy.o1 gy.o2 gy.o3 gy.o4,iB,pl,e9,aQ,yI,AT.bI,i0,i1,fY,aiJ,AR,BX];refine⟨_,d-1,rfl,by omega,i+2,by omega,Nc,?_⟩;rw[wrap64 (by omega) (by omega),htO];simp only[go_sem,ya,yb,ax]
    try rfl
 .right
  have cG:i=n:=by omega
  subst cG;rw[yE (by omega)] at hB ⊢
  cases i with
  | zero=>
   simp only[go_sem,ya,Bu,rQ,show ¬(0:Int)<((0:Nat):Int) by decide];exact⟨_,_,rfl,by simp,.inr ⟨rfl,hB,_,_,rfl,by simp only[go_sem,ya]⟩⟩
  | succ i=>
   simp only[go_sem,ya,Bu,rQ,show ¬((i+1:Nat):Int)<((i+1:Nat):Int) by omega];exact⟨_,_,rfl,by simp,.inr ⟨rfl,hB,_,_,rfl,by simp only[go_sem,ya]⟩⟩
def zB(B:Nat)(p:Hp×Nat):St:=⟨[],p.1,p.2,B⟩
def WS(B:Nat)(a:Hp)(b:Nat):zB B (a,b)=⟨[],a,b,B⟩:=rfl
def UZ(tm:Env)(hp:Hp)(ct B:Nat):bn [] ⟨tm,hp,ct,B⟩=zB B (cmB B hp (lC B hp 100000 (b7 B hp) [])):=rfl
def ag9(hc:sW cap)(A B:VC)(n:Nat)(T:List AV):jc 6 5 (eC A B C R S g cap n T 0)=(eC A B C R S g cap n T 0,D7 n):=by
 cases n<;>simp only[go_sem,yb,yx,yi,sR,eC,D7,gE,c7,zQ hc.pu,Bg _ hc.pu]
def azw(hc:sW cap)(A B:VC)(n:Nat)(T:List AV)(tm:Env)(ct:Nat):bn [] ⟨tm,eC A B C R S g cap n T 0,ct,6⟩=⟨[],eC A B C R S g cap n T 0,D7 n,6⟩:=by
 cases n<;>simp only[go_sem,yb,yx,yi,UZ,WS,eC,D7,gE,c7,zQ hc.pu,Bg _ hc.pu]
def azx(A B:VC)(n:Nat)(T:List AV):∃tm p a b,ai (eC A B C R S g cap n T 0) 5=Gp (.lp tm p a b 0 .none):=by
 cases n<;>exact⟨_,_,_,_,rfl⟩
def gS(q:Nat->Nat->Rat)(C R S:Nat):List MT:=(xY (C*R)).map fun k=>(bH (iM q (k%C) (k/C) S) (S*S),bH (A3 q (k%C) (k/C) S) (S*S),bH (A4 q (k%C) (k/C) S) (S*S))
def nW(ts:List MT):Int:=if (ts.any fun t=>decide (t.1<=0))=ydb then 6 else if ts.any zK=ydb then 4 else 0
noncomputable def zL(ts:List MT):List nl:=if nW ts=0 then ts.map D8 else []
def aeF{q:Nat->Nat->Rat}:(gS q C R S).length=C*R:=by simp[gS]
def atI{q:Nat->Nat->Rat}{k:Nat}(hk:k<(gS q C R S).length):(gS q C R S)[k]=(bH (iM q (k%C) (k/C) S) (S*S),bH (A3 q (k%C) (k/C) S) (S*S),bH (A4 q (k%C) (k/C) S) (S*S)):=by simp[gS]
def Ew{k:Nat}(h:k<C*R):k%C<C/\k/C<R:=by
 have h0:0<C:=th (fun e=>by rw[e,wC] at h;omega);exact⟨xJ _ h0,ybg h⟩
def axz{hp:Hp}{id n sz:Nat}{cs:List AV}{e:Int}(hg:ai hp id=Gp (.cells ydb ydb ydc sz cs))(hl:cs.length=n*sz):result hp (.av [.aq id 0 n,aa e])=Gp (.av [.cF ydc sz n cs,aa e]):=by
 have h1:mL deep hp (.aq id 0 n)=Gp (.cF ydc sz n cs,cE hp id):=by
  simp only[mL,hg,yd,<-hl,yv (yp cs.length),yu,wK,slice,yf,xL]
 simp only[result,Ky,CD,h1];rfl
def aiK(h:Cen P L){q:Nat->Nat->Rat}(hc:sW cap)(hC:C<=8)(hR:R<=8)(hS:S<=8)(JC:0<C*R)(hq:PxF P L g cap (C*S) (R*S) q)(kq:∀c r,c<C*S->r<R*S->Hq 3000 (q c r)):
  ∃v,ab P L 688 [.agg [aa C,aa R,aa S],.fn (.f g) [] cap] (.av [v,aa (nW (gS q C R S))])/\iV (bI v) (zL (gS q C R S)):=by
 have e2:=aiI h.aiH C R S;have azy:C*R<=64:=xf hC hR;have hlen:=aeF (q:=q) (C:=C) (R:=R) (S:=S);have ai:=fun k (hk:k<(gS q C R S).length)=>atI (q:=q) (C:=C) (R:=R) (S:=S) hk
 have hk:∀t,t∈gS q C R S->Hq 300000 t.1/\Hq 300000 t.2.1/\Hq 300000 t.2.2:=fun t ht=>by
  obtain⟨k,hk,rfl⟩:=wE.1 ht;rw[ai k hk];obtain⟨l1,l2⟩:=Ew (hlen▸hk);exact WR kq l1 l2 hS (yp _)
 generalize nh:gS q C R S=ts at*
 have h1:=aft (P:=P) (L:=L) h.FL (f:=.t 16) (ps:=[17,18]) (as_:=jl) (body:=jm) (s:=⟨gE C R S g cap,[(4,.cells ydb ydb ydb 1 [.ah]),(3,.cells ydb ydb ydb 1 [aa 0]),(2,.cells ydb ydb ydb 1 [.ah]),(1,.cells ydb ydb ydb 1 [.fn (.f g) [] cap]),(0,.cells ydb ydb ydb 3 [aa C,aa R,aa S])],5,0⟩) (S:=S) hC hR rfl
  (Inv:=fun k H c=>∃Ms,H=eC jl jm C R S g cap k Ms.flatten 0/\c=D7 k/\MoS Ms (ts.take k)/\∀t,t∈ts.take k->0<t.1) (Bad:=fun hp ct=>ag8 hp ct/\(ts.any fun t=>decide (t.1<=0))=ydb)
  ⟨by rintro j H c ⟨Ms,rfl,rfl,_⟩;exact ag9 hc _ _ _ _,by rintro j H c ⟨Ms,rfl,rfl,_⟩ tm ct;exact azw hc _ _ _ _ _ _,by rintro j H c ⟨Ms,rfl,rfl,_⟩;exact azx _ _ _ _⟩
  ⟨_,_,ag9 hc jl jm 0 [],[],rfl,rfl,trivial,fun t ht=>by simp at ht⟩ (by
   rintro k H c qj ⟨Ms,rfl,rfl,A6,jM⟩;obtain⟨l1,l2⟩:=Ew qj;have fZ:k<ts.length:=by rw[hlen];exact qj
   obtain⟨M,e1,hM⟩:=aCr h.toMom hc hC hR hS l1 l2 hq kq;have Td:Ms.length=k:=by rw[A6.len,yQ,xB (by omega)]
   have hMf:Ms.flatten.length=k*12:=by
    rw[OF (k:=12) (fun p hp=>by
     obtain⟨i,hi,rfl⟩:=wE.1 hp
     exact (A6.get hi (by rw[<-A6.len];exact hi)).cells.1),Td]
   have hg:=ai k fZ;by_cases hf:0<bH (iM q (k%C) (k/C) S) (S*S)
   .left
    obtain⟨hp,aI,e3,e4⟩:=aCu h (k:=k) hc hMf (by omega) hM hf e1;refine⟨hp,aI,_,_,e3,e4,Ms++[M],by simp,rfl,?_,?_⟩
    .rw [xi fZ];exact jr.snoc A6 (by rw[hg];exact hM)
    .rw [xi fZ];intro t ht;rcases xF.1 ht with ht | ht
     .exact jM t ht
     .rw [xu.1 ht,hg];exact hf
   .right
    obtain⟨hp,aI,tm,p,A,B,e3,e4,e5⟩:=azv h (k:=k) (n:=k) (T:=Ms.flatten) hc hM hf e1;refine⟨hp,aI,tm,p,A,B,e3,e4,e5,?_⟩;rw[yag]
    exact⟨_,xI fZ,by rw[hg];exact xk (yaw.1 hf)⟩)
 unfold ab at e2;unfold ab;rw[aD h.aCt];unfold gE at h1;simp only[go_sem,ya,yb,Xm,aQ,hc.pu,fB,lh,e2];rcases h1 with ⟨H,c,⟨Ms,rfl,rfl,A6,jM⟩,hD⟩ | ⟨hp,aI,⟨⟨b1,b2⟩,Yp⟩,hD⟩
 .rw [yE (by omega)] at A6 jM;have hz:(ts.any fun t=>decide (t.1<=0))=ydc:=by
   rw[List.any_eq_false];intro t ht;simpa using Rat.not_le.2 (jM t ht)
  obtain⟨m,hm⟩:∃m,C*R=m+1:=⟨C*R-1,by omega⟩;rw[hm] at hD hlen;have key:=axy h (n:=m+1) hlen (by omega) A6 jM hk;unfold eC D7 at hD;simp only[go_sem,ya,hD];generalize bP:D P L (.loop [4,5,10,31,32,33] Bu) _=Q;obtain⟨ex,st,rfl,hh⟩:=bL bP (key (m+1)) ⟨0,by omega,rfl,by
   have h0:mh (ts.take 0)=[]:=rfl
   simp only[go_sem,ya,yb,ax,rQ]<;>rfl⟩
  rcases hh with ⟨rfl,hB,tm,hp,ct,rfl,g1,g2,g3,g4⟩ | ⟨rfl,hB,tm,ct,rfl,lX⟩
  .have hE:nW ts=4:=by unfold nW;rw[hz,hB];rfl
   refine⟨.ah,?_,by unfold zL;rw[hE];exact zW⟩
   rw[hE];simp only[go_sem,cR,cS,g1,g2,g3,g4,yf]
  .have hE:nW ts=0:=by unfold nW;rw[hz,hB];rfl
   have M7:=aeE ts;rw[hlen] at M7
   refine⟨.cF ydc 2 (m+1) (mh ts),?_,by
    unfold zL;rw[hE,yC rfl];unfold mh;have e:=aeD (k:=2) (ps:=ts.map fun t=>zJ (D8 t)) ydc (fun p hp=>by obtain⟨t,_,rfl⟩:=wJ.1 hp;rfl)
    rw[yS,hlen] at e;unfold iV;rw[tz]
    exact e⟩
   rw[hE];have gP:∀ct,bn [4,5,10] ⟨tm,(rQ (m+1) (m+1) Ms.flatten (mh ts)).hp,ct,0⟩=⟨[(4,.ptr 0 0),(5,.ptr 1 0),(10,.aq 2 0 (m+1))],[(2,.cells ydb ydb ydc 2 (mh ts)),(1,.cells ydb ydb ydb 1 [aa 0]),(0,.cells ydb ydb ydb 1 [.ah])],3,0⟩:=fun ct=>by
    rw[NX (c':=ct) lX];simp only[go_sem,ya,yb,ax,rQ]<;>rfl
   simp only[go_sem,ya,gP,oK,cR,cS,yf];exact axz rfl M7
 .have hE:nW ts=6:=by unfold nW;rw[Yp];rfl
  refine⟨.ah,?_,by unfold zL;rw[hE];exact zW⟩
  rw[hE];simp only[go_sem,ya,hD,cR,cS,b1,b2,yf]
end
section
variable {v:AV}{C R S:Int}{F:List (List Nat)}{s:List Nat}{c r:Nat}
def mG(a:Rat):Rat:=if a<0 then 0 else a
def aha{a:Rat}{K:Nat}(h:Hq K a):Hq (K+2) (mG a):=by
 unfold mG;split
 .exact R4.mono (by omega)
 .exact h.mono (by omega)
noncomputable def jd(s:List Nat):Int:=if iL s=0 then (if gZ s<0 then 3 else 0) else iL s
def aeG(h:jd s=0):iL s=0/\0<=gZ s:=by
 unfold jd at h;by_cases c:iL s=0
 .rw [yC c] at h;by_cases d:gZ s<0
  .rw [yC d] at h;exact absurd h (by decide)
  .exact ⟨c,yaw.1 d⟩
 .rw [yr c] at h;exact absurd h c
structure Se(C R S:Int)(c r s:Nat):Prop where
 hC:C=c
 hR:R=r
 hS:S=s
 c1:1<=c
 c8:c<=8
 r1:1<=r
 r8:r<=8
 s2:2<=s
 s8:s<=8
def aCv(h:rO C R S=0):Se C R S C.toNat R.toNat S.toNat:=by
 obtain⟨⟨a1,a2⟩,⟨b1,b2⟩,d1,d2⟩:=Vt h;exact⟨by omega,by omega,by omega,by omega,by omega,by omega,by omega,by omega,by omega⟩
def PZ(h:fe C R S F=0)(hb:∀r,r∈F->∀b,b∈r->b<4294967296):Se C R S C.toNat R.toNat S.toNat/\gh F (R.toNat*S.toNat) (C.toNat*S.toNat):=by
 unfold fe at h;by_cases c:rO C R S=0
 .rw [yC c] at h;exact⟨aCv c,atH h hb⟩
 .rw [yr c] at h;exact absurd h c
def Se.cr{s:Nat}(h:Se C R S c r s):0<c*r:=wU (by have:=h.c1;omega) (by have:=h.r1;omega)
noncomputable def jz(F:List (List Nat))(o:Option Rat)(c r:Nat):Rat:=match o with
 | none=>fP F c r
 | some l=>mG (fP F c r-l)
noncomputable def A7(C R S:Int)(F:List (List Nat))(o:Option Rat):List MT:=gS (jz F o) C.toNat R.toNat S.toNat
noncomputable def JD(C R S:Int)(F:List (List Nat)):Int:=if fe C R S F=0 then nW (A7 C R S F none) else fe C R S F
noncomputable def JE(C R S:Int)(F:List (List Nat)):List nl:=if fe C R S F=0 then zL (A7 C R S F none) else []
noncomputable def D9(C R S:Int)(F:List (List Nat))(s:List Nat):Int:=if b9 [fe C R S F,jd s]=0 then nW (A7 C R S F (Gp (gZ s))) else b9 [fe C R S F,jd s]
noncomputable def Ea(C R S:Int)(F:List (List Nat))(s:List Nat):List nl:=if b9 [fe C R S F,jd s]=0 then zL (A7 C R S F (Gp (gZ s))) else []
def gh.Ha{n m:Nat}(h:gh F n m)(hr:r<n)(hc:c<m){o:Option Rat}(ho:∀l,o=Gp l->Hq 2400 l):Hq 3000 (jz F o c r):=by
 cases o with
 | none=>exact (h.H hr hc).mono (by omega)
 | some l=>exact (aha ((h.H hr hc).sub (ho l rfl))).mono (by omega)
structure Ctd(P:aE)(L:Lib):Prop extends Cen P L,Frc P L,Exc P L,Ck P L where
 aiL:Has P L 654 Rk
 aiM:Has P L 655 Ro
 Yo:Has P L 687 RA
 Sf:Has P L 689 Mj
 Yr:Has P L 690 RB
 H6:Has P L 691 HJ
def aCw(h:Fr' P L)(H6:Has P L 691 HJ){a:Rat}(hv:bS v a):∃r,ab P L 691 [v] r/\bS r (mG a):=by
 have e1:=RX h hv;obtain⟨z,e2,hz⟩:=Gc h (z:=0) (by omega) (by omega);have eK:=hv;obtain⟨v1,v2,v3,v4,rfl,gv⟩:=hv.gen;have dj:=hz;obtain⟨z1,z2,z3,z4,rfl,gz⟩:=hz.gen;unfold ab at e1 e2;unfold mG;by_cases c:a<0
 .have hd:decide (bW a.num<0)=ydb:=xk ((JV a).2 c);rw[yC c];refine⟨_,?_,dj⟩;unfold ab;rw[aD H6];simp only[go_sem,ya,yb,HJ,gv.bx,aQ,yf,jZ,gv.aj,e1,hd,e2,gz.st,bw,cR,cS,gz.dR]
 .have hd:decide (bW a.num<0)=ydc:=yW (fun e=>c ((JV a).1 e));rw[yr c];refine⟨_,?_,eK⟩;unfold ab;rw[aD H6];simp only[go_sem,ya,yb,HJ,gv.bx,aQ,yf,jZ,gv.aj,e1,hd,gv.st,cR,cS,gv.dR]
def aCx(h:Ck P L)(rM:Has P L 692 Fo)(Sf:Has P L 689 Mj)(hl:s.length<=1000000):ab P L 689 [.str s] (aa (jd s)):=by
 have e1:=m86 h (s:=s) (by omega);unfold ab at e1;unfold jd;by_cases c:iL s=0
 .rw [yC c];obtain⟨v,e2,hv⟩:=aiA h c;have e3:=RX h.toFr' hv;obtain⟨v1,v2,v3,v4,rfl,gv⟩:=hv.gen;have hd:decide (bW (gZ s).num<0)=decide (gZ s<0):=tQ.2 (JV _);have e4:=HZ rM (decide (gZ s<0)) 3;simp only[vS] at e4;rw[c] at e1;unfold ab at e2 e3 e4;unfold ab;rw[aD Sf];simp only[go_sem,ya,Mj,e1,e2,gv.aj,bw,e3,hd,e4]
 .rw [yr c];unfold ab;rw[aD Sf];simp only[go_sem,ya,Mj,e1,c]
def aCy(h:Exc P L)(H6:Has P L 691 HJ)(Yr:Has P L 690 RB){n m:Nat}{b1 b2 b3 b4:AV}{l:Rat}(hl:bS (.agg [b1,b2,b3,b4]) l)(kl:Hq 2400 l)(hv:cC dD v F)(hF:gh F n m)(hc:c<m)(hr:r<n):∃x,ab P L 690 [.agg [aa c,aa r],.bC [v],.bC [b1,b2,b3,b4]] x/\bS x (mG (fP F c r-l)):=by
 obtain⟨bg,iv,e,f1,f2⟩:=hF.at hr hc;have kf:=hF.H hr hc;obtain⟨w,rest,hw,e0⟩:=hv.bk bg;have hw:cp w (dQ F[r]):=hw;have e1:=hw.bk (i:=c) (by simpa using iv);rw[GJ iv] at e1;obtain⟨x,e2,hx⟩:=WL h f2 f1;rw[<-e] at hx;obtain⟨y,e3,hy⟩:=m50 h.toTx.toFr' hx hl (K:=2400) (kf.mono (by omega)) kl (by decide);obtain⟨z,e4,hz⟩:=aCw h.toTx.toFr' H6 hy;obtain⟨x1,x2,x3,x4,rfl,gx⟩:=hx.gen;obtain⟨y1,y2,y3,y4,rfl,gy⟩:=hy.gen;have dj:=hz;obtain⟨z1,z2,z3,z4,rfl,gz⟩:=hz.gen;have gl:=hl.f4;unfold ab at e2 e3 e4;refine⟨_,?_,dj⟩;unfold ab;rw[aD Yr];simp only[go_sem,ya,yb,RB,aQ,aY,yd,yf,yH,e0,e1,ml,e2,MG,jZ,gx.aj,gl.aj,e3,gy.aj,e4,gz.st,bw,cR,cS,gz.dR]
def afx{k:Nat}{ps:List (List AV)}{hp:Hp}{e:Int}(h:lD k v ps):result hp (.av [v,aa e])=Gp (.av [v,aa e]):=by
 rcases h.1 with ⟨rfl,rfl⟩ | ⟨b,rfl⟩<;>rfl
def aiN(h:Ctd P L)(hv:cC dD v F)(hl:F.length<=1000000)(hr:∀r,r∈F->r.length<=1000000)(hb:∀r,r∈F->∀b,b∈r->b<4294967296):
  ∃w,ab P L 654 [.agg [aa C,aa R,aa S],v] (.av [w,aa (JD C R S F)])/\iV w (JE C R S F):=by
 have e1:=Yn h.toFrc hv hl hr (C:=C) (R:=R) (S:=S);have fz:=lh;unfold JD JE;by_cases c:fe C R S F=0
 .rw [yC c,yC c];obtain⟨g,hF⟩:=PZ c hb;unfold A7;generalize C.toNat=cn at*
  generalize R.toNat=rn at*
  generalize S.toNat=sn at*
  obtain⟨rfl,rfl,rfl,c1,c8,r1,r8,s2,s8⟩:=g;have Fu:sW [.bC [v]]:=⟨rfl,fun n hp=>rfl⟩;obtain⟨w,e2,hw⟩:=aiK h.toCen (g:=687) (cap:=[.bC [v]]) (q:=jz F none) Fu c8 r8 s8 (wU (by omega) (by omega)) (fun c r hc hr=>aCl h.toExc h.Yo hv hF hc hr) (fun c r hc hr=>hF.Ha hr hc (fun l e=>by cases e));rw[c] at e1;unfold ab at e1 e2;refine⟨_,?_,hw⟩;unfold ab;rw[aD h.aiL];simp only[go_sem,ya,yb,Rk,aQ,yf,fB,fz,hv.pu,hv.aj,hv.one,hv.cells,e1,e2];exact afx hw
 .rw [yr c,yr c];refine⟨.ah,?_,zW⟩;unfold ab at e1;unfold ab;rw[aD h.aiL];simp only[go_sem,ya,yb,Rk,aQ,yf,fB,fz,hv.pu,hv.aj,hv.one,hv.cells,e1,c]
def aiO(h:Ctd P L)(hv:cC dD v F)(hl:F.length<=1000000)(hr:∀r,r∈F->r.length<=1000000)(hb:∀r,r∈F->∀b,b∈r->b<4294967296)(hs:s.length<=1000000):
  ∃w,ab P L 655 [.agg [aa C,aa R,aa S],v,.str s] (.av [w,aa (D9 C R S F s)])/\iV w (Ea C R S F s):=by
 have e1:=Yn h.toFrc hv hl hr (C:=C) (R:=R) (S:=S);have e2:=aCx h.toCk h.rM h.Sf (s:=s) (by omega);have e3:=Yf h.Yl (jY ydb [fe C R S F,jd s]) (by simp);simp only[yF,yN,yd,yb,xb,vd] at e3;have fz:=lh;unfold D9 Ea;by_cases c:b9 [fe C R S F,jd s]=0
 .rw [yC c,yC c];rw[c] at e3;obtain⟨c,c2⟩:=aey.1 c;obtain⟨g,hF⟩:=PZ c hb;obtain⟨ck,_⟩:=aeG c2;have kl:=Pw ck (yp 2400);obtain⟨l,e4,hl⟩:=aiA h.toCk ck;unfold A7;generalize C.toNat=cn at*
  generalize R.toNat=rn at*
  generalize S.toNat=sn at*
  obtain⟨rfl,rfl,rfl,c1,c8,r1,r8,s2,s8⟩:=g;have zx:=hl;obtain⟨b1,b2,b3,b4,rfl,gb⟩:=hl.gen;have Fu:sW [.bC [v],.bC [b1,b2,b3,b4]]:=⟨rfl,fun n hp=>rfl⟩;obtain⟨w,e5,hw⟩:=aiK h.toCen (g:=690) (cap:=[.bC [v],.bC [b1,b2,b3,b4]]) (q:=jz F (Gp (gZ s))) Fu c8 r8 s8 (wU (by omega) (by omega)) (fun c r hc hr=>aCy h.toExc h.H6 h.Yr zx (kl.mono (by omega)) hv hF hc hr) (fun c r hc hr=>hF.Ha hr hc (fun l e=>by cases e;exact kl.mono (by omega)))
  unfold ab at e1 e2 e3 e4 e5;refine⟨_,?_,hw⟩;unfold ab;rw[aD h.aiM];simp only[go_sem,ya,yb,yx,yi,ym,Ro,aQ,yf,fB,fz,hv.pu,hv.aj,hv.one,hv.cells,e1,e2,e3,e4,gb.st,bw,e5];exact afx hw
 .rw [yr c,yr c];refine⟨.ah,?_,zW⟩;unfold ab at e1 e2 e3;unfold ab;rw[aD h.aiM];simp only[go_sem,ya,yb,yx,yi,ym,Ro,aQ,yf,fB,fz,hv.pu,hv.aj,hv.one,hv.cells,e1,e2,e3,c]
end
section
variable {v:AV}{C R S a b k:Nat}{A B:VC}
def bi(C R S:Nat)(v:AV):Env:=[(20,.fn (.f 718) [] [c7 C R S]),(19,.agg [aa C,aa R,aa S]),(7,.ptr 2 0),(17,.bool ydc),(16,.int .i64 0),(6,.int .i64 0),(15,.int .i64 0),(14,v),(13,.agg [aa C,aa R,aa S]),(5,.int .i64 0),(4,.ah),(3,.ptr 1 0),(2,.ptr 0 0),(0,.agg [aa C,aa R,aa S]),(1,v)]
def dJ(A B:VC)(C R S:Nat)(v:AV):Nat->List AV->Nat->Hp
 | 0,_,st=>[(3,.lp (bi C R S v) [21,22] A B st .none),(2,.cells ydb ydb ydb 1 [.ah]),(1,.cells ydb ydb ydb 1 [v]),(0,.cells ydb ydb ydb 3 [aa C,aa R,aa S])]
 | n+1,Q,st=>[(4,.cells ydb ydb ydc 4 Q),(3,.lp (bi C R S v) [21,22] A B st .none),(2,.cells ydb ydc ydb 1 [.aq 4 0 (n+1)]),(1,.cells ydb ydb ydb 1 [v]),(0,.cells ydb ydb ydb 3 [aa C,aa R,aa S])]
def nX:Nat->Nat
 | 0=>4
 | _+1=>5
def eD(c C R S a b k:Nat)(v:AV):Env:=(25,.fn (.f 719) [] [c7 C R S,ji a b])::(24,.agg [aa a,aa b])::(23,.agg [aa C,aa R,aa S])::(10,.ptr (c+1) 0)::(9,.ptr c 0)::(22,.agg [aa a,aa b])::(21,aa k)::bi C R S v
def dK(A B Ai Bi:VC)(C R S a b k:Nat)(v:AV):Nat->Nat->List AV->List AV->Nat->Hp
 | 0,0,Q,_,st=>[(6,.lp (eD 4 C R S a b k v) [26,27] Ai Bi st .none),(5,.cells ydb ydb ydb 1 [.ah]),(4,.cells ydb ydb ydb 2 [aa a,aa b])]++dJ A B C R S v 0 Q 1
 | 0,m+1,Q,T,st=>[(7,.cells ydb ydb ydc 4 T),(6,.lp (eD 4 C R S a b k v) [26,27] Ai Bi st .none),(5,.cells ydb ydc ydb 1 [.aq 7 0 (m+1)]),(4,.cells ydb ydb ydb 2 [aa a,aa b])]++dJ A B C R S v 0 Q 1
 | n+1,0,Q,_,st=>[(7,.lp (eD 5 C R S a b k v) [26,27] Ai Bi st .none),(6,.cells ydb ydb ydb 1 [.ah]),(5,.cells ydb ydb ydb 2 [aa a,aa b])]++dJ A B C R S v (n+1) Q 1
 | n+1,m+1,Q,T,st=>[(8,.cells ydb ydb ydc 4 T),(7,.lp (eD 5 C R S a b k v) [26,27] Ai Bi st .none),(6,.cells ydb ydc ydb 1 [.aq 8 0 (m+1)]),(5,.cells ydb ydb ydb 2 [aa a,aa b])]++dJ A B C R S v (n+1) Q 1
def sD:Nat->Nat
 | 0=>7
 | _+1=>8
def qP:Nat->Nat->Nat
 | 0,0=>7
 | 0,_+1=>8
 | _+1,0=>8
 | _+1,_+1=>9
def ahb(pv:aW v=ydb)(n:Nat)(Q:List AV):jc 4 3 (dJ A B C R S v n Q 0)=(dJ A B C R S v n Q 0,nX n):=by
 cases n<;>simp only[go_sem,yb,yx,yi,sR,dJ,nX,bi,c7,aG pv]
def azz(pv:aW v=ydb)(n:Nat)(Q:List AV)(tm:Env)(ct:Nat):bn [] ⟨tm,dJ A B C R S v n Q 0,ct,4⟩=⟨[],dJ A B C R S v n Q 0,nX n,4⟩:=by
 cases n<;>simp only[go_sem,yb,yx,yi,UZ,WS,dJ,nX,bi,c7,aG pv]
def Qy{Ai Bi:VC}(pv:aW v=ydb)(n m:Nat)(Q T:List AV):jc (sD n) (sD n-1) (dK A B Ai Bi C R S a b k v n m Q T 0)=(dK A B Ai Bi C R S a b k v n m Q T 0,qP n m):=by
 cases n<;>cases m<;>simp only[go_sem,yb,yx,yi,sR,dK,dJ,sD,qP,bi,eD,c7,ji,Nat.reduceSub,yj,yy,aG pv]
def ahc{Ai Bi:VC}(pv:aW v=ydb)(n m:Nat)(Q T:List AV)(tm:Env)(ct:Nat):bn [] ⟨tm,dK A B Ai Bi C R S a b k v n m Q T 0,ct,sD n⟩=⟨[],dK A B Ai Bi C R S a b k v n m Q T 0,qP n m,sD n⟩:=by
 cases n<;>cases m<;>simp only[go_sem,yb,yx,yi,UZ,WS,dK,dJ,sD,qP,bi,eD,c7,ji,yj,yy,aG pv]
def aCz(h:Ctd P L){n m i j c r:Nat}{x1 x2 x3 x4:AV}{Q T:List AV}{F:List (List Nat)}{x:Rat}(hv:cC dD v F)(hT:T.length=m*4)(hm:m<=64){w:AV}{rest:List AV}{f:Nat}{Qz:List AV}(e0:gH 1 r v=Gp (.bC (w::rest)))(e1:gH 1 c w=Gp (.bC (.aw .f32 f::Qz)))(e2:ab P L 685 [.aw .f32 f] (.agg [x1,x2,x3,x4]))(hx:bS (.agg [x1,x2,x3,x4]) x):
  ∃hp aI,gF (D P L) (dK A B fQ fR C R S a b k v n m Q T 0) (qP n m) (sD n-1) [.agg [aa i,aa j],.agg [aa c,aa r]]=Gp (.bool ydb,hp,aI)/\jc (sD n) (sD n-1) hp=(dK A B fQ fR C R S a b k v n (m+1) Q (T++[x1,x2,x3,x4]) 0,qP n (m+1)):=by
 have g:=hx.f4;have pq:=g.p;obtain⟨p1,p2,p3,p4⟩:=g.Z8;have pv:=hv.pu;unfold ab at e2;have Tg:dd (aa c)=Gp c:=rfl;have JF:dd (aa r)=Gp r:=rfl;have sX:∀(tm:Env) (y1 y2 y3 y4:AV),kX tm [y1,y2,y3,y4] 0 4 [x1,x2,x3,x4] []=Gp [x1,x2,x3,x4]:=fun tm y1 y2 y3 y4=>by
  rw[CI (by rfl) (by simp) g.o];rfl
 have zM:∀(bZ pu ex:Bool),DP 0 1 4 (Gp (.cells bZ pu ex 4 [x1,x2,x3,x4]))=Gp (1,[x1,x2,x3,x4]):=fun _ _ _=>rfl
 match n,m,hT with
 | 0,0,hT=>
  have hT:T=[]:=wZ.1 (by simpa using hT);subst hT;have ej:∀Ac Bc,D P L fQ ⟨(27,.agg [aa c,aa r])::(26,.agg [aa i,aa j])::eD 4 C R S a b k v,dK A B Ac Bc C R S a b k v 0 0 Q [] 0,7,7⟩=Gp (.normal,⟨(12,.ptr 7 0)::(27,.agg [aa c,aa r])::(26,.agg [aa i,aa j])::eD 4 C R S a b k v,(7,.cells ydb ydb ydb 2 [aa c,aa r])::dK A B Ac Bc C R S a b k v 0 0 Q [] 0,8,7⟩):=by
   intro Ac Bc;unfold dK dJ;simp only[go_sem,ya,yb,fQ,pY,zi,yj,yy]
  have cQ:∀Ac Bc,∃tm hp,D P L fR ⟨(12,.ptr 7 0)::(27,.agg [aa c,aa r])::(26,.agg [aa i,aa j])::eD 4 C R S a b k v,(7,.cells ydb ydb ydb 2 [aa c,aa r])::dK A B Ac Bc C R S a b k v 0 0 Q [] 1,8,8⟩=Gp (.normal,⟨tm,hp,10,8⟩)/\ai hp 6=Gp (.lp (eD 4 C R S a b k v) [26,27] Ac Bc 1 .none)/\jc 7 6 (aU hp 6 (.lp (eD 4 C R S a b k v) [26,27] Ac Bc 0 .none))=(dK A B Ac Bc C R S a b k v 0 (0+1) Q ([]++[x1,x2,x3,x4]) 0,8):=by
   intro Ac Bc;unfold dK dJ;simp only[eD,bi];simp only[go_sem,ya,yb,xp,yx,yi,fR,yj,yy,aY,yd,yf,yH,JF,Tg,e0,e1,ml,e2,bw,sX,iB,pq,Be,A9,zM,iA,oK];refine⟨_,_,rfl,?_,?_⟩
   .simp only [go_sem,ya]
   .simp only [go_sem,ya,yb,yx,yi,sR,c7,ji,aG pv]
  obtain⟨tm,hp,cQ,hg,mg⟩:=cQ fQ fR
  exact⟨_,_,Bl (P:=P) (L:=L) (hp:=dK A B fQ fR C R S a b k v 0 0 Q [] 0) (ct:=7) (l:=6) (xs:=[.agg [aa i,aa j],.agg [aa c,aa r]]) rfl rfl (ej _ _) rfl cQ hg,mg⟩
 | 0,m+1,hT=>
  have BX:=fun (hp:Hp) (ct:Nat) (hg:ai hp 7=Gp (.cells ydb ydb ydc 4 T))=>gG (ct:=ct) (by':=64) (new:=[x1,x2,x3,x4]) (m:=1) (n:=m+1) hg hT (by omega) (by omega) (by decide) g.o
  have ej:∀Ac Bc,D P L fQ ⟨(27,.agg [aa c,aa r])::(26,.agg [aa i,aa j])::eD 4 C R S a b k v,dK A B Ac Bc C R S a b k v 0 (m+1) Q T 0,8,8⟩=Gp (.normal,⟨(12,.ptr 8 0)::(27,.agg [aa c,aa r])::(26,.agg [aa i,aa j])::eD 4 C R S a b k v,(8,.cells ydb ydb ydb 2 [aa c,aa r])::dK A B Ac Bc C R S a b k v 0 (m+1) Q T 0,9,8⟩):=by
   intro Ac Bc;unfold dK dJ;simp only[go_sem,ya,yb,fQ,pY,zi,yj,yy]
  have cQ:∀Ac Bc,∃tm hp,D P L fR ⟨(12,.ptr 8 0)::(27,.agg [aa c,aa r])::(26,.agg [aa i,aa j])::eD 4 C R S a b k v,(8,.cells ydb ydb ydb 2 [aa c,aa r])::dK A B Ac Bc C R S a b k v 0 (m+1) Q T 1,9,9⟩=Gp (.normal,⟨tm,hp,11,9⟩)/\ai hp 6=Gp (.lp (eD 4 C R S a b k v) [26,27] Ac Bc 1 .none)/\jc 7 6 (aU hp 6 (.lp (eD 4 C R S a b k v) [26,27] Ac Bc 0 .none))=(dK A B Ac Bc C R S a b k v 0 (m+1+1) Q (T++[x1,x2,x3,x4]) 0,8):=by
   intro Ac Bc;unfold dK dJ;simp only[eD,bi];simp only[go_sem,ya,yb,xp,fR,yj,yy,aY,yd,yf,yH,JF,Tg,e0,e1,ml,e2,bw,sX,iB,pq,Be,A9,zM,BX,oK,vn];refine⟨_,_,rfl,?_,?_⟩
   .simp only [go_sem,ya]
   .simp only [go_sem,ya,yb,yx,yi,sR,c7,ji,aG pv]
  obtain⟨tm,hp,cQ,hg,mg⟩:=cQ fQ fR
  exact⟨_,_,Bl (P:=P) (L:=L) (hp:=dK A B fQ fR C R S a b k v 0 (m+1) Q T 0) (ct:=8) (l:=6) (xs:=[.agg [aa i,aa j],.agg [aa c,aa r]]) rfl rfl (ej _ _) rfl cQ hg,mg⟩
 | n+1,0,hT=>
  have hT:T=[]:=wZ.1 (by simpa using hT);subst hT;have ej:∀Ac Bc,D P L fQ ⟨(27,.agg [aa c,aa r])::(26,.agg [aa i,aa j])::eD 5 C R S a b k v,dK A B Ac Bc C R S a b k v (n+1) 0 Q [] 0,8,8⟩=Gp (.normal,⟨(12,.ptr 8 0)::(27,.agg [aa c,aa r])::(26,.agg [aa i,aa j])::eD 5 C R S a b k v,(8,.cells ydb ydb ydb 2 [aa c,aa r])::dK A B Ac Bc C R S a b k v (n+1) 0 Q [] 0,9,8⟩):=by
   intro Ac Bc;unfold dK dJ;simp only[go_sem,ya,yb,fQ,pY,zi,yj,yy]
  have cQ:∀Ac Bc,∃tm hp,D P L fR ⟨(12,.ptr 8 0)::(27,.agg [aa c,aa r])::(26,.agg [aa i,aa j])::eD 5 C R S a b k v,(8,.cells ydb ydb ydb 2 [aa c,aa r])::dK A B Ac Bc C R S a b k v (n+1) 0 Q [] 1,9,9⟩=Gp (.normal,⟨tm,hp,11,9⟩)/\ai hp 7=Gp (.lp (eD 5 C R S a b k v) [26,27] Ac Bc 1 .none)/\jc 8 7 (aU hp 7 (.lp (eD 5 C R S a b k v) [26,27] Ac Bc 0 .none))=(dK A B Ac Bc C R S a b k v (n+1) (0+1) Q ([]++[x1,x2,x3,x4]) 0,9):=by
   intro Ac Bc;unfold dK dJ;simp only[eD,bi];simp only[go_sem,ya,yb,xp,yx,yi,fR,yj,yy,aY,yd,yf,yH,JF,Tg,e0,e1,ml,e2,bw,sX,iB,pq,Be,A9,zM,iA,oK];refine⟨_,_,rfl,?_,?_⟩
   .simp only [go_sem,ya]
   .simp only [go_sem,ya,yb,yx,yi,sR,c7,ji,aG pv]
  obtain⟨tm,hp,cQ,hg,mg⟩:=cQ fQ fR
  exact⟨_,_,Bl (P:=P) (L:=L) (hp:=dK A B fQ fR C R S a b k v (n+1) 0 Q [] 0) (ct:=8) (l:=7) (xs:=[.agg [aa i,aa j],.agg [aa c,aa r]]) rfl rfl (ej _ _) rfl cQ hg,mg⟩
 | n+1,m+1,hT=>
  have BX:=fun (hp:Hp) (ct:Nat) (hg:ai hp 8=Gp (.cells ydb ydb ydc 4 T))=>gG (ct:=ct) (by':=64) (new:=[x1,x2,x3,x4]) (m:=1) (n:=m+1) hg hT (by omega) (by omega) (by decide) g.o
  have ej:∀Ac Bc,D P L fQ ⟨(27,.agg [aa c,aa r])::(26,.agg [aa i,aa j])::eD 5 C R S a b k v,dK A B Ac Bc C R S a b k v (n+1) (m+1) Q T 0,9,9⟩=Gp (.normal,⟨(12,.ptr 9 0)::(27,.agg [aa c,aa r])::(26,.agg [aa i,aa j])::eD 5 C R S a b k v,(9,.cells ydb ydb ydb 2 [aa c,aa r])::dK A B Ac Bc C R S a b k v (n+1) (m+1) Q T 0,10,9⟩):=by
   intro Ac Bc;unfold dK dJ;simp only[go_sem,ya,yb,fQ,pY,zi,yj,yy]
  have cQ:∀Ac Bc,∃tm hp,D P L fR ⟨(12,.ptr 9 0)::(27,.agg [aa c,aa r])::(26,.agg [aa i,aa j])::eD 5 C R S a b k v,(9,.cells ydb ydb ydb 2 [aa c,aa r])::dK A B Ac Bc C R S a b k v (n+1) (m+1) Q T 1,10,10⟩=Gp (.normal,⟨tm,hp,12,10⟩)/\ai hp 7=Gp (.lp (eD 5 C R S a b k v) [26,27] Ac Bc 1 .none)/\jc 8 7 (aU hp 7 (.lp (eD 5 C R S a b k v) [26,27] Ac Bc 0 .none))=(dK A B Ac Bc C R S a b k v (n+1) (m+1+1) Q (T++[x1,x2,x3,x4]) 0,9):=by
   intro Ac Bc;unfold dK dJ;simp only[eD,bi];simp only[go_sem,ya,yb,xp,fR,yj,yy,aY,yd,yf,yH,JF,Tg,e0,e1,ml,e2,bw,sX,iB,pq,Be,A9,zM,BX,oK,vn];refine⟨_,_,rfl,?_,?_⟩
   .simp only [go_sem,ya]
   .simp only [go_sem,ya,yb,yx,yi,sR,c7,ji,aG pv]
  obtain⟨tm,hp,cQ,hg,mg⟩:=cQ fQ fR
  exact⟨_,_,Bl (P:=P) (L:=L) (hp:=dK A B fQ fR C R S a b k v (n+1) (m+1) Q T 0) (ct:=9) (l:=7) (xs:=[.agg [aa i,aa j],.agg [aa c,aa r]]) rfl rfl (ej _ _) rfl cQ hg,mg⟩
end
section
variable {v:AV}{F:List (List Nat)}{Q:List AV}{C R S a b k:Nat}
noncomputable def zN(F:List (List Nat))(a b S j:Nat):List Rat:=(xY j).map (iM (fP F) a b S)
def aq0{j:Nat}:zN F a b S (j+1)=zN F a b S j++[iM (fP F) a b S j]:=by simp[zN,vt]
def GP{j:Nat}:(zN F a b S j).length=j:=by simp[zN]
def aeH{f:Nat->Rat}:∀n,fw 0 ((xY n).map f)=bH f n
 | 0=>rfl
 | n+1=>by
  have h:=aeH (f:=f) n;rw[vt,xg,bH,<-h];simp[fw,List.foldl_append]
def azA(h:Ctd P L){A B:VC}{n bs:Nat}(hv:cC dD v F)(hF:gh F (R*S) (C*S))(hC:C<=8)(hR:R<=8)(hS:S<=8)(ha:a<C)(hb:b<R){Z:Option (Ex×St)}(hQ:D P L (.rf (.t 25) [26,27] fQ fR) ⟨eD (nX n) C R S a b k v,(nX n+1,.cells ydb ydb ydb 1 [.ah])::(nX n,.cells ydb ydb ydb 2 [aa a,aa b])::dJ A B C R S v n Q 1,nX n+2,bs⟩=Z):
  ∃T,QL T (zN F a b S (S*S))/\Z=Gp (.normal,⟨eD (nX n) C R S a b k v,cE (dK A B fQ fR C R S a b k v n (S*S) Q T 0) (nX n+2),qP n (S*S),bs⟩):=by
 have hSS:S*S<=64:=xf hS hS;have key:∀j i H c,j<S->i<S->(∃T,H=dK A B fQ fR C R S a b k v n (j*S+i) Q T 0/\c=qP n (j*S+i)/\QL T (zN F a b S (j*S+i)))->
   ∃hp aI H' c',gF (D P L) H c (sD n-1) (NN S a b j i)=Gp (.bool ydb,hp,aI)/\jc (sD n) (sD n-1) hp=(H',c')/\∃T,H'=dK A B fQ fR C R S a b k v n (j*S+i+1) Q T 0/\c'=qP n (j*S+i+1)/\QL T (zN F a b S (j*S+i+1)):=by
  rintro j i H c hj hi ⟨T,rfl,rfl,hT⟩;obtain⟨bg,iv,e,f1,f2⟩:=hF.at (lL hb hj) (lL ha hi);obtain⟨w,rest,hw,e0⟩:=hv.bk bg;have hw:cp w (dQ F[b*S+j]):=hw;have e1:=hw.bk (i:=a*S+i) (by simpa using iv);rw[GJ iv] at e1;obtain⟨x,e2,hx⟩:=WL h.toExc f2 f1;rw[<-e] at hx;have oX:=hx;obtain⟨x1,x2,x3,x4,rfl,_⟩:=hx.gen;have Eb:=hT.len;rw[GP] at Eb;have hjs:=lL (S:=S) hj hi;obtain⟨hp,aI,e3,e4⟩:=aCz h (A:=A) (B:=B) (C:=C) (R:=R) (S:=S) (a:=a) (b:=b) (k:=k) (n:=n) (i:=i) (j:=j) (Q:=Q) hv Eb (by omega) e0 e1 e2 oX;refine⟨hp,aI,_,_,e3,e4,_,rfl,rfl,?_⟩;rw[aq0,afv hi];exact hT.snoc oX
 match n,hQ,key with
 | 0,hQ,key=>
  obtain⟨H,c,⟨T,rfl,rfl,hT⟩,e⟩:=WI (P:=P) (L:=L) h.HX (f:=.t 25) (ps:=[26,27]) (as_:=fQ) (body:=fR) (s:=⟨eD 4 C R S a b k v,(5,.cells ydb ydb ydb 1 [.ah])::(4,.cells ydb ydb ydb 2 [aa a,aa b])::dJ A B C R S v 0 Q 1,6,bs⟩) (C:=C) (R:=R) (a:=a) (b:=b) hS (by omega) (by omega) rfl
   (Inv:=fun j H c=>∃T,H=dK A B fQ fR C R S a b k v 0 j Q T 0/\c=qP 0 j/\QL T (zN F a b S j))
   ⟨by rintro j H c ⟨T,rfl,rfl,_⟩;exact Qy hv.pu 0 j Q T,by rintro j H c ⟨T,rfl,rfl,_⟩ tm ct;exact ahc hv.pu 0 j Q T tm ct,by rintro j H c ⟨T,rfl,rfl,_⟩;cases j<;>exact⟨_,_,_,_,rfl⟩⟩
   ⟨_,_,Qy hv.pu (A:=A) (B:=B) (Ai:=fQ) (Bi:=fR) (C:=C) (R:=R) (S:=S) (a:=a) (b:=b) (k:=k) 0 0 Q [],[],rfl,rfl,trivial⟩ key
  exact⟨T,hT,by rw[<-hQ];exact e⟩
 | n+1,hQ,key=>
  obtain⟨H,c,⟨T,rfl,rfl,hT⟩,e⟩:=WI (P:=P) (L:=L) h.HX (f:=.t 25) (ps:=[26,27]) (as_:=fQ) (body:=fR) (s:=⟨eD 5 C R S a b k v,(6,.cells ydb ydb ydb 1 [.ah])::(5,.cells ydb ydb ydb 2 [aa a,aa b])::dJ A B C R S v (n+1) Q 1,7,bs⟩) (C:=C) (R:=R) (a:=a) (b:=b) hS (by omega) (by omega) rfl
   (Inv:=fun j H c=>∃T,H=dK A B fQ fR C R S a b k v (n+1) j Q T 0/\c=qP (n+1) j/\QL T (zN F a b S j))
   ⟨by rintro j H c ⟨T,rfl,rfl,_⟩;exact Qy hv.pu (n+1) j Q T,by rintro j H c ⟨T,rfl,rfl,_⟩ tm ct;exact ahc hv.pu (n+1) j Q T tm ct,by rintro j H c ⟨T,rfl,rfl,_⟩;cases j<;>exact⟨_,_,_,_,rfl⟩⟩
   ⟨_,_,Qy hv.pu (A:=A) (B:=B) (Ai:=fQ) (Bi:=fR) (C:=C) (R:=R) (S:=S) (a:=a) (b:=b) (k:=k) (n+1) 0 Q [],[],rfl,rfl,trivial⟩ key
  exact⟨T,hT,by rw[<-hQ];exact e⟩
def aCA(h:Ctd P L)(MJ:Has P L 674 Mg)(FM:Has P L 720 HL){n:Nat}(hv:cC dD v F)(hF:gh F (R*S) (C*S))(hC:C<=8)(hR:R<=8)(hS2:2<=S)(hS:S<=8)(ha:a<C)(hb:b<R)(pc:Q.length=n*4)(hn:n<=64):
  ∃x1 x2 x3 x4 hp aI,bS (.agg [x1,x2,x3,x4]) (bH (iM (fP F) a b S) (S*S))/\gF (D P L) (dJ om ot C R S v n Q 0) (nX n) 3 [aa k,.agg [aa a,aa b]]=Gp (.bool ydb,hp,aI)/\jc 4 3 hp=(dJ om ot C R S v (n+1) (Q++[x1,x2,x3,x4]) 0,5):=by
 have hSS:S*S<=64:=xf hS hS;have aGq:2*2<=S*S:=xf hS2 hS2;have pv:=hv.pu;have Ys:ab P L 673 [.agg [aa C,aa R,aa S],.agg [aa a,aa b]] (.fn (.f 719) [] [c7 C R S,ji a b]):=by
  unfold ab;rw[aD h.aiG];simp only[go_sem,ya,yb,Rv,jN,pY]
  first | done | rfl
 have key:=fun (A B:VC) (bs:Nat) (Z:Option (Ex×St))=>azA h (A:=A) (B:=B) (k:=k) (n:=n) (bs:=bs) (Q:=Q) (Z:=Z) hv hF hC hR hS ha hb
 have rJ:∀T,QL T (zN F a b S (S*S))->∃r,ab P L 674 [.ap ydc (S*S) T] r/\bS r (bH (iM (fP F) a b S) (S*S)):=fun T hT=>by
  have hw:=UX ydc hT;rw[GP] at hw;obtain⟨r,e,hr⟩:=aB3 h.toTx.toFr' FM MJ hw (K:=429) (fun x hx=>by
   obtain⟨t,ht,rfl⟩:=wJ.1 hx;have ht:=C9 (wW.1 ht)
   exact hF.H (lL hb ht.2) (lL ha ht.1)) (by rw[GP];omega) (by rw[GP];omega)
  rw[<-aeH];exact⟨r,e,hr⟩
 obtain⟨m,hm⟩:∃m,S*S=m+1:=⟨S*S-1,by omega⟩;rw[hm] at key rJ;unfold ab at Ys
 match n,pc,key with
 | 0,pc,key=>
  have pc:Q=[]:=wZ.1 (by simpa using pc);subst pc;have ej:∀Ac Bc,D P L om ⟨(22,.agg [aa a,aa b])::(21,aa k)::bi C R S v,dJ Ac Bc C R S v 0 [] 0,4,4⟩=Gp (.normal,⟨(9,.ptr 4 0)::(22,.agg [aa a,aa b])::(21,aa k)::bi C R S v,(4,.cells ydb ydb ydb 2 [aa a,aa b])::dJ Ac Bc C R S v 0 [] 0,5,4⟩):=by
   intro Ac Bc;unfold dJ;simp only[go_sem,ya,yb,om,pY,zi]
  have cQ:∀Ac Bc,∃x1 x2 x3 x4 tm hp ct,bS (.agg [x1,x2,x3,x4]) (bH (iM (fP F) a b S) (m+1))/\D P L ot ⟨(9,.ptr 4 0)::(22,.agg [aa a,aa b])::(21,aa k)::bi C R S v,(4,.cells ydb ydb ydb 2 [aa a,aa b])::dJ Ac Bc C R S v 0 [] 1,5,5⟩=Gp (.normal,⟨tm,hp,ct,5⟩)/\ai hp 3=Gp (.lp (bi C R S v) [21,22] Ac Bc 1 .none)/\jc 4 3 (aU hp 3 (.lp (bi C R S v) [21,22] Ac Bc 0 .none))=(dJ Ac Bc C R S v (0+1) ([]++[x1,x2,x3,x4]) 0,5):=by
   intro Ac Bc;have key:=key Ac Bc 5;unfold dJ at key ⊢;simp only[eD,bi,nX] at key;simp only[bi];simp only[go_sem,ya,yb,ot,aQ,yf,fB,bV,Dt,lh,Ys];generalize hZ:D P L (.rf _ _ _ _) _=Z;obtain⟨T,hT,rfl⟩:=key Z hZ;obtain⟨r,e2,hr⟩:=rJ T hT;have bg:=hr;obtain⟨x1,x2,x3,x4,rfl,g⟩:=hr.gen;have pq:=g.p;have Eb:=hT.len;rw[GP] at Eb;have sX:∀(tm:Env) (y1 y2 y3 y4:AV),kX tm [y1,y2,y3,y4] 0 4 [x1,x2,x3,x4] []=Gp [x1,x2,x3,x4]:=fun tm y1 y2 y3 y4=>by
    rw[CI (by rfl) (by simp) g.o];rfl
   have zM:∀(bZ pu ex:Bool),DP 0 1 4 (Gp (.cells bZ pu ex 4 [x1,x2,x3,x4]))=Gp (1,[x1,x2,x3,x4]):=fun _ _ _=>rfl
   unfold ab at e2;refine⟨x1,x2,x3,x4,?_⟩;simp only[dK,dJ,qP,eD,bi,yj,yy];simp only[go_sem,ya,yb,xp,yx,yi,yf,mj ydc Eb (show 0<4 by decide),e2,bw,sX,iB,pq,Be,A9,zM,iA,oK];refine⟨_,_,_,bg,rfl,?_,?_⟩
   .simp only [go_sem,ya]
   .simp only [go_sem,ya,yb,yx,yi,sR,c7,aG pv]
  obtain⟨x1,x2,x3,x4,tm,hp,ct,hx,cQ,hg,mg⟩:=cQ om ot
  exact⟨x1,x2,x3,x4,_,_,by rw[hm];exact hx,Bl (P:=P) (L:=L) (hp:=dJ om ot C R S v 0 [] 0) (ct:=4) (l:=3) (xs:=[aa k,.agg [aa a,aa b]]) rfl rfl (ej _ _) rfl cQ hg,mg⟩
 | n+1,pc,key=>
  have ej:∀Ac Bc,D P L om ⟨(22,.agg [aa a,aa b])::(21,aa k)::bi C R S v,dJ Ac Bc C R S v (n+1) Q 0,5,5⟩=Gp (.normal,⟨(9,.ptr 5 0)::(22,.agg [aa a,aa b])::(21,aa k)::bi C R S v,(5,.cells ydb ydb ydb 2 [aa a,aa b])::dJ Ac Bc C R S v (n+1) Q 0,6,5⟩):=by
   intro Ac Bc;unfold dJ;simp only[go_sem,ya,yb,om,pY,zi]
  have cQ:∀Ac Bc,∃x1 x2 x3 x4 tm hp ct,bS (.agg [x1,x2,x3,x4]) (bH (iM (fP F) a b S) (m+1))/\D P L ot ⟨(9,.ptr 5 0)::(22,.agg [aa a,aa b])::(21,aa k)::bi C R S v,(5,.cells ydb ydb ydb 2 [aa a,aa b])::dJ Ac Bc C R S v (n+1) Q 1,6,6⟩=Gp (.normal,⟨tm,hp,ct,6⟩)/\ai hp 3=Gp (.lp (bi C R S v) [21,22] Ac Bc 1 .none)/\jc 4 3 (aU hp 3 (.lp (bi C R S v) [21,22] Ac Bc 0 .none))=(dJ Ac Bc C R S v (n+1+1) (Q++[x1,x2,x3,x4]) 0,5):=by
   intro Ac Bc;have key:=key Ac Bc 6;unfold dJ at key ⊢;simp only[eD,bi,nX] at key;simp only[bi];simp only[go_sem,ya,yb,ot,aQ,yf,fB,bV,Dt,lh,Ys];generalize hZ:D P L (.rf _ _ _ _) _=Z;obtain⟨T,hT,rfl⟩:=key Z hZ;obtain⟨r,e2,hr⟩:=rJ T hT;have bg:=hr;obtain⟨x1,x2,x3,x4,rfl,g⟩:=hr.gen;have pq:=g.p;have Eb:=hT.len;rw[GP] at Eb;have sX:∀(tm:Env) (y1 y2 y3 y4:AV),kX tm [y1,y2,y3,y4] 0 4 [x1,x2,x3,x4] []=Gp [x1,x2,x3,x4]:=fun tm y1 y2 y3 y4=>by
    rw[CI (by rfl) (by simp) g.o];rfl
   have zM:∀(bZ pu ex:Bool),DP 0 1 4 (Gp (.cells bZ pu ex 4 [x1,x2,x3,x4]))=Gp (1,[x1,x2,x3,x4]):=fun _ _ _=>rfl
   have BX:=fun (hp:Hp) (ct:Nat) (hg:ai hp 4=Gp (.cells ydb ydb ydc 4 Q))=>gG (ct:=ct) (by':=64) (new:=[x1,x2,x3,x4]) (m:=1) (n:=n+1) hg pc (by omega) (by omega) (by decide) g.o
   unfold ab at e2;refine⟨x1,x2,x3,x4,?_⟩;simp only[dK,dJ,qP,eD,bi,yj,yy];simp only[go_sem,ya,yb,xp,yf,mj ydc Eb (show 0<4 by decide),e2,bw,sX,iB,pq,Be,A9,zM,BX,oK,vn];refine⟨_,_,_,bg,rfl,?_,?_⟩
   .simp only [go_sem,ya]
   .simp only [go_sem,ya,yb,yx,yi,sR,c7,aG pv]
  obtain⟨x1,x2,x3,x4,tm,hp,ct,hx,cQ,hg,mg⟩:=cQ om ot
  exact⟨x1,x2,x3,x4,_,_,by rw[hm];exact hx,Bl (P:=P) (L:=L) (hp:=dJ om ot C R S v (n+1) Q 0) (ct:=5) (l:=3) (xs:=[aa k,.agg [aa a,aa b]]) rfl rfl (ej _ _) rfl cQ hg,mg⟩
noncomputable def nY(F:List (List Nat))(C R S:Nat):List Rat:=(xY (C*R)).map fun k=>bH (iM (fP F) (k%C) (k/C) S) (S*S)
def GQ:(nY F C R S).length=C*R:=by simp[nY]
def atJ(hk:k<(nY F C R S).length):(nY F C R S)[k]=bH (iM (fP F) (k%C) (k/C) S) (S*S):=by simp[nY]
noncomputable def Ec(C R S:Int)(F:List (List Nat)):Int:=if fe C R S F=0 then (if (nY F C.toNat R.toNat S.toNat).any LG=ydb then 4 else 0) else fe C R S F
noncomputable def JG(C R S:Int)(F:List (List Nat)):List (List Nat):=if Ec C R S F=0 then (nY F C.toNat R.toNat S.toNat).map RT else []
structure Flx(P:aE)(L:Lib):Prop extends Ctd P L where
 Yt:Has P L 653 Mf
 MJ:Has P L 674 Mg
 FM:Has P L 720 HL
def aiP(h:Flx P L){C R S:Int}(hv:cC dD v F)(hl:F.length<=1000000)(hr:∀r,r∈F->r.length<=1000000)(hb:∀r,r∈F->∀b,b∈r->b<4294967296):
  ∃w,ab P L 653 [.agg [aa C,aa R,aa S],v] (.av [w,aa (Ec C R S F)])/\fO w (JG C R S F):=by
 have e1:=Yn h.toFrc hv hl hr (C:=C) (R:=R) (S:=S);have fz:=lh;unfold Ec JG Ec;by_cases c:fe C R S F=0
 .rw [yC c];obtain⟨g,hF⟩:=PZ c hb;rw[c] at e1;generalize C.toNat=cn at*
  generalize R.toNat=rn at*
  generalize S.toNat=sn at*
  obtain⟨rfl,rfl,rfl,c1,c8,r1,r8,s2,s8⟩:=g;have e2:=aiI h.aiH cn rn sn;have JC:0<cn*rn:=wU (by omega) (by omega);have azy:cn*rn<=64:=xf c8 r8;have hk:∀x,x∈nY F cn rn sn->Hq 300000 x:=fun x hx=>by
   obtain⟨k,hk,rfl⟩:=wJ.1 hx;obtain⟨l1,l2⟩:=Ew (wW.1 hk)
   exact (WR (C:=cn) (R:=rn) (fun c r hc hr=>(hF.H hr hc).mono (by omega)) l1 l2 s8 (yp _)).1
  have h1:=aft (P:=P) (L:=L) h.FL (f:=.t 20) (ps:=[21,22]) (as_:=om) (body:=ot) (s:=⟨bi cn rn sn v,[(2,.cells ydb ydb ydb 1 [.ah]),(1,.cells ydb ydb ydb 1 [v]),(0,.cells ydb ydb ydb 3 [aa cn,aa rn,aa sn])],3,0⟩) (S:=sn) c8 r8 rfl
   (Inv:=fun k H c=>∃Q,H=dJ om ot cn rn sn v k Q 0/\c=nX k/\QL Q ((nY F cn rn sn).take k)) (Bad:=fun _ _=>False)
   ⟨by rintro j H c ⟨Q,rfl,rfl,_⟩;exact ahb hv.pu j Q,by rintro j H c ⟨Q,rfl,rfl,_⟩ tm ct;exact azz hv.pu j Q tm ct,by rintro j H c ⟨Q,rfl,rfl,_⟩;cases j<;>exact⟨_,_,_,_,rfl⟩⟩
   ⟨_,_,ahb hv.pu (A:=om) (B:=ot) (C:=cn) (R:=rn) (S:=sn) 0 [],[],rfl,rfl,trivial⟩ (by
    rintro k H c qj ⟨Q,rfl,rfl,hQ⟩;obtain⟨l1,l2⟩:=Ew qj;have fZ:k<(nY F cn rn sn).length:=by rw[GQ];exact qj
    have pc:=hQ.len;rw[yQ,xB (by omega)] at pc;obtain⟨x1,x2,x3,x4,hp,aI,hx,e3,e4⟩:=aCA h.toCtd h.MJ h.FM (k:=k) hv hF c8 r8 s2 s8 l1 l2 pc (by omega);refine .inl ⟨hp,aI,_,_,e3,e4,_,rfl,rfl,?_⟩;rw[xi fZ,atJ fZ]
    exact hQ.snoc hx)
  rcases h1 with ⟨H,c',⟨Q,rfl,rfl,hQ⟩,hD⟩ | ⟨_,_,hf,_⟩
  case inr=>exact hf.elim
  rw[yE (by rw[GQ];omega)] at hQ;obtain⟨m,hm⟩:∃m,cn*rn=m+1:=⟨cn*rn-1,by omega⟩;have pc:=hQ.len;rw[GQ,hm] at pc;rw[hm] at hD;have hw:=UX ydc hQ;rw[GQ,hm] at hw;have e9:=aiE h.MH h.Sa h.Sb h.HY h.toTx hw (by rw[GQ];omega) hk (by decide);unfold dJ nX at hD;unfold bi at hD;unfold ab at e1 e2
  cases hB:(nY F cn rn sn).any LG with
  | true=>
   have e9:=e9.1 hB;unfold ab at e9;rw[yC rfl,yr (by decide)];refine⟨.ah,?_,po⟩;unfold ab;rw[aD h.Yt];simp only[go_sem,ya,yb,Mf,aQ,yf,fB,fz,hv.pu,hv.aj,hv.one,hv.cells,e1,e2,hD,mj ydc pc (show 0<4 by decide),e9]
  | false=>
   obtain⟨r,bg,e9⟩:=e9.2 hB;unfold ab at e9;rw[yr (by decide),yC rfl];refine⟨r,?_,bg⟩;unfold ab;rw[aD h.Yt];simp only[go_sem,ya,yb,Mf,aQ,yf,fB,fz,hv.pu,hv.aj,hv.one,hv.cells,e1,e2,hD,mj ydc pc (show 0<4 by decide),e9,bg.bI];rcases bg with ⟨bg,_⟩ | ⟨e,bg⟩<;>rw[bg]<;>rfl
 .rw [yr c,yr c];refine⟨.ah,?_,po⟩;unfold ab at e1;unfold ab;rw[aD h.Yt];simp only[go_sem,ya,yb,Mf,aQ,yf,fB,fz,hv.pu,hv.aj,hv.one,hv.cells,e1,c]
end
def a29(h:Has P L 29 SC){v w:AV}{l:List (List Nat)}(hv:fO v l)(hw:fO w l)(hl:l.length<=1000000):ab P L 29 [v,w] (.bool ydb):=by
 have key:=gV P L [0,1,5] Lx
  (fun k st=>∃i:Nat,st=⟨[(0,v),(1,w),(5,aa i)],[],0,0⟩/\i+k=l.length)
  (fun ex st=>∃tm hp ct,st=⟨tm,hp,ct,0⟩/\ex=.exit 0) ?_
 .unfold ab;rw[aD h];simp only[go_sem,ya,SC,hv.len,hw.len,yI,yY];generalize hq:D P L (.loop _ Lx) _=q;obtain⟨ex,st,rfl,tm,hp,ct,rfl,rfl⟩:=bL hq (key l.length) ⟨0,by simp only[go_sem,ya,ax,aG hv.pu,aG hw.pu]<;>rfl,by lia⟩
  simp only[go_sem,ax]
 .rintro k st ⟨i,rfl,hk⟩;by_cases hi:i<l.length
  .left
   simp only[go_sem,ya,Lx,hv.len,show (i:Int)<l.length by lia,hv.bk hi,hw.bk hi,CJ,aoD,yY];refine⟨_,k-1,rfl,by lia,i+1,?_,by lia⟩;rw[wrap64 (by lia) (by lia)];simp only[go_sem,ya,ax,aG hv.pu,aG hw.pu]<;>rfl
  .right
   simp only[go_sem,ya,Lx,hv.len,show ¬(i:Int)<l.length by lia];exact⟨_,_,rfl,by simp,_,_,_,rfl,rfl⟩
def Gx(id:Nat)(o:Obj)(j:Nat):∀hp:Hp,ai (aU hp id o) j=if j=id then (ai hp id).map (fun _=>o) else ai hp j
 | []=>by by_cases h:j=id<;>simp[aU,ai,h]
 | (i,u)::r=>by
  have ih:=Gx id o j r;by_cases h1:i=id
  .subst h1;rw[ac8];by_cases h2:j=i
   .subst h2;rw[yC rfl,iP,iP];rfl
   .rw [yr h2,dW _ _ (fun e=>h2 e.symm),dW _ _ (fun e=>h2 e.symm)]
  .rw [ab9 _ _ _ h1];by_cases h2:j=i
   .subst h2;rw[yr h1,iP,iP]
   .rw [dW _ _ (fun e=>h2 e.symm),ih,dW _ _ h1,dW _ _ (fun e=>h2 e.symm)]
def U1{hp:Hp}{id:Nat}{u:Obj}(h:ai hp id=Gp u)(o:Obj)(j:Nat):ai (aU hp id o) j=if j=id then Gp o else ai hp j:=by
 rw[Gx,h];rfl
def Cr(id j:Nat):∀hp:Hp,ai (cE hp id) j=if j=id then none else ai hp j
 | []=>by split<;>rfl
 | (i,u)::r=>by
  have ih:=Cr id j r;by_cases h1:i=id
  .subst h1;rw[Kc,ih];by_cases h2:j=i
   .grind
   .rw [yr h2,yr h2,dW _ _ (fun e=>h2 e.symm)]
  .rw [Cv _ _ h1];by_cases h2:j=i
   .subst h2;rw[yr h1,iP,iP]
   .rw [dW _ _ (fun e=>h2 e.symm),ih,dW _ _ (fun e=>h2 e.symm)]
def adC(i:Nat):∀l:List Nat,jH i l=ydb↔i∈l
 | []=>by simp[jH]
 | j::r=>by
  by_cases h:j=i
  .subst h;simp[ade]
  .rw [ace _ h,adC i r]
   grind
def O4{i:Nat}{l:List Nat}(h:i∉l):jH i l=ydc:=by
 cases hq:jH i l with
 | false=>rfl
 | true=>exact absurd ((adC i l).1 hq) h
def Kx(hp:Hp):∀(ids seen cA:List Nat) (n:Nat),ids.length<n->(∀i,i∈ids->∃o,ai hp i=Gp o/\iT o=[])->ids.Nodup->(∀i,i∈ids->i∉seen)->mD hp n (ids++cA) seen=mD hp (n-ids.length) cA (seen++ids)
 | [],seen,cA,n,_,_,_,_=>by simp
 | i::ids,seen,cA,0,h,_,_,_=>by simp at h
 | i::ids,seen,cA,n+1,h,h1,h2,h3=>by
  obtain⟨o,g,e⟩:=h1 i wA;have hn:=wm.1 h2
  rw[yj,OW,O4 (h3 i wA),PO,g,PP,e,yy,Kx hp ids (seen++[i]) cA n (by simpa using h) (fun j hj=>h1 j (xM _ hj)) hn.2 (fun j hj hm=>by
   rcases xF.1 hm with hm | hm
   .grind
   .simp only [xu] at hm
    subst hm;exact hn.1 hj)]
  grind
def Vu(hp:Hp){n:Nat}(h:0<n)(seen:List Nat):mD hp n [] seen=seen:=by
 obtain⟨m,rfl⟩:∃m,n=m+1:=⟨n-1,by lia⟩;exact aem hp m seen
def U2(hp:Hp)(f:Nat->Option Nat):∀(seen:List Nat) (k:Nat) (acc:Hp) (j:Nat),j<k->ai (eF hp f seen k acc) j=ai acc j
 | [],k,acc,j,_=>rfl
 | id::r,k,acc,j,h=>by
  rw[eF]
  cases ai hp id with
  | none=>exact U2 hp f r (k+1) acc j (by omega)
  | some o=>
   rw[U2 hp f r (k+1) _ j (by omega),dW _ _ (by omega)]
def TS(hp:Hp)(f:Nat->Option Nat):∀(seen:List Nat) (k:Nat) (acc:Hp) (j:Nat) (h:j<seen.length) (o:Obj),ai hp seen[j]=Gp o->ai (eF hp f seen k acc) (k+j)=Gp (gL f o)
 | id::r,k,acc,0,_,o,ho=>by
  simp only[wI] at ho;rw[eF];simp only[ho];show ai (eF hp f r (k+1) ((k,gL f o)::acc)) k=_
  rw[U2 hp f r (k+1) _ k (by omega),iP]
 | id::r,k,acc,j+1,h,o,ho=>by
  have:=fun BI=>TS hp f r (k+1) BI j (by simpa using h) o ho
  rw[eF,show k+(j+1)=k+1+j by omega]
  cases ai hp id with
  | none=>exact this _
  | some u=>exact this _
def CK:∀(seen:List Nat) (k j:Nat) (h:j<seen.length),seen.Nodup->dz seen[j] seen k=Gp (k+j)
 | s::r,k,0,_,_=>by simp only[wI,yX];exact aen s r k
 | s::r,k,j+1,h,hn=>by
  have hn:=wm.1 hn;have hj:j<r.length:=by simp_all
  simp only[wT];rw[adf _ _ (fun e=>hn.1 (by rw[e];exact xI hj)),CK r (k+1) j hj hn.2]
  grind
def aat{live:List Nat}{tm:Env}{hp:Hp}{ct:Nat}{seen:List Nat}(hr:mD hp 100000 (cJ (bc tm live)) []=seen):
  ∃an,bn live ⟨tm,hp,ct,0⟩=⟨dw (pos seen) (bc tm live),an,seen.length,0⟩/\∀j (h:j<seen.length) o,ai hp seen[j]=Gp o->ai an j=Gp (gL (pos seen) o):=by
 refine⟨eF hp (pos seen) seen 0 [],by rw[ax,hr,Vi],fun j h o ho=>?_⟩
 have:=TS hp (pos seen) seen 0 [] j h o ho
 grind
def cr(r:List Rat):List AV:=r.map fun x=>.str (RT x)
def iW(a:Nat)(ids pl:List Nat):List Nat:=a::(ids++pl)
abbrev wd{β:Type}(M:List (List β)):Nat:=(M.getD 0 []).length
abbrev z4:List AV:=[AV.int .i64 0,.ah,.int .i64 0,.ah]
section
variable {tm tm':Env}{cs:List AV}{W ids live pl:List Nat}{a ct i n:Nat}
def fy(ids W:List Nat):List AV:=vh (fun i w=>AV.aq i 0 w) ids W
def kI(ids W:List Nat)(r:Nat):List AV:=fy ids W++yz r .ah
def aeI(h:ids.length=W.length):(fy ids W).length=W.length:=by simp[fy,h]
def adD{w:Nat}(h:ids.length=W.length):fy (ids++[i]) (W++[w])=fy ids W++[.aq i 0 w]:=by
 unfold fy;rw[List.zipWith_append h];rfl
def atK(h1:i<ids.length)(h2:i<W.length):(fy ids W)[i]'(by simp[fy];lia)=.aq ids[i] 0 W[i]:=by simp[fy]
def abx:∀r:Nat,eZ (yz r AV.ah)=[]
 | 0=>rfl
 | r+1=>by rw[wP,eZ,abx r];rfl
def Us(r:Nat):∀{ids W:List Nat},ids.length=W.length->eZ (kI ids W r)=ids
 | [],[],_=>abx r
 | i::ids,w::W,h=>by
  have ih:=Us r (ids:=ids) (W:=W) (by simpa using h);have e:kI (i::ids) (w::W) r=.aq i 0 w::kI ids W r:=rfl;rw[e,eZ,ih];rfl
 | [],_::_,h=>by simp at h
 | _::_,[],h=>by simp at h
def acx(f:Nat->Option Nat):∀r:Nat,dO f (yz r AV.ah)=yz r .ah
 | 0=>rfl
 | r+1=>by rw[wP,dO,acx f r];rfl
def U3{f:Nat->Option Nat}(r:Nat):∀{ids W:List Nat} (k:Nat),ids.length=W.length->(∀i (h:i<ids.length),f ids[i]=Gp (k+i))->dO f (kI ids W r)=kI (xZ k ids.length) W r
 | [],[],_,_,_=>acx f r
 | i::ids,w::W,k,h,hf=>by
  have h0:=hf 0 (by simp);simp only[wI,yX] at h0;have ih:=U3 (f:=f) r (ids:=ids) (W:=W) (k+1) (by simpa using h) (fun j hj=>by
   have:=hf (j+1) (by simpa using hj)
   simp only[wT] at this
   rw[this];congr 1;lia)
  have e:kI (i::ids) (w::W) r=.aq i 0 w::kI ids W r:=rfl;rw[e,dO,ih,yF,List.range'_succ];simp only[bq,h0];rfl
 | [],_::_,_,h,_=>by simp at h
 | _::_,[],_,h,_=>by simp at h
def OG{sz:Nat}{y:Bool}(hs:0<sz):∀(ids W:List Nat) (T:List (List AV)) (hp:Hp) (n:Nat),ids.length+4<=n->ids.length=T.length->W.length=T.length->(∀i (h1:i<ids.length) (h2:i<T.length) (h3:i<W.length),T[i].length=W[i]*sz/\∃rw,ai hp ids[i]=Gp (.cells rw ydb y sz T[i]))->
  ∃an,cB n hp (fy ids W)=Gp (vh (fun w r=>.ap y w r) W T,an)/\∀j,j∉ids->ai an j=ai hp j
 | [],[],[],hp,n+1,_,_,_,_=>⟨hp,rfl,fun _ _=>rfl⟩
 | [],_,[],hp,0,h,_,_,_=>by simp at h
 | [],_,_::_,_,_,_,h,_,_=>by simp at h
 | [],_::_,[],_,_,_,_,h,_=>by simp at h
 | _::_,_,[],_,_,_,h,_,_=>by simp at h
 | _::_,[],_::_,_,_,_,_,h,_=>by simp at h
 | i::ids,w::W,r::T,hp,n+1,hn,hl,hW,h=>by
  obtain⟨l0,bZ,g0⟩:=h 0 (by simp) (by simp) (by simp);simp only[wI] at l0 g0;simp only[yF] at hn hl hW;obtain⟨m,rfl⟩:∃m,n=m+1+1:=⟨n-2,by omega⟩;have hz:sJ (m+1) hp i=Gp (y,sz,r,if bZ=ydb then aU hp i (.cells ydc ydb y sz r) else hp):=by
   rw[Kt,g0];cases bZ<;>rfl
  have azB:∃aX,(if bZ=ydb then aU hp i (.cells ydc ydb y sz r) else hp)=aX/\∀j,ai aX j=if j=i then Gp (.cells (if bZ=ydb then ydc else bZ) ydb y sz r) else ai hp j:=by
   refine⟨_,rfl,fun j=>?_⟩
   cases bZ with
   | true=>simp only[xP];rw[U1 g0]
   | false=>
    simp only[yD,xz]
    split
    .rename_i e;rw[e,g0]
    .rfl
  obtain⟨aX,e1,g1⟩:=azB;rw[e1] at hz;obtain⟨an,e2,g2⟩:=OG hs ids W T aX (m+1+1) (by omega) (by omega) (by omega) (fun k h1 h2 h3=>by
   obtain⟨a,rw2,b⟩:=h (k+1) (by simpa using h1) (by simpa using h2) (by simpa using h3);simp only[wT] at a b;refine⟨a,?_⟩;rw[g1]
   split
   .rename_i e;rw[e,g0] at b;simp only[yc,Obj.cells.injEq] at b;exact⟨_,by rw[b.2.2.2.2]⟩
   .exact ⟨rw2,b⟩)
  refine⟨an,?_,fun j hj=>?_⟩
  .have e:fy (i::ids) (w::W)=.aq i 0 w::fy ids W:=rfl;rw[e,aca,Ks,hz,mj y l0 hs,ae0,e2,ae1];rfl
  .simp only [xy,not_or] at hj;rw[g2 j hj.2,g1,yr hj.1]
def gT(T:List (List AV))(i:Nat):List AV:=T.getD i []
def Am{T:List (List AV)}(h:i<T.length):gT T i=T[i]:=by
 simp[gT,xc,xv h]
def axA(T:List (List AV))(i j:Nat)(c:List AV):gT (T.set i c) j=if i=j/\j<T.length then c else gT T j:=by
 simp only[gT,xc,List.getElem?_set]
 grind
def kB(n:Nat):List Nat:=(xY n).map (·+1)
def Bm(n:Nat):(kB n).length=n:=by simp[kB]
def TU(n:Nat):kB n=xZ 1 n:=by
 unfold kB;rw[yaE]
 grind
def U4(h:i<(kB n).length):(kB n)[i]=i+1:=by simp[kB]
def U5:i∈kB n↔0<i/\i<=n:=by
 rw[TU,ue];lia
structure sE(hp:Hp)(x y:Bool)(sz:Nat)(W:List Nat)(T:List (List AV))(r:Nat):Prop where
 l:W.length=T.length
 m:ai hp 0=Gp (.cells ydb ydc x 1 (kI (kB T.length) W r))
 r:∀i,i<T.length->ai hp (i+1)=Gp (.cells ydb ydb y sz (gT T i))
section
variable {hp:Hp}{x y:Bool}{sz:Nat}{W:List Nat}{T:List (List AV)}{r:Nat}
def sE.aj(h:sE hp x y sz W T 0)(hs:0<sz)(hw:∀i (h1:i<T.length) (h2:i<W.length),T[i].length=W[i]*sz)(hn:T.length+4<=n):
  ∃an,cB n hp (kI (kB T.length) W 0)=Gp (vh (fun w r=>.ap y w r) W T,an)/\∀j,(∀i,i<T.length->j≠i+1)->ai an j=ai hp j:=by
 have e0:kI (kB T.length) W 0=fy (kB T.length) W:=by unfold kI;simp
 rw[e0];obtain⟨aX,e1,g1⟩:=OG hs (kB T.length) W T hp n (by rw[Bm];exact hn) (Bm _) h.l (fun i h1 h2 h3=>by
  refine⟨hw i h2 h3,ydb,?_⟩;rw[U4]
  have:=h.r i h2
  rwa[Am h2] at this)
 refine⟨aX,e1,fun j hj=>g1 j fun hm=>?_⟩
 have:=U5.1 hm
 exact hj (j-1) (by omega) (by omega)
def V3{hp an:Hp}{id s:Nat}{bZ ex:Bool}{dE:List AV}(h:cB n hp cs=Gp (dE,an)):Di n id hp (Gp (.cells bZ ydc ex s cs))=Gp (ex,s,dE,aU an id (.cells ydc ydc ex s cs)):=by
 simp[Di,h]
def sE.Di(h:sE hp x y sz W T 0)(hs:0<sz)(hw:∀i (h1:i<T.length) (h2:i<W.length),T[i].length=W[i]*sz)(hn:T.length+4<=n):
  ∃an,VE.Di n 0 hp (Gp (.cells ydb ydc x 1 (kI (kB T.length) W 0)))=Gp (x,1,vh (fun w r=>.ap y w r) W T,an):=by
 obtain⟨aX,e,_⟩:=h.aj hs hw hn;exact⟨_,V3 e⟩
def azC{bZ ex:Bool}{cells:List AV}(hm:ai hp a=Gp (.cells bZ ydc ex 1 cells))(hc:eZ cells=ids)(hr:∀i,i∈ids->∃o,ai hp i=Gp o/\iT o=[])(aX:∀i,i∈pl->∃o,ai hp i=Gp o/\iT o=[])(hn:(iW a ids pl).Nodup)(hl:ids.length+pl.length<90000):mD hp 100000 (a::pl) []=iW a ids pl:=by
 have jS:=wm.1 hn;have eI:∀i,i∈ids++pl->i∉[a]:=fun i hi hm=>by
  simp only[xu] at hm;subst hm;exact jS.1 hi
 rw[show (100000:Nat)=99999+1 from rfl,OW,adb,PO,hm,PP,Pm,hc,yy]
 have:ids++pl=(ids++pl)++[]:=by simp
 rw[this,Kx hp (ids++pl) [a] [] 99999 (by rw[yJ];lia) (fun i hi=>by
  rcases xF.1 hi with h | h
  .exact hr i h
  .exact aX i h) jS.2 eI,Vu hp (by rw[yJ];lia)]
 rfl
def afy(hE:cJ (bc tm live)=a::pl)(hm:ai hp a=Gp (.cells ydb ydc x 1 (kI ids W r)))(hl:ids.length=T.length)(hW:W.length=T.length)(hr:∀i (h:i<ids.length),ai hp ids[i]=Gp (.cells ydb ydb y sz (gT T i)))(hM:T.length<=10000)(hn:(iW a ids pl).Nodup)(aX:∀i,i∈pl->∃o,ai hp i=Gp o/\iT o=[])(nR:pl.length<=1000)(hT:∀S,dz a S 0=Gp 0->(∀j (h:j<pl.length),dz pl[j] S 0=Gp (T.length+1+j))->dw (pos S) (bc tm live)=tm'):
  ∃an,bn live ⟨tm,hp,ct,0⟩=⟨tm',an,1+(T.length+pl.length),0⟩/\sE an x y sz W T r/\∀j (h:j<pl.length) rw ex z cs,ai hp pl[j]=Gp (.cells rw ydb ex z cs)->ai an (T.length+1+j)=Gp (.cells rw ydb ex z cs):=by
 have H7:∀i,i∈ids->∃o,ai hp i=Gp o/\iT o=[]:=fun i hi=>by
  obtain⟨k,hk,rfl⟩:=wE.1 hi;exact⟨_,hr k hk,rfl⟩
 have hR:=azC (pl:=pl) hm (Us r (by lia)) H7 aX hn (by lia);rw[<-hE] at hR;have⟨an,e,g⟩:=aat (ct:=ct) hR;have ls:(iW a ids pl).length=1+(ids.length+pl.length):=by simp[iW];lia
 have s0:∀h:0<(iW a ids pl).length,(iW a ids pl)[0]=a:=fun _=>rfl
 have sI:∀i (h:i<ids.length) (h2:i+1<(iW a ids pl).length),(iW a ids pl)[i+1]=ids[i]:=fun i h h2=>by
  simp[iW,wD h]
 have sP:∀j (h:j<pl.length) (h2:T.length+1+j<(iW a ids pl).length),(iW a ids pl)[T.length+1+j]=pl[j]:=fun j h h2=>by
  have:T.length+1+j=(ids.length+j)+1:=by lia
  simp only[iW,this,wT];rw[xO (by lia)]
  simp
 have pI:∀i (h:i<ids.length),pos (iW a ids pl) ids[i]=Gp (1+i):=fun i h=>by
  have:=CK (iW a ids pl) 0 (i+1) (by lia) hn
  rw[sI i h (by lia)] at this;rw[pos_eq,this];congr 1;lia
 have q3:dz a (iW a ids pl) 0=Gp 0:=by
  have:=CK (iW a ids pl) 0 0 (by lia) hn
  rw[s0] at this;exact this
 have q4:∀j (h:j<pl.length),dz pl[j] (iW a ids pl) 0=Gp (T.length+1+j):=fun j hj=>by
  have:=CK (iW a ids pl) 0 (T.length+1+j) (by lia) hn
  rw[sP j hj (by lia),yd] at this;exact this
 refine⟨an,by rw[e,hT _ q3 q4,ls,hl],⟨hW,?_,fun i hi=>?_⟩,fun j hj bZ ex z cs ho=>?_⟩
 .have:=g 0 (by lia) _ (by rw[s0];exact hm)
  rw[this];have e2:gL (pos (iW a ids pl)) (.cells ydb ydc x 1 (kI ids W r))=.cells ydb ydc x 1 (dO (pos (iW a ids pl)) (kI ids W r)):=rfl;rw[e2,U3 r 1 (by lia) pI,hl,<-TU]
 .have:=g (i+1) (by lia) _ (by rw[sI i (by lia)];exact hr i (by lia))
  rw[this];rfl
 .have:=g (T.length+1+j) (by lia) _ (by rw[sP j hj (by lia)];exact ho)
  rw[this];rfl
def amZ(hp:pl.Nodup)(h:∀i,i∈pl->n<i):(iW 0 (kB n) pl).Nodup:=by
 unfold iW;refine wm.2 ⟨fun q=>?_,?_⟩
 .rcases xF.1 q with q | q
  .have:=U5.1 q;lia
  .have:=h 0 q;lia
 .refine ub.2 ⟨by rw[TU];exact uf,hp,fun a ha b hb e=>?_⟩
  have h1:=U5.1 ha;have h2:=h b hb
  lia
def sE.comp(h:sE hp x y sz W T r)(hE:cJ (bc tm live)=[0])(hM:T.length<=10000)(hT:∀S,dz 0 S 0=Gp 0->dw (pos S) (bc tm live)=tm'):∃an,bn live ⟨tm,hp,ct,0⟩=⟨tm',an,1+T.length,0⟩/\sE an x y sz W T r:=by
 obtain⟨an,e,g,_⟩:=afy (ct:=ct) (pl:=[]) hE h.m (Bm _) h.l (fun i hi=>by
  rw[U4];rw[Bm] at hi;exact h.r i hi) hM (amZ List.nodup_nil (fun _ q=>by cases q)) (fun _ q=>by cases q) (by simp) (fun S q _=>hT S q)
 exact⟨an,e,g⟩
def atL{hp0:Hp}{x0:Bool}{b w r0:Nat}(h:sE hp0 x0 y sz W T r0)(hi:T.length=i)(hE:cJ (bc tm live)=[a])(hb:i<b)(D3:a≠b)(ha:a=0\/i<a)(hm:ai hp a=Gp (.cells ydb ydc x 1 (fy (kB i) W++ .aq b 0 w::yz r .ah)))(hr:∀j,j<i->ai hp (j+1)=ai hp0 (j+1))(hc:ai hp b=Gp (.cells ydb ydb y sz cs))(hM:i<=1000)(hT:∀S,dz a S 0=Gp 0->dw (pos S) (bc tm live)=tm'):∃an,bn live ⟨tm,hp,ct,0⟩=⟨tm',an,1+(i+1),0⟩/\sE an x y sz (W++[w]) (T++[cs]) r:=by
 have H7:∀j (h:j<(kB i++[b]).length),(kB i++[b])[j]=if j<i then j+1 else b:=fun j h=>by
  by_cases hj:j<i
  .rw [yC hj,wD (by rw[Bm];exact hj),U4]
  .rw [yr hj,xO (by rw[Bm];omega)];simp
 have li:(kB i++[b]).length=i+1:=by simp[Bm]
 have lW:W.length=i:=by rw[h.l,hi]
 obtain⟨an,e,g,_⟩:=afy (hp:=hp) (x:=x) (y:=y) (sz:=sz) (r:=r) (T:=T++[cs]) (W:=W++[w]) (ct:=ct) (pl:=[]) (ids:=kB i++[b]) hE (by
  rw[hm];unfold kI;rw[adD (by rw[Bm,lW]),xD];rfl) (by rw[li];simp[hi]) (by simp[lW,hi]) (fun j hj=>by
  rw[H7 j hj];rw[li] at hj;by_cases FW:j<i
  .rw [yC FW,hr j FW,h.r j (by omega),Am (by omega),Am (by simp;omega),wD]
  .have aCB:j=i:=by omega
   subst aCB;rw[yr (by omega),hc,Am (by simp;omega),xO (by omega)];simp[hi]) (by simp;omega) (by
  unfold iW;rw[xU];refine wm.2 ⟨fun hx=>?_,?_⟩
  .obtain ⟨j,hj,e⟩:=wE.1 hx;rw[H7 j hj] at e;rw[li] at hj;split at e<;>omega
  .unfold List.Nodup;rw[List.pairwise_iff_getElem];intro u v hu hv huv;rw[H7 u hu,H7 v hv];rw[li] at hu hv
   split<;>split<;>omega) (fun _ q=>by cases q) (by simp) (fun S q _=>hT S q)
 exact⟨an,by rw[e];simp[hi],g⟩
end
end
def aeJ:∀r:List Nat,aF (dQ r)=ydb
 | []=>rfl
 | b::r=>by
  have:=aeJ r
  simpa[dQ,aF,aW] using this
def adE:∀r:List Nat,cd (dQ r)=ydb
 | []=>rfl
 | b::r=>by
  have:=adE r
  simpa[dQ,cd,db] using this
def dD.src{w:AV}{r:List Nat}(h:dD w r)(hp:Hp):jD hp 1 w=Gp (r.length,dQ r):=by
 have hl:(dQ r).length=r.length:=by simp
 rcases h with ⟨rfl,h⟩ | ⟨e,rfl⟩
 .rw [h] at hl;simp only[yN] at hl;rw[h,<-hl];rfl
 .show (bif Nat.beq (dQ r).length ((dQ r).length*1) then Gp ((dQ r).length,dQ r) else none)=_
  rw[ym,Nat.beq_refl,yu,hl]
def Gl(F:List (List Nat)):List AV:=F.map fun r=>.ap ydc r.length (dQ r)
def aeK:∀F:List (List Nat),jr dD (Gl F) F
 | []=>trivial
 | r::F=>⟨.inr ⟨ydc,by
   have hl:(dQ r).length=r.length:=by simp
   rw[hl]⟩,aeK F⟩
def aeL:∀F:List (List Nat),vh (fun w r=>AV.ap ydc w r) (F.map xT) (F.map dQ)=Gl F
 | []=>rfl
 | a::F=>by
  have:=aeL F
  rw[xb,xb,yaM,this];rfl
def aiQ(Sg:Has P L 639 Rg){v:AV}{F:List (List Nat)}(hv:cC dD v F)(hl:F.length<=900)(hr:∀r,r∈F->r.length<=1000000):∃w,ab P L 639 [v] w/\cC dD w F/\shut w=w:=by
 have key:c6 P L [3,6,7,8] EJ (fun d st=>∃i:Nat,i+d=F.length/\((i=0/\st=⟨[(3,.ah),(6,v),(7,aa F.length),(8,aa i)],[],0,0⟩)\/(0<i/\∃hp,st=⟨[(3,.aq 0 0 i),(6,v),(7,aa F.length),(8,aa i)],hp,1+i,0⟩/\sE hp ydc ydc 1 ((F.take i).map xT) ((F.take i).map dQ) 0))) (fun ex s'=>∃tm hp ct,s'=⟨tm,hp,ct,0⟩/\ex=.exit 0/\((F=[]/\ak tm 3=.ah/\hp=[])\/(0<F.length/\ak tm 3=.aq 0 0 F.length/\sE hp ydc ydc 1 (F.map xT) (F.map dQ) 0))):=by
  apply c9;rintro d st ⟨i,hid,aR⟩;by_cases hi:i<F.length
  .left
   obtain⟨w,rest,mX,e0⟩:=hv.bk hi;have oG:=dD.src mX;have mX:cp w (dQ F[i]):=mX;have Zn:=hr _ (xI hi);have w4:IntKind.wrap .i64 ((i:Int)+1)=((i+1:Nat):Int):=wrap64 (by omega) (by omega);have hiw:(i:Int)<F.length:=by omega
   have AR:=fun (hp:Hp) (ct id:Nat) (hg:ai hp id=Gp (.cells ydb ydb ydb 1 []))=>gG (ct:=ct) (by':=4) (new:=dQ F[i]) (m:=F[i].length) (n:=0) hg rfl (by omega) (by omega) (by decide) (adE _)
   simp only[aeJ,vn,yd,yy] at AR;rcases aR with ⟨mF,rfl⟩ | ⟨mF,hp,rfl,hM⟩
   .subst mF;simp only[go_sem,ya,yb,xp,yx,yi,ym,EJ,hiw,e0,oG,iB,AR,iA,w4];refine⟨_,d-1,rfl,by omega,1,by omega,.inr ⟨by omega,?_⟩⟩;have e1:F.take 1=[F[0]]:=by
     rw[show (1:Nat)=0+1 from rfl,xi hi];rfl
    rw[e1];refine⟨[(1,.cells ydb ydb ydc 1 (dQ F[0])),(0,.cells ydb ydc ydc 1 [.aq 1 0 F[0].length])],by simp only[go_sem,ya,yb,ax,aG hv.pu]<;>rfl,⟨rfl,rfl,fun k hk=>?_⟩⟩
    have:k=0:=by simpa using hk
    subst this;rfl
   .have lT:((F.take i).map dQ).length=i:=by rw[yS,yQ,xB (by omega)]
    have lW:((F.take i).map xT).length=i:=by rw[yS,yQ,xB (by omega)]
    have g0:=hM.m;rw[lT] at g0;have gr:=hM.r;rw[lT] at gr;simp only[go_sem,ya,yb,yi,ym,EJ,hiw,e0,oG,iB,AR]
    rw[gG (sz:=1) (ex:=ydc) (pu:=ydc) (cs:=kI (kB i) ((F.take i).map xT) 0) (by rw[dW _ _ (by omega),dW _ _ (by omega),Cr,yr (by omega)];exact g0) (by simp[kI,fy,Bm];omega) (by omega) (by omega) (by decide) (by simp only[go_sem])]
    simp only[go_sem,ya,w4];refine⟨_,d-1,rfl,by omega,i+1,by omega,.inr ⟨by omega,?_⟩⟩;rw[xi hi,xg,xg]
    refine atL (x:=ydc) (r:=0) hM lT (a:=1+i+1+1+1) (b:=1+i+1) (by simp only[go_sem,ya,eW hv.pu]<;>rfl) (by omega) (by omega) (by omega) (by rw[iP];simp[kI]) (fun j hj=>?_) ?_ (by omega) (fun S q=>by simp only[go_sem,ya,q,jB _ hv.pu]<;>rfl)
    .rw [dW _ _ (by omega),dW _ _ (by omega),dW _ _ (by omega),Cr,yr (by omega),Cr,yr (by omega)]
    .rw [dW _ _ (by omega),dW _ _ (by omega),iP]
  .right
   have:i=F.length:=by omega
   subst this;rcases aR with ⟨mF,rfl⟩ | ⟨mF,hp,rfl,hM⟩
   .simp only [go_sem,ya,EJ,show ¬(F.length:Int)<F.length by omega];exact⟨_,_,rfl,by simp,_,_,_,rfl,rfl,.inl ⟨wZ.1 mF,by simp only[go_sem,ya],rfl⟩⟩
   .simp only [go_sem,ya,EJ,show ¬(F.length:Int)<F.length by omega];rw[xL] at hM;exact⟨_,_,rfl,by simp,_,_,_,rfl,rfl,.inr ⟨mF,by simp only[go_sem,ya],hM⟩⟩
 unfold ab;rw[aD Sg];simp only[go_sem,ya,Rg,hv.len];generalize hq:D P L (.loop _ EJ) _=q;obtain⟨ex,st,rfl,tm,hp,ct,rfl,rfl,hh⟩:=bL hq (key F.length) ⟨0,by omega,.inl ⟨rfl,by simp only[go_sem,ya,ax,aG hv.pu]<;>rfl⟩⟩
 rcases hh with ⟨rfl,t3,rfl⟩ | ⟨h0,t3,hM⟩
 .refine ⟨.ah,?_,acv,rfl⟩;simp only[go_sem,ax,t3]
 .obtain ⟨aX,e1,nZ⟩:=hM.comp (live:=[3]) (tm:=tm) (tm':=[(3,.aq 0 0 F.length)]) (ct:=ct) (by simp only[go_sem,t3]) (by rw[yS];omega) (fun S q=>by simp only[go_sem,t3,q]);obtain⟨jP,ez⟩:=nZ.Di (n:=998) (by decide) (fun i h1 h2=>by simp) (by rw[yS];omega);have eT:=aeL F;have hm:=nZ.m;rw[yS] at hm ez;rw[eT] at ez;have hlen:(Gl F).length=F.length:=by simp[Gl]
  have zb:result aX (.aq 0 0 F.length)=Gp (.ap ydc F.length (Gl F)):=by
   have e2:mL deep aX (.aq 0 0 F.length)=freeze deep aX (.aq 0 0 F.length):=by simp only[mL,hm]
   have e3:freeze (999+1) aX (.aq 0 0 F.length)=Gp (.ap ydc F.length (Gl F),jP):=by
    rw[Ks,Kt,hm,ez];exact mj ydc (by rw[hlen,ym]) (by decide)
   simp only[result,e2];show (match freeze (999+1) aX (.aq 0 0 F.length) with | some (v',_)=>Gp v' | none=>none)=_
   rw[e3]
  refine⟨.ap ydc F.length (Gl F),?_,UY ydc (aeK F),rfl⟩;simp only[go_sem,e1,zb]
def aCC(h:Rl P L)(oN:Has P L 768 Fp){b:Int}{w:AV}{l:List Rat}{K:Nat}(hw:fO w (l.map RT))(hl:l.length<=1000000)(hk:∀x,x∈l->Hq K x)(hK:K<=4000000000):ab P L 768 [aa b,w] (aa (if b=0 then (if l.any LG=ydb then 4 else 0) else b)):=by
 have hlm:(l.map RT).length=l.length:=by simp
 have key:=gV P L [0,7,8,9] EK
  (fun k st=>∃i:Nat,i+k=l.length/\st=⟨[(0,aa (if b=0 then (if (l.take i).any LG=ydb then 4 else 0) else b)),(7,w),(8,aa l.length),(9,aa i)],[],0,0⟩)
  (fun ex st=>∃tm hp ct,st=⟨tm,hp,ct,0⟩/\ex=.exit 0/\ak tm 0=aa (if b=0 then (if l.any LG=ydb then 4 else 0) else b)) ?_
 .unfold ab;rw[aD oN];simp only[go_sem,ya,Fp,hw.len,hlm];generalize hq:D P L (.loop _ EK) _=q;obtain⟨ex,st,rfl,tm,hp,ct,rfl,rfl,h2⟩:=bL hq (key l.length) ⟨0,by omega,by
   have:(if b=0 then (if (l.take 0).any LG=ydb then (4:Int) else 0) else b)=b:=by
    by_cases h0:b=0<;>simp[h0]
   rw[this]
   simp only[go_sem,ya,ax,aG hw.pu]<;>rfl⟩
  simp only[go_sem,ax,h2]
 .rintro k st ⟨i,AH,rfl⟩;by_cases hi:i<l.length
  .left
   have e1:=hw.bk (i:=i) (by omega);rw[vj] at e1;have e2:=azi h (hk _ (xI hi)) hK;have ht:(l.take (i+1)).any LG=((l.take i).any LG||LG l[i]):=by rw[xi hi,ybJ];simp
   unfold ab at e2;by_cases h0:b=0
   .rw [yC h0]
    cases h1:(l.take i).any LG with
    | true=>
     simp only[go_sem,ya,EK,show (i:Int)<l.length by omega,e1,xP,show ¬(4:Int)=0 by decide,yM];refine⟨_,k-1,rfl,by omega,i+1,by omega,?_⟩;rw[ht,h1,wrap64 (by omega) (by omega),yC h0];simp only[go_sem,ya,ax,aG hw.pu,tc,xP]<;>rfl
    | false=>
     simp only[go_sem,ya,EK,show (i:Int)<l.length by omega,e1,e2,xz,yD];refine⟨_,k-1,rfl,by omega,i+1,by omega,?_⟩;rw[ht,h1,wrap64 (by omega) (by omega),yC h0,vV];simp only[go_sem,ya,ax,aG hw.pu]<;>rfl
   .rw [yr h0];simp only[go_sem,ya,EK,show (i:Int)<l.length by omega,e1,h0,yM];refine⟨_,k-1,rfl,by omega,i+1,by omega,?_⟩;rw[wrap64 (by omega) (by omega)];simp only[go_sem,ya,ax,aG hw.pu,xz]<;>rfl
  .right
   simp only[go_sem,ya,EK,show ¬(i:Int)<l.length by omega];refine⟨_,_,rfl,by simp,_,_,_,rfl,rfl,?_⟩;rw[yE (by omega)];simp only[go_sem,ya]
def V4:Hq 40 (0:Rat):=H4 (z:=0) (by decide)
def aiR(pZ:Has P L 659 HH){v w:AV}{l:List nl}(hv:iV v l)(hw:iV w l)(hl:l.length<=1000000):ab P L 659 [v,w] (.bool ydb):=by
 have key:=gV P L [0,1,5] K2
  (fun k st=>∃i:Nat,st=⟨[(0,v),(1,w),(5,aa i)],[],0,0⟩/\i+k=l.length)
  (fun ex st=>∃tm hp ct,st=⟨tm,hp,ct,0⟩/\ex=.exit 0) ?_
 .unfold ab;rw[aD pZ];simp only[go_sem,ya,HH,hv.len,hw.len,yI];generalize hq:D P L (.loop _ K2) _=q;obtain⟨ex,st,rfl,tm,hp,ct,rfl,rfl⟩:=bL hq (key l.length) ⟨0,by simp only[go_sem,ya,ax,aG hv.pu,aG hw.pu]<;>rfl,by omega⟩
  simp only[go_sem,ax]
 .rintro k st ⟨i,rfl,hk⟩;by_cases hi:i<l.length
  .left
   obtain⟨r1,e1⟩:=hv.bk hi;obtain⟨r2,e2⟩:=hw.bk hi;have qB:km (.ag [2,2]) (.agg [.str l[i].1,.str l[i].2]) (.agg [.str l[i].1,.str l[i].2])=Gp ydb:=by
    have:=aCs l[i] l[i]
    rw[GO rfl,GO rfl] at this;exact this
   have ld2:∀(hp:Hp) (a b:AV) (r:List AV),gn hp 2 ydb (.bC (a::b::r))=Gp (.agg [a,b]):=fun _ _ _ _=>rfl
   simp only[go_sem,ya,K2,hv.len,show (i:Int)<l.length by omega,e1,e2,ld2,qB,show HN ydb (Gp ydb)=Gp (AV.bool ydc) from rfl];refine⟨_,k-1,rfl,by omega,i+1,?_,by omega⟩;rw[wrap64 (by omega) (by omega)];simp only[go_sem,ya,ax,aG hv.pu,aG hw.pu]<;>rfl
  .right
   simp only[go_sem,ya,K2,hv.len,show ¬(i:Int)<l.length by omega];exact⟨_,_,rfl,by simp,_,_,_,rfl,rfl⟩
def Gm(C R S:Int):Bool:=decide (C<=3\/8<C)&&(decide (R<=3\/8<R)&&decide (S<=4\/8<S))
def E8(F:List (List Nat)):Bool:=F.all fun r=>decide (r.length<=14)
def Cl(F:List (List Nat)):Bool:=decide (F.length<=14)&&E8 F
def afz{F:List (List Nat)}(h:Cl F=ydb):F.length<=14/\∀r,r∈F->r.length<=14:=by
 unfold Cl E8 at h;rw[ye] at h;exact⟨of_decide_eq_true h.1,fun r hr=>of_decide_eq_true (List.all_eq_true.1 h.2 r hr)⟩
structure JH(P:aE)(L:Lib):Prop where
 aCD:L.pure 427=Gp AB
 Yu:Has P L 642 Rh
 aCE:Has P L 644 Rj
 MM:Has P L 647 Me
 aCF:Has P L 648 Xl
 MN:Has P L 678 Mh
 aCG:Has P L 680 Ry
def Yv(h:Has P L 636 Mc){v:AV}{F:List (List Nat)}(hv:cC dD v F):ab P L 636 [v] (.bool (Cl F)):=by
 unfold ab;rw[aD h];unfold Cl;by_cases h9:F.length<=14
 .have key:=gV P L [0,3] G6
   (fun k st=>∃i:Nat,i+k=F.length/\E8 (F.drop i)=E8 F/\st=⟨[(0,v),(3,aa i)],[],0,0⟩)
   (fun ex st=>∃tm hp ct,st=⟨tm,hp,ct,0⟩/\((ex=.ret/\ak tm 2=.bool ydc/\E8 F=ydc)\/(ex=.exit 0/\E8 F=ydb))) (by
   rintro k st ⟨i,hk,hf,rfl⟩;by_cases hi:i<F.length
   .obtain ⟨w,rest,hw,e1⟩:=hv.bk hi;have hw:cp w (dQ F[i]):=hw;have hlen:(dQ F[i]).length=F[i].length:=by simp
    unfold E8 at hf;rw[aqX hi] at hf;by_cases h1:F[i].length<=14
    .left
     rw[xk h1,wS] at hf;simp only[go_sem,ya,G6,hv.len,show (i:Int)<F.length by omega,e1,hw.len,hlen,show ¬(14:Int)<F[i].length by omega,yM];refine⟨_,k-1,rfl,by omega,i+1,by omega,hf,?_⟩;rw[wrap64 (by omega) (by omega)];simp only[go_sem,ya,ax,aG hv.pu]<;>rfl
    .right
     rw[yW h1,wK] at hf;simp only[go_sem,ya,G6,hv.len,show (i:Int)<F.length by omega,e1,hw.len,hlen,show (14:Int)<F[i].length by omega];exact⟨_,_,rfl,by simp,_,_,_,rfl,.inl ⟨rfl,by simp only[go_sem],hf.symm⟩⟩
   .right
    simp only[go_sem,ya,G6,hv.len,show ¬(i:Int)<F.length by omega];refine⟨_,_,rfl,by simp,_,_,_,rfl,.inr ⟨rfl,?_⟩⟩
    rw[<-hf,xd (by omega)];rfl)
  rw[xk h9,wS];simp only[go_sem,ya,Mc,hv.len,show ¬(14:Int)<F.length by omega,yM];generalize hq:D P L (.loop _ G6) _=q;obtain⟨ex,st,rfl,tm,hp,ct,rfl,h3⟩:=bL hq (key F.length) ⟨0,by omega,rfl,by simp only[go_sem,ya,ax,aG hv.pu]<;>rfl⟩
  rcases h3 with ⟨rfl,h3,h4⟩ | ⟨rfl,h4⟩
  .rw [h4];simp only[go_sem,h3]
  .rw [h4];simp only[go_sem,ax]
 .rw [yW h9,wK];simp only[go_sem,ya,Mc,hv.len,show (14:Int)<F.length by omega]
def Yw(h:Has P L 634 Re)(C R S:Int):ab P L 634 [.agg [aa C,aa R,aa S]] (.bool (Gm C R S)):=by
 unfold ab;rw[aD h];unfold Gm;by_cases c1:C<=3<;>by_cases c2:8<C<;>by_cases r1:R<=3<;>by_cases r2:8<R<;>by_cases s1:S<=4<;>by_cases s2:8<S<;>simp only[go_sem,ya,Re,jN,aY,yd,yf,yH,c1,c2,r1,r2,s1,s2,yI,yM,wS,wK,or_true,true_or,or_self]
def Yx(h:Has P L 678 Mh)(n lo hi:Int):ab P L 678 [aa n,aa lo,aa hi] (aa (oZ n lo hi)):=by
 unfold ab;rw[aD h];unfold oZ;by_cases c1:n<lo<;>by_cases c2:hi<n<;>simp only[go_sem,ya,Mh,c1,c2,yI,yM,or_self,or_true,true_or,xP,xz]
def azD(Yu:Has P L 642 Rh)(MM:Has P L 647 Me)(MN:Has P L 678 Mh)(C R S:Int):ab P L 642 [.agg [aa C,aa R,aa S]] (aa (rO C R S)):=by
 have e1:=Yx MN C 1 8;have e2:=Yx MN R 1 8;have e3:=Yx MN S 2 8;have e4:=Yh MM (jY ydb [oZ C 1 8,oZ R 1 8,oZ S 2 8]) (by simp);simp only[yF,yN,yd,yb,xb,vd] at e4;unfold ab at e1 e2 e3 e4 ⊢;rw[aD Yu];unfold rO;simp only[go_sem,ya,yb,yx,yi,ym,Rh,jN,aY,yd,yf,yH,e1,e2,e3,e4]
def aCH(h:JH P L)(C R S:Int):ab P L 642 [.agg [aa C,aa R,aa S]] (aa (rO C R S)):=azD h.Yu h.MM h.MN C R S
section
variable {v:AV}{F:List (List Nat)}
def aCI(h:L.pure 427=Gp AB)(b:Nat):ab P L 427 [.aw .f32 b] (.bool (gN b)):=by
 unfold ab;simp only[bO,h,AB]
def axB(h:JH P L){w:AV}{r:List Nat}{m i:Nat}(hv:cC dD v F)(hi:i<F.length)(hr:F[i]=r)(hl:r.length<=1000000):
  c6 P L [0,2,7,8] G7 (fun d st=>∃k,k+d=r.length/\rN (r.drop k)=rN r/\st=⟨[(0,v),(2,aa m),(7,aa i),(8,aa k)],[],0,0⟩) (fun ex s'=>∃tm ct,s'=⟨tm,[],ct,0⟩/\((ex=.ret/\ak tm 6=aa 1/\rN r=ydb)\/(ex=.exit 2/\rN r=ydc/\bc tm [0,2,7]=[(0,v),(2,aa m),(7,aa i)]))):=by
 apply c9;rintro d st ⟨k,hk,hf,rfl⟩;obtain⟨x,rest,hx,e0⟩:=hv.bk hi;rw[hr] at hx;have hx:cp x (dQ r):=hx;have hlen:(dQ r).length=r.length:=by simp
 by_cases Ie:k<r.length
 .have e1:=hx.bk (i:=k) (by simpa using Ie);rw[GJ Ie] at e1;have e2:=aCI (P:=P) h.aCD r[k];unfold rN at hf;rw[UO Ie] at hf;unfold ab at e2
  cases hz:gN r[k] with
  | true=>
   left
   rw[hz] at e2 hf;simp only[go_sem,ya,G7,e0,hx.len,hlen,show (k:Int)<r.length by omega,e1,ml,e2,yY];refine⟨_,d-1,rfl,by omega,k+1,by omega,hf,?_⟩;rw[wrap64 (by omega) (by omega)];simp only[go_sem,ya,ax,aG hv.pu]<;>rfl
  | false=>
   right
   rw[hz] at e2 hf;simp only[go_sem,ya,G7,e0,hx.len,hlen,show (k:Int)<r.length by omega,e1,ml,e2,yZ];exact⟨_,_,rfl,by simp,_,_,rfl,.inl ⟨rfl,by simp only[go_sem],hf.symm⟩⟩
 .right
  simp only[go_sem,ya,G7,e0,hx.len,hlen,show ¬(k:Int)<r.length by omega];refine⟨_,_,rfl,by simp,_,_,rfl,.inr ⟨rfl,?_,by simp only[go_sem,ya]⟩⟩;rw[<-hf,xd (by omega)];rfl
def aCJ(h:JH P L){n m:Nat}(hv:cC dD v F)(hl:F.length<=1000000)(hr:∀r,r∈F->r.length<=1000000):ab P L 680 [v,aa n,aa m] (aa (Ds n m F)):=by
 unfold ab;rw[aD h.aCG];unfold Ds;by_cases hn:F.length=n
 .rw [yC hn];have key:=gV P L [0,2,7] G8
   (fun d st=>∃i:Nat,i+d=F.length/\b9 ((F.drop i).map (nm m))=b9 (F.map (nm m))/\st=⟨[(0,v),(2,aa m),(7,aa i)],[],0,0⟩)
   (fun ex st=>∃tm ct,st=⟨tm,[],ct,0⟩/\((ex=.ret/\ak tm 6=aa (b9 (F.map (nm m))))\/(ex=.exit 0/\b9 (F.map (nm m))=0))) (by
   rintro d st ⟨i,hd,hf,rfl⟩;by_cases hi:i<F.length
   .obtain ⟨x,rest,hx,e0⟩:=hv.bk hi;have Zn:=hr _ (xI hi);have Yd:=axB h (v:=v) (w:=v) (m:=m) hv hi rfl Zn;have hx:cp x (dQ F[i]):=hx;have hlen:(dQ F[i]).length=F[i].length:=by simp
    rw[alF hi] at hf;by_cases h1:F[i].length=m
    .have FP:(F[i].length:Int)=m:=by omega
     simp only[go_sem,ya,G8,hv.len,show (i:Int)<F.length by omega,e0,hx.len,hlen,FP,yI,yY];generalize hq:D P L (.loop _ G7) _=q;obtain⟨ex,st,rfl,tm,ct,rfl,hh⟩:=bL hq (Yd F[i].length) ⟨0,by omega,rfl,by simp only[go_sem,ya,ax,aG hv.pu]<;>rfl⟩
     rcases hh with ⟨rfl,g1,g2⟩ | ⟨rfl,g1,g2⟩
     .right
      have hE:nm m F[i]=1:=by unfold nm;rw[yC h1,g2];rfl
      rw[hE,yr (by decide)] at hf;simp only[go_sem];exact⟨_,_,rfl,by simp,_,_,rfl,.inl ⟨rfl,by rw[g1,hf]⟩⟩
     .left
      have hE:nm m F[i]=0:=by unfold nm;rw[yC h1,g1];rfl
      rw[hE,yC rfl] at hf;have gP:∀ct,bn [0,2,7] ⟨tm,[],ct,0⟩=⟨[(0,v),(2,aa m),(7,aa i)],[],0,0⟩:=fun ct=>by
       rw[NW (by rw[g2];simp only[go_sem,hv.pu]),g2]
      simp only[go_sem,ya,gP];refine⟨_,d-1,rfl,by omega,i+1,by omega,hf,?_⟩;rw[wrap64 (by omega) (by omega)];simp only[go_sem,ya,ax,aG hv.pu]<;>rfl
    .right
     have hE:nm m F[i]=2:=by unfold nm;rw[yr h1];rfl
     rw[hE,yr (by decide)] at hf;have FP:¬(F[i].length:Int)=m:=by omega
     simp only[go_sem,ya,G8,hv.len,show (i:Int)<F.length by omega,e0,hx.len,hlen,FP,yM,yZ];exact⟨_,_,rfl,by simp,_,_,rfl,.inl ⟨rfl,by rw[<-hf];simp only[go_sem]⟩⟩
   .right
    simp only[go_sem,ya,G8,hv.len,show ¬(i:Int)<F.length by omega];refine⟨_,_,rfl,by simp,_,_,rfl,.inr ⟨rfl,?_⟩⟩
    rw[<-hf,xd (by omega)];rfl)
  have jS:(F.length:Int)=n:=by omega
  simp only[go_sem,ya,Ry,hv.len,jS,yI,yY];generalize hq:D P L (.loop _ G8) _=q;obtain⟨ex,st,rfl,tm,ct,rfl,hh⟩:=bL hq (key F.length) ⟨0,by omega,rfl,by simp only[go_sem,ya,ax,aG hv.pu]<;>rfl⟩
  rcases hh with ⟨rfl,h2⟩ | ⟨rfl,h2⟩
  .simp only [go_sem,h2]
  .rw [h2];simp only[go_sem,ax]
 .rw [yr hn];have jS:¬(F.length:Int)=n:=by omega
  simp only[go_sem,ya,Ry,hv.len,jS,yM,yZ]
def aCK(h:JH P L){C R S:Nat}(hC:C<=8)(hR:R<=8)(hS:S<=8)(hv:cC dD v F)(hl:F.length<=1000000)(hr:∀r,r∈F->r.length<=1000000):ab P L 648 [.agg [aa C,aa R,aa S],v] (aa (Ds (R*S) (C*S) F)):=by
 have e1:=aCJ h (n:=R*S) (m:=C*S) hv hl hr;have b1:R*S<=64:=xf hR hS;have b2:C*S<=64:=xf hC hS;have m1:(R:Int)*(S:Int)=((R*S:Nat):Int):=by rw[xS]
 have m2:(C:Int)*(S:Int)=((C*S:Nat):Int):=by rw[xS]
 unfold ab at e1 ⊢;rw[aD h.aCF]
 simp only[go_sem,ya,Xl,jN,aY,yd,yf,yH,hv.aj,m1,m2,wrap64 (n:=((R*S:Nat):Int)) (by omega) (by omega),wrap64 (n:=((C*S:Nat):Int)) (by omega) (by omega),e1]
def aiS(h:JH P L){C R S:Int}(hv:cC dD v F)(hl:F.length<=1000000)(hr:∀r,r∈F->r.length<=1000000):ab P L 644 [.agg [aa C,aa R,aa S],v] (aa (fe C R S F)):=by
 have e1:=aCH h C R S;have fz:=lh;unfold ab;rw[aD h.aCE];unfold fe;by_cases h0:rO C R S=0
 .rw [yC h0];obtain⟨⟨a1,a2⟩,⟨b1,b2⟩,c1,c2⟩:=Vt h0;have e2:=aCK h (C:=C.toNat) (R:=R.toNat) (S:=S.toNat) (by omega) (by omega) (by omega) hv hl hr;rw[vl (by omega),vl (by omega),vl (by omega)] at e2;rw[h0] at e1;unfold ab at e1 e2;simp only[go_sem,ya,yb,Rj,jN,yf,fB,fz,e1,hv.aj,e2]
 .rw [yr h0];unfold ab at e1;simp only[go_sem,ya,yb,Rj,jN,yf,fB,fz,e1,h0]
end
section
variable {hp:Hp}{T:List (List AV)}{W ids live:List Nat}{k n:Nat}
def fW(k n:Nat):List Nat:=xZ (k+1) n
def jj(k n:Nat):(fW k n).length=n:=by simp[fW]
def zX{i:Nat}(h:i<(fW k n).length):(fW k n)[i]=k+1+i:=by simp[fW]
structure iw(hp:Hp)(k:Nat)(W:List Nat)(T:List (List AV)):Prop where
 l:W.length=T.length
 m:ai hp k=Gp (.cells ydb ydc ydc 1 (fy (fW k T.length) W))
 r:∀i,i<T.length->ai hp (k+1+i)=Gp (.cells ydb ydb ydc 1 (gT T i))
def WT(ids W:List Nat):kI ids W 0=fy ids W:=by unfold kI;simp
def acy(h:ids.length=W.length):eZ (fy ids W)=ids:=by rw[<-WT];exact Us 0 h
def adF{f:Nat->Option Nat}(k:Nat)(h:ids.length=W.length)(hf:∀i (h:i<ids.length),f ids[i]=Gp (k+i)):dO f (fy ids W)=fy (xZ k ids.length) W:=by
 rw[<-WT,U3 0 k h hf,WT]
def axC{tm tm':Env}{ct a:Nat}{pre:List Nat}(hE:cJ (bc tm live)=pre++[a])(hk:pre.length=k)(hp0:∀i,i∈pre->∃rw ex z cs,ai hp i=Gp (.cells rw ydb ex z cs))(hm:ai hp a=Gp (.cells ydb ydc ydc 1 (fy ids W)))(hl:ids.length=T.length)(hW:W.length=T.length)(hr:∀i (h:i<ids.length),ai hp ids[i]=Gp (.cells ydb ydb ydc 1 (gT T i)))(hM:k+T.length<=1000)(hn:(pre++a::ids).Nodup)(hT:∀S,(∀i (h:i<pre.length),dz pre[i] S 0=Gp i)->dz a S 0=Gp k->dw (pos S) (bc tm live)=tm'):
  ∃an,bn live ⟨tm,hp,ct,0⟩=⟨tm',an,k+1+T.length,0⟩/\iw an k W T/\∀i (h:i<pre.length) rw ex z cs,ai hp pre[i]=Gp (.cells rw ydb ex z cs)->ai an i=Gp (.cells rw ydb ex z cs):=by
 obtain⟨n1,n2,n3⟩:=ub.1 hn;have dF:=wm.1 n2;have hR:mD hp 100000 (cJ (bc tm live)) []=pre++a::ids:=by
  rw[hE,Kx hp pre [] [a] 100000 (by omega) (fun i hi=>by obtain⟨_,_,_,_,h⟩:=hp0 i hi;exact⟨_,h,rfl⟩) n1 (by simp),yy]
  obtain⟨m,ig⟩:∃m,100000-pre.length=m+1:=⟨100000-pre.length-1,by omega⟩
  rw[ig,OW,O4 (fun h=>n3 a h a wA rfl),PO,hm,PP,Pm,acy (by omega),Kx hp ids (pre++[a]) [] m (by omega) (fun i hi=>by
   obtain⟨j,hj,rfl⟩:=wE.1 hi;exact⟨_,hr j hj,rfl⟩) dF.2 (fun i hi iZ=>by
   rcases xF.1 iZ with h | h
   .exact n3 i h i (xM _ hi) rfl
   .rw [xu.1 h] at hi;exact dF.1 hi),Vu hp (by omega)]
  simp
 obtain⟨an,e,g⟩:=aat (ct:=ct) hR;have ls:(pre++a::ids).length=k+1+T.length:=by simp;omega
 have pp:=fun j (h:j<(pre++a::ids).length)=>CK (pre++a::ids) 0 j h hn
 simp only[yd] at pp;have sP:∀i (h:i<pre.length),(pre++a::ids)[i]'(by simp;omega)=pre[i]:=fun i h=>wD h
 have sA:(pre++a::ids)[k]'(by simp;omega)=a:=by
  rw[xO (by omega)];simp[hk]
 have sI:∀i (h:i<ids.length),(pre++a::ids)[k+1+i]'(by simp;omega)=ids[i]:=fun i h=>by
  rw[xO (by omega)];simp[hk,show k+1+i-k=i+1 by omega]
 refine⟨an,?_,⟨hW,?_,fun i hi=>?_⟩,fun i hi bZ ex z cs ho=>?_⟩
 .rw [e,ls,hT _ (fun i h=>by have:=pp i (by simp;omega);rwa[sP i h] at this) (by have:=pp k (by simp;omega);rwa[sA] at this)]
 .rw [g k (by simp;omega) _ (by rw[sA];exact hm),VN,adF (k+1) (by omega) (fun i h=>by
   have:=pp (k+1+i) (by simp;omega)
   rw[sI i h] at this
   exact this),hl]
  rfl
 .rw [g (k+1+i) (by simp;omega) _ (by rw[sI i (by omega)];exact hr i (by omega)),EN]
 .rw [g i (by simp;omega) _ (by rw[sP i hi];exact ho),EN]
def iw.nodup:(xY k++k::fW k n).Nodup:=by
 have:xY k++k::fW k n=xY (k+1+n):=by
  unfold fW;rw[List.range_add,vt];simp[yaE]
 rw[this];exact List.nodup_range
def iw.comp{tm tm':Env}{ct:Nat}(h:iw hp k W T)(hE:cJ (bc tm live)=xY k++[k])(hp0:∀i,i<k->∃rw ex z cs,ai hp i=Gp (.cells rw ydb ex z cs))(hM:k+T.length<=1000)(hT:∀S,(∀i,i<k->dz i S 0=Gp i)->dz k S 0=Gp k->dw (pos S) (bc tm live)=tm'):
  ∃an,bn live ⟨tm,hp,ct,0⟩=⟨tm',an,k+1+T.length,0⟩/\iw an k W T/\∀i,i<k->∀rw ex z cs,ai hp i=Gp (.cells rw ydb ex z cs)->ai an i=Gp (.cells rw ydb ex z cs):=by
 obtain⟨an,e,g1,g2⟩:=axC (ct:=ct) hE (List.length_range) (fun i hi=>hp0 i (wW.1 hi)) h.m (jj _ _) h.l (fun i hi=>by
  rw[zX];rw[jj] at hi;exact h.r i hi) hM iw.nodup (fun S h1 h2=>hT S (fun i hi=>by have:=h1 i (by simpa using hi);simpa using this) h2)
 exact⟨an,e,g1,fun i hi bZ ex z cs ho=>g2 i (by simpa using hi) bZ ex z cs (by simpa using ho)⟩
def iw.aj(h:iw hp k W T)(hw:∀i (h1:i<T.length) (h2:i<W.length),T[i].length=W[i])(hM:T.length<=900)(hn:910<=n):
  ∃an,freeze (n+3) hp (.aq k 0 T.length)=Gp (.ap ydc T.length (vh (fun w r=>.ap ydc w r) W T),an)/\(∀j,j≠k->(∀i,i<T.length->j≠k+1+i)->ai an j=ai hp j):=by
 obtain⟨aX,e1,g1⟩:=OG (sz:=1) (y:=ydc) (by decide) (fW k T.length) W T hp (n+1) (by rw[jj];omega) (jj _ _) h.l (fun i h1 h2 h3=>by
  refine⟨by rw[ym];exact hw i h2 h3,ydb,?_⟩
  rw[zX]
  have:=h.r i h2
  rwa[Am h2] at this)
 refine⟨aU aX k (.cells ydc ydc ydc 1 (fy (fW k T.length) W)),?_,fun j hj FW=>?_⟩
 .rw [Ks,Kt,h.m,V3 e1];exact mj ydc (by rw[ybh,h.l,ycG,ym]) (by decide)
 .rw [Gx,yr hj];refine g1 j (fun hm=>?_);obtain⟨i,hi,e⟩:=wE.1 hm;rw[zX] at e;rw[jj] at hi;exact FW i hi e.symm
end
section
variable {tm:Env}{H J:Hp}{live pre:List Nat}{B ct:Nat}
def GD{i:Nat}{o:Obj}:ai J i=Gp o->ai (J++H) i=Gp o:=by
 induction J with
 | nil=>intro h;cases h
 | cons p r ih=>
  obtain⟨j,u⟩:=p;intro h;by_cases e:j=i
  .subst e;rw[yj,iP];rw[iP] at h;exact h
  .rw [yj,dW _ _ e];rw[dW _ _ e] at h;exact ih h
def aby{i:Nat}(hJ:∀p,p∈J->B<=p.1)(hi:i<B):ai (J++H) i=ai H i:=by
 induction J with
 | nil=>rfl
 | cons p r ih=>
  obtain⟨j,u⟩:=p
  have:=hJ (j,u) (by simp)
  rw[yj,dW _ _ (by simp only at this;omega)];exact ih fun q hq=>hJ q (by simp[hq])
def Ut(hp:Hp)(f:Nat->Option Nat)(B:Nat)(H:Hp):∀(seen:List Nat) (k:Nat) (J:Hp),B<=k->(∀p,p∈J->B<=p.1)->∃J',eF hp f seen k (J++H)=J'++H/\∀p,p∈J'->B<=p.1
 | [],k,J,_,hJ=>⟨J,rfl,hJ⟩
 | id::r,k,J,hk,hJ=>by
  rw[eF]
  cases ai hp id with
  | none=>exact Ut hp f B H r (k+1) J (by omega) hJ
  | some o=>
   simp only;rw[<-yj]
   exact Ut hp f B H r (k+1) ((k,gL f o)::J) (by omega) (fun p an=>by
    rcases xy.1 an with rfl | h
    .exact hk
    .exact hJ p h)
def aoM(hp:Hp)(f:Nat->Option Nat)(H:Hp):∀(seen:List Nat) (k j:Nat) (h:j<seen.length) (o:Obj),ai hp seen[j]=Gp o->ai (eF hp f seen k H) (k+j)=Gp (gL f o):=fun seen k j h o ho=>TS hp f seen k H j h o ho
def PA(B:Nat)(hp:Hp):∀(ids seen cA:List Nat) (n:Nat),ids.length<n->(∀i,i∈ids->B<=i/\∃o,ai hp i=Gp o/\iT o=[])->ids.Nodup->(∀i,i∈ids->i∉seen)->lC B hp n (ids++cA) seen=lC B hp (n-ids.length) cA (seen++ids)
 | [],seen,cA,n,_,_,_,_=>by simp
 | i::ids,seen,cA,0,h,_,_,_=>by simp at h
 | i::ids,seen,cA,n+1,h,h1,h2,h3=>by
  obtain⟨hb,o,g,e⟩:=h1 i wA;have hn:=wm.1 h2
  rw[yj,WJ _ _ _ _ hb,O4 (h3 i wA),V1,g,V2,e,yy,PA B hp ids (seen++[i]) cA n (by simpa using h) (fun j hj=>h1 j (xM _ hj)) hn.2 (fun j hj hm=>by
   rcases xF.1 hm with hm | hm
   .exact h3 j (xM _ hj) hm
   .simp only [xu] at hm
    subst hm;exact hn.1 hj)]
  simp only[yF,xD,yj,yy];rw[show n+1-(ids.length+1)=n-ids.length by omega]
def U6(B:Nat)(hp:Hp):∀(l:List Nat) (n:Nat) (seen:List Nat),l.length<n->(∀i,i∈l->i<B)->lC B hp n l seen=seen
 | [],n,seen,h,_=>by
  obtain⟨m,rfl⟩:∃m,n=m+1:=⟨n-1,by simp at h;omega⟩;rfl
 | i::l,n,seen,h,h1=>by
  obtain⟨m,rfl⟩:∃m,n=m+1:=⟨n-1,by simp at h;omega⟩;rw[ag7 _ _ _ _ (h1 i (by simp))];exact U6 B hp l m seen (by simpa using h) (fun j hj=>h1 j (by simp[hj]))
def abz{seen:List Nat}(hJ:∀p,p∈J->B<=p.1)(ho:fS B B H)(hr:lC B (J++H) 100000 (cJ (bc tm live)++b7 B H) []=seen):
  ∃J',bn live ⟨tm,J++H,ct,B⟩=⟨dw (bt B seen) (bc tm live),J'++H,B+seen.length,B⟩/\(∀p,p∈J'->B<=p.1)/\∀j (h:j<seen.length) o,ai J seen[j]=Gp o->ai (J'++H) (B+j)=Gp (gL (bt B seen) o):=by
 have e1:fT B (bt B seen) (J++H)=H:=by
  rw[Uq hJ,N5 (fun x hx=>Qv _ hx) ho]
 obtain⟨J',h1,h2⟩:=Ut (J++H) (bt B seen) B H seen B [] (yp B) (fun p h=>by cases h);rw[yy] at h1;have e2:reach (J++H) B 100000 (cJ (bc tm live)++b7 B (J++H)) []=seen:=by rw[N7 hJ];exact hr
 refine⟨J',?_,h2,fun j h o hg=>?_⟩
 .have e3:gW B seen=bt B seen:=rfl;simp only[bn,e2,e3,e1,h1]
 .rw [<-h1];exact aoM (J++H) (bt B seen) H seen B j h o (GD hg)
def aeM{tm':Env}(hJ:∀p,p∈J->B<=p.1)(ho:fS B B H)(h0:(b7 B H).length<=50000)(hE:cJ (bc tm live)=pre)(hp0:∀i,i∈pre->B<=i/\∃rw ex z cs,ai J i=Gp (.cells rw ydb ex z cs))(hM:pre.length<=1000)(hn:pre.Nodup)(hT:∀S,(∀j,j<B->bt B S j=Gp j)->(∀i (h:i<pre.length),bt B S pre[i]=Gp (B+i))->dw (bt B S) (bc tm live)=tm'):
  ∃J',bn live ⟨tm,J++H,ct,B⟩=⟨tm',J'++H,B+pre.length,B⟩/\(∀p,p∈J'->B<=p.1)/\∀i (h:i<pre.length) rw ex z cs,ai J pre[i]=Gp (.cells rw ydb ex z cs)->ai (J'++H) (B+i)=Gp (.cells rw ydb ex z cs):=by
 have hR:lC B (J++H) 100000 (cJ (bc tm live)++b7 B H) []=pre:=by
  rw[hE,PA B (J++H) pre [] _ 100000 (by omega) (fun i hi=>by obtain⟨hb,_,_,_,_,h⟩:=hp0 i hi;exact⟨hb,_,GD h,rfl⟩) hn (by simp),yy]
  exact U6 B _ _ _ _ (by omega) (JU (yp B) ho)
 obtain⟨J',e,g1,g2⟩:=abz (ct:=ct) hJ ho hR;refine⟨J',?_,g1,fun i h bZ ex z cs hg=>?_⟩
 .rw [e,hT pre (fun j hj=>Qv _ hj) (fun i h=>by
   rw[WK _ (hp0 _ (xI h)).1,CK pre B i h hn])]
 .rw [g2 i h _ hg,EN]
def PB{tm':Env}{a k:Nat}{ids post W:List Nat}{T:List (List AV)}(hJ:∀p,p∈J->B<=p.1)(ho:fS B B H)(h0:(b7 B H).length<=50000)(hE:cJ (bc tm live)=pre++a::post)(hk:pre.length=k)(hp0:∀i,i∈pre++post->B<=i/\∃rw ex z cs,ai J i=Gp (.cells rw ydb ex z cs))(hBa:B<=a)(hm:ai J a=Gp (.cells ydb ydc ydc 1 (fy ids W)))(hl:ids.length=T.length)(hW:W.length=T.length)(hr:∀i (h:i<ids.length),B<=ids[i]/\ai J ids[i]=Gp (.cells ydb ydb ydc 1 (gT T i)))(hM:k+T.length+post.length<=1000)(hn:(pre++a::(ids++post)).Nodup)(hT:∀S,(∀j,j<B->bt B S j=Gp j)->(∀i (h:i<pre.length),bt B S pre[i]=Gp (B+i))->bt B S a=Gp (B+k)->(∀i (h:i<post.length),bt B S post[i]=Gp (B+k+1+T.length+i))->dw (bt B S) (bc tm live)=tm'):
  ∃J',bn live ⟨tm,J++H,ct,B⟩=⟨tm',J'++H,B+(k+1+T.length+post.length),B⟩/\(∀p,p∈J'->B<=p.1)/\iw (J'++H) (B+k) W T/\(∀i (h:i<pre.length) rw ex z cs,ai J pre[i]=Gp (.cells rw ydb ex z cs)->ai (J'++H) (B+i)=Gp (.cells rw ydb ex z cs))/\
   ∀i (h:i<post.length) rw ex z cs,ai J post[i]=Gp (.cells rw ydb ex z cs)->ai (J'++H) (B+k+1+T.length+i)=Gp (.cells rw ydb ex z cs):=by
 obtain⟨n1,n2,n3⟩:=ub.1 hn;obtain⟨n4,n5⟩:=wm.1 n2;have hR:lC B (J++H) 100000 (cJ (bc tm live)++b7 B H) []=pre++a::(ids++post):=by
  rw[hE,xD,PA B (J++H) pre [] _ 100000 (by omega) (fun i hi=>by obtain⟨hb,_,_,_,_,h⟩:=hp0 i (by simp[hi]);exact⟨hb,_,GD h,rfl⟩) n1 (by simp),yy]
  obtain⟨m,ig⟩:∃m,100000-pre.length=m+1:=⟨100000-pre.length-1,by omega⟩;have eI:∀i,i∈ids++post->i∉pre++[a]:=fun i hi iZ=>by
   rcases xF.1 iZ with h | h
   .exact n3 i h i (xM _ hi) rfl
   .rw [xu.1 h] at hi;exact n4 hi
  rw[ig,yj,WJ _ _ _ _ hBa,O4 (fun h=>n3 a h a wA rfl),V1,GD hm,V2,Pm,acy (by omega),<-xD,PA B (J++H) (ids++post) (pre++[a]) _ m (by rw[yJ];omega) (fun i hi=>by
   rcases xF.1 hi with h | h
   .obtain ⟨j,hj,rfl⟩:=wE.1 h;exact⟨(hr j hj).1,_,GD (hr j hj).2,rfl⟩
   .obtain ⟨hb,_,_,_,_,h⟩:=hp0 i (by simp[h])
    exact⟨hb,_,GD h,rfl⟩) n5 eI,U6 B _ _ _ _ (by rw[yJ];omega) (JU (yp B) ho)]
  simp
 obtain⟨J',e,g1,g2⟩:=abz (ct:=ct) hJ ho hR;have ls:(pre++a::(ids++post)).length=k+1+T.length+post.length:=by simp;omega
 have pp:∀j (h:j<(pre++a::(ids++post)).length),B<=(pre++a::(ids++post))[j]->bt B (pre++a::(ids++post)) (pre++a::(ids++post))[j]=Gp (B+j):=fun j h hb=>by
  rw[WK _ hb,CK _ B j h hn]
 have sP:∀i (h:i<pre.length),(pre++a::(ids++post))[i]'(by simp;omega)=pre[i]:=fun i h=>wD h
 have sA:(pre++a::(ids++post))[k]'(by simp;omega)=a:=by
  rw[xO (by omega)];simp[hk]
 have sI:∀i (h:i<ids.length),(pre++a::(ids++post))[k+1+i]'(by simp;omega)=ids[i]:=fun i h=>by
  rw[xO (by omega)];simp only[hk,show k+1+i-k=i+1 by omega,wT];exact wD h
 have sQ:∀i (h:i<post.length),(pre++a::(ids++post))[k+1+T.length+i]'(by simp;omega)=post[i]:=fun i h=>by
  rw[xO (by omega)];simp only[hk,show k+1+T.length+i-k=(T.length+i)+1 by omega,wT];rw[xO (by omega)];simp[hl]
 have qI:∀i (h:i<ids.length),bt B (pre++a::(ids++post)) ids[i]=Gp (B+k+1+i):=fun i h=>by
  have:=pp (k+1+i) (by simp;omega)
  rw[sI i h] at this;rw[this (hr i h).1];congr 1;omega
 refine⟨J',?_,g1,⟨hW,?_,fun i hi=>?_⟩,fun i hi bZ ex z cs hg=>?_,fun i hi bZ ex z cs hg=>?_⟩
 .rw [e,ls,hT _ (fun j hj=>Qv _ hj) (fun i h=>by
   have:=pp i (by simp;omega)
   rw[sP i h] at this;exact this (hp0 _ (by simp)).1) (by
   have:=pp k (by simp;omega)
   rw[sA] at this;exact this hBa) (fun i h=>by
   have:=pp (k+1+T.length+i) (by simp;omega)
   rw[sQ i h] at this
   rw[this (hp0 _ (by simp)).1];congr 1;omega)]
 .have:=g2 k (by simp;omega) _ (by rw[sA];exact hm)
  rw[this,VN,adF (B+k+1) (by omega) (fun i h=>qI i h),hl];rfl
 .have:=g2 (k+1+i) (by simp;omega) _ (by rw[sI i (by omega)];exact (hr i (by omega)).2)
  rw[show B+k+1+i=B+(k+1+i) by omega,this,EN]
 .have:=g2 i (by simp;omega) _ (by rw[sP i hi];exact hg)
  rw[this,EN]
 .have:=g2 (k+1+T.length+i) (by simp;omega) _ (by rw[sQ i hi];exact hg)
  rw[show B+k+1+T.length+i=B+(k+1+T.length+i) by omega,this,EN]
end
section
variable {H J:Hp}{j:Nat}
def aoN{b n:Nat}(h:fS b n H)(hj:b<=j):ai H j=none:=by
 induction H with
 | nil=>rfl
 | cons p r ih=>
  obtain⟨i,o⟩:=p
  have:=h.1
  rw[dW _ _ (by omega)];exact ih h.2.2
def oc{B:Nat}(h:fS B B H)(hj:B<=j):ai (J++H) j=ai J j:=by
 induction J with
 | nil=>rw[yy,aoN h hj];rfl
 | cons p r ih=>
  obtain⟨i,o⟩:=p;by_cases e:i=j
  .subst e;rw[yj,iP,iP]
  .rw [yj,dW _ _ e,dW _ _ e,ih]
def aq1{b n:Nat}(h:fS b n H)(hj:b<=j):cE H j=H:=by
 induction H with
 | nil=>rfl
 | cons p r ih=>
  obtain⟨i,o⟩:=p
  have:=h.1
  rw[Cv _ _ (by omega),ih h.2.2]
def Kh{B:Nat}(h:fS B B H)(hj:B<=j):cE (J++H) j=cE J j++H:=by
 induction J with
 | nil=>rw[yy,aq1 h hj];rfl
 | cons p r ih=>
  obtain⟨i,o⟩:=p;by_cases e:i=j
  .subst e;rw[yj,Kc,Kc,ih]
  .rw [yj,Cv _ _ e,Cv _ _ e,ih];rfl
def adG{p:Nat×Obj}(h:p∈cE J j):p∈J:=by
 induction J with
 | nil=>exact h
 | cons q r ih=>
  obtain⟨i,o⟩:=q;by_cases e:i=j
  .subst e;rw[Kc] at h;exact xM _ (ih h)
  .rw [Cv _ _ e] at h;rcases xy.1 h with rfl | h
   .simp
   .exact xM _ (ih h)
end
def zr(r:Nat):Nat:=if r=0 then 0 else 1+r
def rB(B r:Nat):List Nat:=if r=0 then [] else [B+1]
def aCL:zr 0=0:=rfl
def Sh(r:Nat):zr (r+1)=r+2:=by unfold zr;rw[yr (by omega)];omega
def Yy(B:Nat):rB B 0=[]:=rfl
def Yz(B r:Nat):rB B (r+1)=[B+1]:=by unfold rB;rw[yr (by omega)]
section
variable {live:List Nat}{tm tm':Env}{J H:Hp}{ct B r x:Nat}{W:List Nat}{T:List (List AV)}{cs:List AV}
def aq2(hJ:∀p,p∈J->B<=p.1)(ho:fS B B H)(h0:(b7 B H).length<=50000)(hb:∃rw ex z lS,ai J B=Gp (.cells rw ydb ex z lS))(hM:0<r->iw (J++H) (B+1) W T)(hl:T.length=r)(hr:r<=900)(hx:ai J x=Gp (.cells ydb ydb ydc 1 cs))(JI:B+1+zr r<=x)(hE:cJ (bc tm live)=B::(rB B r++[x]))(hT:∀S,bt B S B=Gp B->(0<r->bt B S (B+1)=Gp (B+1))->bt B S x=Gp (B+1+zr r)->dw (bt B S) (bc tm live)=tm'):
  ∃J',bn live ⟨tm,J++H,ct,B⟩=⟨tm',J'++H,B+1+zr r+1,B⟩/\(∀p,p∈J'->B<=p.1)/\(∀rw ex z lS,ai J B=Gp (.cells rw ydb ex z lS)->ai (J'++H) B=Gp (.cells rw ydb ex z lS))/\(0<r->iw (J'++H) (B+1) W T)/\ai (J'++H) (B+1+zr r)=Gp (.cells ydb ydb ydc 1 cs):=by
 cases r with
 | zero=>
  rw[Yy,yy] at hE;rw[aCL] at JI;obtain⟨J',e,g1,g2⟩:=aeM (pre:=[B,x]) (tm':=tm') (ct:=ct) hJ ho h0 hE (fun i hi=>by
   rcases xy.1 hi with rfl | hi
   .exact ⟨yp _,hb⟩
   .rw [xu.1 hi];exact⟨by omega,_,_,_,_,hx⟩) (by simp) (by simp;omega) (fun S _ h=>hT S (h 0 (by simp)) (fun q=>by omega) (h 1 (by simp)))
  exact⟨J',by rw[e];rfl,g1,fun bZ ex z lS h=>g2 0 (by simp) _ _ _ _ h,fun q=>by omega,g2 1 (by simp) _ _ _ _ hx⟩
 | succ r=>
  rw[Yz,uo] at hE;rw[Sh] at JI ⊢;have hM:=hM (by omega);have Iu:T.length=r+1:=hl;obtain⟨J',e,g1,g2,g3,g4⟩:=PB (k:=1) (pre:=[B]) (post:=[x]) (a:=B+1) (ids:=fW (B+1) (r+1)) (W:=W) (T:=T) (tm':=tm') (ct:=ct) hJ ho h0 hE rfl (fun i hi=>by
   rcases xy.1 hi with rfl | hi
   .exact ⟨yp _,hb⟩
   .rw [xu.1 hi];exact⟨by omega,_,_,_,_,hx⟩) (by omega) (by rw[<-oc ho (by omega),hM.m,hl]) (by rw[jj,hl]) hM.l (fun i hi=>by
   rw[zX];rw[jj] at hi;refine⟨by omega,?_⟩;rw[<-oc ho (by omega)];exact hM.r i (by omega)) (by simp;omega) (by
   have iZ:∀j,j∈fW (B+1) (r+1)->B+2<=j/\j<B+2+(r+1):=fun j hj=>by
    have:=ue.1 hj;omega
   rw[uo];refine wm.2 ⟨fun h=>?_,wm.2 ⟨fun h=>?_,ub.2 ⟨uf,by simp,fun a ha b hb=>?_⟩⟩⟩
   .rcases xy.1 h with h | h
    .omega
    .rcases xF.1 h with h | h
     .have:=iZ _ h;omega
     .rw [xu] at h;omega
   .rcases xF.1 h with h | h
    .have:=iZ _ h;omega
    .rw [xu] at h;omega
   .have:=iZ _ ha
    rw[xu] at hb;omega) (fun S _ h1 h2 h3=>hT S (h1 0 (by simp)) (fun _=>h2) (by
    have:=h3 0 (by simp)
    rw[show B+1+1+T.length+0=B+1+(r+2) by omega] at this
    rw[Sh];exact this))
  refine⟨J',by rw[e,show B+(1+1+T.length+[x].length)=B+1+(r+2)+1 by simp;omega],g1,fun bZ ex z lS h=>g3 0 (by simp) _ _ _ _ h,fun _=>g2,?_⟩
  have:=g4 0 (by simp) _ _ _ _ hx
  rwa[show B+1+1+T.length+0=B+1+(r+2) by omega] at this
def aoO(hJ:∀p,p∈J->B<=p.1)(ho:fS B B H)(h0:(b7 B H).length<=50000)(hb:∃rw ex z lS,ai J B=Gp (.cells rw ydb ex z lS))(hM:0<r->iw (J++H) (B+1) W T)(hl:T.length=r)(hr:r<=900)(hE:cJ (bc tm live)=B::rB B r)(hT:∀S,bt B S B=Gp B->(0<r->bt B S (B+1)=Gp (B+1))->dw (bt B S) (bc tm live)=tm'):
  ∃J',bn live ⟨tm,J++H,ct,B⟩=⟨tm',J'++H,B+1+zr r,B⟩/\(∀p,p∈J'->B<=p.1)/\(∀rw ex z lS,ai J B=Gp (.cells rw ydb ex z lS)->ai (J'++H) B=Gp (.cells rw ydb ex z lS))/\(0<r->iw (J'++H) (B+1) W T):=by
 cases r with
 | zero=>
  rw[Yy] at hE;obtain⟨J',e,g1,g2⟩:=aeM (pre:=[B]) (tm':=tm') (ct:=ct) hJ ho h0 hE (fun i hi=>by
   rw[xu.1 hi];exact⟨yp _,hb⟩) (by simp) (by simp) (fun S _ h=>hT S (h 0 (by simp)) (fun q=>by omega))
  exact⟨J',by rw[e];rfl,g1,fun bZ ex z lS h=>g2 0 (by simp) _ _ _ _ h,fun q=>by omega⟩
 | succ r=>
  rw[Yz] at hE;rw[Sh];have hM:=hM (by omega);obtain⟨J',e,g1,g2,g3,g4⟩:=PB (k:=1) (pre:=[B]) (post:=[]) (a:=B+1) (ids:=fW (B+1) (r+1)) (W:=W) (T:=T) (tm':=tm') (ct:=ct) hJ ho h0 hE rfl (fun i hi=>by
   have cZ:i=B:=by simpa using hi
   rw[cZ];exact⟨yp _,hb⟩) (by omega) (by rw[<-oc ho (by omega),hM.m,hl]) (by rw[jj,hl]) hM.l (fun i hi=>by
   rw[zX];rw[jj] at hi;refine⟨by omega,?_⟩;rw[<-oc ho (by omega)];exact hM.r i (by omega)) (by simp;omega) (by
   have iZ:∀j,j∈fW (B+1) (r+1)->B+2<=j/\j<B+2+(r+1):=fun j hj=>by
    have:=ue.1 hj;omega
   rw[uo,xU];refine wm.2 ⟨fun h=>?_,wm.2 ⟨fun h=>?_,uf⟩⟩
   .rcases xy.1 h with h | h
    .omega
    .have:=iZ _ h;omega
   .have:=iZ _ h;omega) (fun S _ h1 h2 _=>hT S (h1 0 (by simp)) (fun _=>h2))
  exact⟨J',by rw[e,show B+(1+1+T.length+([]:List Nat).length)=B+1+(r+2) by simp;omega],g1,fun bZ ex z lS h=>g3 0 (by simp) _ _ _ _ h,fun _=>g2⟩
end
def n7(m:List (List Rat)):List (List (List Nat)):=m.map fun r=>r.map RT
def jO(m:List (List Rat)):Rat:=fw 0 (m.map (fw 0))
def jt(p:Nat->Nat->Rat)(S n r:Nat):List Rat:=(xY n).map fun k=>p k r
def fb(p:Nat->Nat->Rat)(S n:Nat):List (List Rat):=(xY n).map fun r=>jt p S S r
def Vv(m:List (List Rat)):(n7 m).length=m.length:=by simp[n7]
def adH(p:Nat->Nat->Rat)(S n r:Nat):(jt p S n r).length=n:=by simp[jt]
def Ki(p:Nat->Nat->Rat)(S n:Nat):(fb p S n).length=n:=by simp[fb]
def acz(p:Nat->Nat->Rat)(S n r:Nat):jt p S (n+1) r=jt p S n r++[p n r]:=by unfold jt;rw[vt,xg];rfl
def acA(p:Nat->Nat->Rat)(S n:Nat):fb p S (n+1)=fb p S n++[jt p S S n]:=by unfold fb;rw[vt,xg];rfl
def acB(s:Rat)(l:List Rat)(x:Rat):fw s (l++[x])=fw s l+x:=by
 induction l generalizing s with
 | nil=>rfl
 | cons y l ih=>exact ih (s+y)
def aeN(p:Nat->Nat->Rat){S r:Nat}:∀n,n<=S->bH (fun t=>p (t%S) (t/S)) (r*S+n)=bH (fun t=>p (t%S) (t/S)) (r*S)+fw 0 (jt p S n r)
 | 0,_=>by show _=_+(0:Rat);rw[Rat.add_zero];rfl
 | n+1,hn=>by
  rw[acz,acB,<-Rat.add_assoc,<-aeN p n (by omega),<-Nat.add_assoc];show bH _ (r*S+n)+p ((r*S+n)%S) ((r*S+n)/S)=_
  rw[PX (by omega),PY (by omega)]
def P0(p:Nat->Nat->Rat){S:Nat}:∀n,bH (fun t=>p (t%S) (t/S)) (n*S)=jO (fb p S n)
 | 0=>by rw[wC];rfl
 | n+1=>by
  have e:=aeN p (S:=S) (r:=n) S (yp S);rw[xR,tZ,e,P0 p n];unfold jO;rw[acA,xg,xb,vd,acB]
def azE(h:Rp P L)(p6:Has P L 800 Dh){v:AV}{r:List Rat}{K:Nat}(hv:fO v (r.map RT))(hl:r.length<=8)(kl:∀x,x∈r->Hq K x)(hK:K<=100000):ab P L 800 [v] (.str (RT (fw 0 r))):=by
 have hz:(AV.str [48])=.str (RT 0):=rfl;have hlen:(r.map RT).length=r.length:=yS _;have hn:=hv.len (hp:=[]);have hm:r.length*(K+1)<=8*(100000+1):=xf hl (by omega);have key:=gV P L [0,3,4] La
  (fun d st=>∃i:Nat,i+d=r.length/\st=⟨[(0,v),(3,.str (RT (fw 0 (r.take i)))),(4,aa i)],[],0,0⟩)
  (fun ex st=>∃tm ct,st=⟨tm,[],ct,0⟩/\ex=.exit 0/\ak tm 3=.str (RT (fw 0 r))) ?_
 .unfold ab;rw[aD p6];simp only[go_sem,Dh,hz];generalize hq:D P L (.loop _ La) _=q;obtain⟨ex,st,rfl,tm,ct,rfl,rfl,t3⟩:=bL hq (key r.length) ⟨0,by omega,by simp only[go_sem,ya,ax,aG hv.pu]<;>rfl⟩
  simp only[go_sem,ax,t3]
 .rintro d st ⟨i,hid,rfl⟩;by_cases hi:i<r.length
  .left
   have e0:=hv.bk (i:=i) (by omega);rw[vj] at e0;have e1:=LF h (Pz (K:=K) (M:=40) V4 kl i) (kl _ (xI hi)) (by omega);have e2:fw 0 (r.take (i+1))=fw 0 (r.take i)+r[i]:=Up hi;unfold ab at e1;simp only[go_sem,ya,La,hv.len,hlen,show (i:Int)<r.length by omega,e0,e1];refine⟨_,d-1,rfl,by omega,i+1,by omega,?_⟩;rw[wrap64 (by omega) (by omega),e2];simp only[go_sem,ya,ax,aG hv.pu]<;>rfl
  .right
   simp only[go_sem,ya,La,hv.len,hlen,show ¬(i:Int)<r.length by omega];refine⟨_,_,rfl,by simp,_,_,rfl,rfl,?_⟩;rw[yE (by omega)];simp only[go_sem,ya]
def WU(h:Rp P L)(p6:Has P L 800 Dh)(zj:Has P L 789 Fq){v:AV}{m:List (List Rat)}{K:Nat}(hv:cC fO v (n7 m))(hl:m.length<=8)(hr:∀r,r∈m->r.length<=8/\∀x,x∈r->Hq K x)(hK:K<=100000):ab P L 789 [v] (.str (RT (jO m))):=by
 have hz:(AV.str [48])=.str (RT 0):=rfl;have hlen:=Vv m;have kr:∀x,x∈m.map (fw 0)->Hq (40+8*(K+1)) x:=fun x hx=>by
  obtain⟨r,bg,rfl⟩:=wJ.1 hx;obtain⟨q1,q2⟩:=hr r bg
  have:=Pz (i:=r.length) V4 q2
  rw[xL] at this;exact this.mono (Nat.add_le_add_left (yO _ q1) _)
 have hm:(m.map (fw 0)).length*(40+8*(K+1)+1)<=8*(40+8*(K+1)+1):=yO _ (by rw[yS];exact hl)
 have key:=gV P L [0,3,4] K7
  (fun d st=>∃i:Nat,i+d=m.length/\st=⟨[(0,v),(3,.str (RT (fw 0 ((m.map (fw 0)).take i)))),(4,aa i)],[],0,0⟩)
  (fun ex st=>∃tm ct,st=⟨tm,[],ct,0⟩/\ex=.exit 0/\ak tm 3=.str (RT (jO m))) ?_
 .unfold ab;rw[aD zj];simp only[go_sem,Fq,hz];generalize hq:D P L (.loop _ K7) _=q;obtain⟨ex,st,rfl,tm,ct,rfl,rfl,t3⟩:=bL hq (key m.length) ⟨0,by omega,by simp only[go_sem,ya,ax,aG hv.pu]<;>rfl⟩
  simp only[go_sem,ax,t3]
 .rintro d st ⟨i,hid,rfl⟩;by_cases hi:i<m.length
  .left
   obtain⟨w,rest,hw,e0⟩:=hv.bk (i:=i) (by omega);have hw:fO w (m[i].map RT):=by
    have:(n7 m)[i]'(by omega)=m[i].map RT:=by unfold n7;rw[vj]
    rwa[this] at hw
   obtain⟨q1,q2⟩:=hr _ (xI hi);have e3:=azE h p6 hw q1 q2 hK;have e1:=LF h (Pz (K:=40+8*(K+1)) (M:=40) V4 kr i) (kr _ (List.mem_map_of_mem (xI hi))) (by omega);have e2:fw 0 ((m.map (fw 0)).take (i+1))=fw 0 ((m.map (fw 0)).take i)+fw 0 m[i]:=by
    rw[Up (by rw[yS];exact hi),vj]
   unfold ab at e1 e3;simp only[go_sem,ya,K7,hv.len,hlen,show (i:Int)<m.length by omega,e0,hw.aj,e3,e1];refine⟨_,d-1,rfl,by omega,i+1,by omega,?_⟩;rw[wrap64 (by omega) (by omega),e2];simp only[go_sem,ya,ax,aG hv.pu]<;>rfl
  .right
   simp only[go_sem,ya,K7,hv.len,hlen,show ¬(i:Int)<m.length by omega];refine⟨_,_,rfl,by simp,_,_,rfl,rfl,?_⟩;rw[yE (by rw[yS];omega)];simp only[go_sem,ya];rfl
def aiT(h:Rm P L)(AD:Has P L 801 Fs){C R S i:Nat}(hS:S<=8)(hi:i<=8):ab P L 801 [.agg [aa C,aa R,aa S],aa i] (.str (RT (rP S i))):=by
 have e:=WE h (a:=2*(i:Int)+1-(S:Int)) (b:=2) (by omega) (by omega);rw[Rat.divInt_eq_div] at e;unfold ab at e;unfold rP;unfold ab;rw[aD AD]
 simp only[go_sem,ya,yb,Fs,aQ,aY,yd,yf,yH,wrap64 (n:=2*(i:Int)) (by omega) (by omega),wrap64 (n:=2*(i:Int)+1) (by omega) (by omega),wrap64 (n:=2*(i:Int)+1-(S:Int)) (by omega) (by omega),e]
def da(C R S:Nat):Obj:=.cells ydb ydb ydb 3 [aa C,aa R,aa S]
def Ed(C R S:Nat):List AV->List AV->List AV->List AV->List AV->List AV->Hp
 | [],_,_,a,b,c=>[(3,.cells ydb ydb ydb 1 c),(2,.cells ydb ydb ydb 1 b),(1,.cells ydb ydb ydb 1 a),(0,da C R S)]
 | x::l,m,n,a,b,c=>[(6,.cells ydb ydb ydb 1 c),(5,.cells ydb ydb ydb 1 b),(4,.cells ydb ydb ydb 1 a),(3,.cells ydb ydb ydc 1 n),(2,.cells ydb ydb ydc 1 m),(1,.cells ydb ydb ydc 1 (x::l)),(0,da C R S)]
section
variable {v:AV}{C K R S r:Nat}
def cX(p:Nat->Nat->Rat)(S t:Nat):Rat:=rP S (t%S)*p (t%S) (t/S)
def cY(p:Nat->Nat->Rat)(S t:Nat):Rat:=rP S (t/S)*p (t%S) (t/S)
def axD(p:Nat->Nat->Rat){k:Nat}(hk:k<S):cX p S (r*S+k)=rP S k*p k r/\cY p S (r*S+k)=rP S r*p k r:=by
 unfold cX cY;rw[PX hk,PY hk];exact⟨rfl,rfl⟩
section
variable {p:Nat->Nat->Rat}{S K:Nat}(hS:S<=8)(hK:K<=3000)(kp:∀a b,a<S->b<S->Hq K (p a b))
include hS hK kp
theorem WV{t:Nat}(ht:t<S*S):Hq 3080 (cX p S t)/\Hq 3080 (cY p S t):=by
 obtain⟨l1,l2⟩:=C9 ht;have k1:=kp _ _ l1 l2;exact⟨((CW hS (by omega)).mul k1).mono (by omega),((CW hS (by omega)).mul k1).mono (by omega)⟩
theorem WW{n:Nat}(hn:n<=S*S):Hq 200000 (bH (cX p S) n)/\Hq 200000 (bH (cY p S) n):=by
 have Ge:S*S<=64:=xf hS hS;have h1:n*(3080+1)<=64*(3080+1):=yO _ (by omega)
 exact⟨(E7 (N:=S*S) (fun t ht=>(WV hS hK kp ht).1) hn).mono (by omega),(E7 (N:=S*S) (fun t ht=>(WV hS hK kp ht).2) hn).mono (by omega)⟩
theorem QA:Hq 200000 (jO (fb p S S)):=by
 have Ge:S*S<=64:=xf hS hS;rw[<-P0 p S];have h1:S*S*(K+1)<=64*(K+1):=yO _ Ge
 exact (E7 (N:=S*S) (fun t ht=>by
  obtain⟨l1,l2⟩:=C9 ht
  exact kp _ _ l1 l2) (yp _)).mono (by omega)
omit hK in
theorem Vw:∀r,r∈fb p S S->r.length<=8/\∀x,x∈r->Hq K x:=fun r hr=>by
 obtain⟨a,ha,rfl⟩:=wJ.1 hr;have ha:=wW.1 ha;refine⟨by rw[adH];exact hS,fun x hx=>?_⟩
 obtain⟨b,hb,rfl⟩:=wJ.1 hx;exact kp _ _ (wW.1 hb) ha
end
def aq3{p:Nat->Nat->Rat}{k:Nat}(hk:k<(jt p S S r).length):(jt p S S r)[k]=p k r:=by simp[jt]
def atM{p:Nat->Nat->Rat}(hr:r<(n7 (fb p S S)).length):(n7 (fb p S S))[r]=(jt p S S r).map RT:=by simp[n7,fb]
def lE:Obj:=.cells ydb ydb ydb 2 [.str [],.str []]
def p7(v:AV)(x y:Rat)(r:Nat):Env:=[(1,v),(2,.ptr 0 0),(4,.ptr 1 0),(5,.str (RT x)),(6,.str (RT y)),(7,aa r)]
def axE(h:Rn P L)(AD:Has P L 801 Fs){p:Nat->Nat->Rat}(hS:S<=8)(hK:K<=3000)(kp:∀a b,a<S->b<S->Hq K (p a b))(hv:cC fO v (n7 (fb p S S)))(hr:r<S):
  c6 P L [1,2,4,5,6,7,8] K8 (fun d st=>∃k,k+d=S/\st=⟨p7 v (bH (cX p S) (r*S+k)) (bH (cY p S) (r*S+k)) r++[(8,aa k)],[(1,lE),(0,da C R S)],2,0⟩) (fun ex s'=>∃tm ct,s'=⟨tm,[(1,lE),(0,da C R S)],ct,0⟩/\ex=.exit 2/\bc tm [1,2,4,5,6,7]=p7 v (bH (cX p S) ((r+1)*S)) (bH (cY p S) ((r+1)*S)) r):=by
 apply c9;rintro d st ⟨k,Tb,rfl⟩;have hlen:(n7 (fb p S S)).length=S:=by rw[Vv,Ki]
 by_cases hk:k<S
 .left
  have ZH:r*S+k<S*S:=by
   have:=yO S (show r+1<=S from hr)
   rw[xR] at this;omega
  obtain⟨w,rest,hw,e0⟩:=hv.bk (i:=r) (by omega);rw[atM] at hw;have e1:=hw.bk (i:=k) (by rw[yS,adH];exact hk)
  rw[vj,aq3] at e1;obtain⟨f1,f2⟩:=axD p (r:=r) hk;obtain⟨b1,b2⟩:=WW hS hK kp (n:=r*S+k) (by omega);have e2:=aiT (P:=P) (L:=L) h.toRm AD (C:=C) (R:=R) (S:=S) (i:=k) hS (by omega);have e3:=aiT (P:=P) (L:=L) h.toRm AD (C:=C) (R:=R) (S:=S) (i:=r) hS (by omega);have e4:=Hr h (CW hS (show k<=8 by omega)) (kp _ _ hk hr) (by omega);have e5:=Hr h (CW hS (show r<=8 by omega)) (kp _ _ hk hr) (by omega);rw[<-f1] at e4;rw[<-f2] at e5;obtain⟨b3,b4⟩:=WV hS hK kp ZH;have e6:=LF h.toRp b1 b3 (by decide);have e7:=LF h.toRp b2 b4 (by decide);have e8:bH (cX p S) (r*S+k)+cX p S (r*S+k)=bH (cX p S) (r*S+(k+1)):=rfl;have e9:bH (cY p S) (r*S+k)+cY p S (r*S+k)=bH (cY p S) (r*S+(k+1)):=rfl;rw[e8] at e6;rw[e9] at e7;have fz:=lh;unfold ab at e2 e3 e4 e5 e6 e7
  simp only[go_sem,ya,K8,p7,da,lE,yj,yy,aY,yd,yf,yH,fB,fz,show (k:Int)<S by omega,e0,e1,e2,e3,e4,e5,e6,e7];refine⟨_,d-1,rfl,by omega,k+1,by omega,?_⟩;rw[wrap64 (by omega) (by omega)];simp only[go_sem,ya,yb,ax,aG hv.pu,yj,yy]<;>rfl
 .right
  have NO:k=S:=by omega
  subst NO;simp only[go_sem,ya,K8,p7,da,lE,yj,yy,aY,yd,yf,yH,show ¬(k:Int)<k by omega];refine⟨_,_,rfl,by simp,_,_,rfl,rfl,?_⟩;rw[xR,tZ];simp only[go_sem,ya]<;>rfl
def axF(h:Rn P L)(AD:Has P L 801 Fs){p:Nat->Nat->Rat}(hS:S<=8)(hK:K<=3000)(kp:∀a b,a<S->b<S->Hq K (p a b))(hv:cC fO v (n7 (fb p S S))):
  c6 P L [1,2,4,5,6,7] K9 (fun d st=>∃r,r+d=S/\st=⟨p7 v (bH (cX p S) (r*S)) (bH (cY p S) (r*S)) r,[(1,lE),(0,da C R S)],2,0⟩) (fun ex s'=>∃tm ct,s'=⟨tm,[(1,lE),(0,da C R S)],ct,0⟩/\ex=.exit 0/\bc tm [1,4,5,6]=[(1,v),(4,.ptr 1 0),(5,.str (RT (bH (cX p S) (S*S)))),(6,.str (RT (bH (cY p S) (S*S))))]):=by
 apply c9;rintro d st ⟨r,fN,rfl⟩;by_cases hr:r<S
 .left
  have key:=axE (C:=C) (R:=R) h AD hS hK kp hv hr;simp only[go_sem,ya,K9,p7,da,lE,aY,yd,yf,yH,show (r:Int)<S by omega];generalize hq:D P L (.loop _ K8) _=q;obtain⟨ex,st,rfl,tm,ct,rfl,rfl,lX⟩:=bL hq (key S) ⟨0,by omega,by simp only[go_sem,ya,yb,ax,p7,da,lE,aG hv.pu,yX,yj,yy]<;>rfl⟩
  have hc:∀ct,bn [1,2,4,5,6,7] ⟨tm,[(1,lE),(0,da C R S)],ct,0⟩=⟨p7 v (bH (cX p S) ((r+1)*S)) (bH (cY p S) ((r+1)*S)) r,[(1,lE),(0,da C R S)],2,0⟩:=fun ct=>by
   refine ybl (NX (c':=ct) (tm':=p7 v (bH (cX p S) ((r+1)*S)) (bH (cY p S) ((r+1)*S)) r) (by rw[lX];rfl)) ?_
   simp only[go_sem,ya,yb,ax,p7,da,lE,aG hv.pu]<;>rfl
  simp only[go_sem,ya,hc,p7];refine⟨_,d-1,rfl,by omega,r+1,by omega,?_⟩;rw[wrap64 (by omega) (by omega)];simp only[go_sem,ya,yb,ax,da,lE,aG hv.pu]<;>rfl
 .right
  have NP:r=S:=by omega
  subst NP;simp only[go_sem,ya,K9,p7,da,lE,aY,yd,yf,yH,show ¬(r:Int)<r by omega];exact⟨_,_,rfl,by simp,_,_,rfl,rfl,by simp only[go_sem,ya]<;>rfl⟩
def aCM(h:Rx P L)(zj:Has P L 789 Fq)(YA:Has P L 790 RG)(p6:Has P L 800 Dh)(AD:Has P L 801 Fs){p:Nat->Nat->Rat}(hS:S<=8)(hK:K<=3000)(kp:∀a b,a<S->b<S->Hq K (p a b))(hv:cC fO v (n7 (fb p S S)))(h0:jO (fb p S S)≠0):
  ab P L 790 [.agg [aa C,aa R,aa S],v] (.agg [.str (RT (bH (cX p S) (S*S)/jO (fb p S S))),.str (RT (bH (cY p S) (S*S)/jO (fb p S S)))]):=by
 have key:=axF (C:=C) (R:=R) h.toRn AD hS hK kp hv;have e1:=WU h.toRp p6 zj hv (by rw[Ki];exact hS) (Vw hS kp) (by omega)
 obtain⟨b1,b2⟩:=WW hS hK kp (yp _);have e2:=ag4 h b1 (QA hS hK kp) (by decide) h0;have e3:=ag4 h b2 (QA hS hK kp) (by decide) h0;have hz:(AV.str [48])=.str (RT 0):=rfl;have qj:bH (cX p S) (0*S)=0:=by rw[wC];rfl
 have fZ:bH (cY p S) (0*S)=0:=by rw[wC];rfl
 have cQ:∀ct,zc ct 2 [.str [],.str []]=Gp (.ptr ct 0,lE):=fun _=>rfl
 unfold ab at e1 e2 e3;unfold ab;rw[aD YA];simp only[go_sem,yb,RG,jN,cQ,hz];generalize hq:D P L (.loop _ K9) _=q;obtain⟨ex,st,rfl,tm,ct,rfl,rfl,lX⟩:=bL hq (key S) ⟨0,by omega,by
  simp only[go_sem,ya,yb,ax,p7,da,lE,aG hv.pu,qj,fZ]<;>rfl⟩
 have hc:∀ct,bn [1,4,5,6] ⟨tm,[(1,lE),(0,da C R S)],ct,0⟩=⟨[(1,v),(4,.ptr 0 0),(5,.str (RT (bH (cX p S) (S*S)))),(6,.str (RT (bH (cY p S) (S*S))))],[(0,lE)],1,0⟩:=fun ct=>by
  refine ybl (NX (c':=ct) (tm':=[(1,v),(4,.ptr 1 0),(5,.str (RT (bH (cX p S) (S*S)))),(6,.str (RT (bH (cY p S) (S*S))))]) (by rw[lX];rfl)) ?_
  simp only[go_sem,ya,yb,ax,da,lE,aG hv.pu]<;>rfl
 generalize RT (bH (cX p S) (S*S)/jO (fb p S S))=w1 at*
 generalize RT (bH (cY p S) (S*S)/jO (fb p S S))=w2 at*
 have cm:∀(tm:Env) (a:List Nat) (r:List (Nat×Nat×X)),kX tm [.str [],.str []] 0 1 [.str a] r=fill tm [.str a,.str []] r:=fun tm a r=>by
  rw[Pk (by simp) rfl];rfl
 have aCN:∀(tm:Env) (a b:List Nat) (r:List (Nat×Nat×X)),kX tm [.str a,.str []] 1 1 [.str b] r=fill tm [.str a,.str b] r:=fun tm a b r=>by
  rw[Pk (by simp) rfl];rfl
 have aR:∀(hp:Hp) (ct id:Nat) (a b:List Nat),gD hp ct id 0 2 [.str a,.str b] (Gp (.cells ydb ydb ydb 2 [.str [],.str []]))=Gp (.av [],aU hp id (.cells ydb ydb ydb 2 [.str a,.str b]),ct):=fun _ _ _ _ _=>rfl
 simp only[go_sem,hc];simp only[lE];simp only[go_sem,ya,hv.aj,e1,e2,e3,cm,aCN,aR,yf,cR,cS];rfl
end
section
variable {tm tm':Env}{H J:Hp}{T:List (List AV)}{F:List (List Nat)}{cs:List AV}{W live:List Nat}{B C R S ct r:Nat}
def gj(p:Nat->Nat->Rat)(S n r:Nat):List AV:=(jt p S n r).map fun x=>.str (RT x)
def CL(p:Nat->Nat->Rat)(S n r:Nat):(gj p S n r).length=n:=by simp[gj,jt]
def aq4(p:Nat->Nat->Rat)(S n r:Nat):gj p S (n+1) r=gj p S n r++[.str (RT (p n r))]:=by unfold gj;rw[acz,xg];rfl
def afA(p:Nat->Nat->Rat)(S n r:Nat):aF (gj p S n r)=ydb:=by
 unfold gj
 induction jt p S n r with
 | nil=>rfl
 | cons x l ih=>exact ih
def o9(B r:Nat):AV:=if r=0 then .ah else .aq (B+1) 0 r
def aCO(B:Nat):o9 B 0=.ah:=rfl
def YB(B r:Nat):o9 B (r+1)=.aq (B+1) 0 (r+1):=by unfold o9;rw[yr (by omega)]
def mZ(v:AV)(B a b r:Nat):Env:=[(1,v),(3,.ptr B 0),(7,aa a),(8,aa b),(9,o9 B r),(10,aa r)]
structure eV(H J:Hp)(B C R S r:Nat)(W:List Nat)(T:List (List AV)):Prop where
 hJ:∀p,p∈J->B<=p.1
 bx:ai (J++H) B=Gp (da C R S)
 m:0<r->iw (J++H) (B+1) W T
 l:T.length=r
def PC(B r:Nat):refs (o9 B r)=rB B r:=by
 cases r with
 | zero=>rfl
 | succ r=>rw[YB,Yz];rfl
def P1{f:Nat->Option Nat}(h:0<r->f (B+1)=Gp (B+1)):bq f (o9 B r)=o9 B r:=by
 cases r with
 | zero=>rfl
 | succ r=>rw[YB];simp[bq,h (by omega)]
def QB{i:Nat}(h:i<r):i+1<zr r:=by
 unfold zr;rw[yr (by omega)];omega
def eV.mono{J2:Hp}(hM:eV H J B C R S r W T)(hJ:∀p,p∈J2->B<=p.1)(hg:∀j,j<B+1+zr r->ai (J2++H) j=ai (J++H) j):eV H J2 B C R S r W T:=
 ⟨hJ,by rw[hg B (by omega)];exact hM.bx,fun h0=>by
  have m:=hM.m h0;have h1:=QB h0;refine⟨m.l,by rw[hg _ (by omega)];exact m.m,fun i hi=>?_⟩
  have h2:=QB (r:=r) (i:=i) (by rw[<-hM.l];exact hi)
  rw[hg _ (by omega)];exact m.r i hi,hM.l⟩
def eV.cons{id:Nat}{o:Obj}(hM:eV H J B C R S r W T)(h:B+1+zr r<=id):eV H ((id,o)::J) B C R S r W T:=
 hM.mono (fun p hp=>by
  rcases xy.1 hp with rfl | hp
  .show B<=id;omega
  .exact hM.hJ p hp) fun j hj=>by rw[yj,dW _ _ (by omega)]
def eV.del{id:Nat}(hM:eV H J B C R S r W T)(ho:fS B B H)(h:B+1+zr r<=id):eV H (cE J id) B C R S r W T:=
 hM.mono (fun p hp=>hM.hJ p (adG hp)) fun j hj=>by rw[<-Kh ho (by omega),Cr,yr (by omega)]
def eV.row{x:Nat}(hM:eV H J B C R S r W T)(ho:fS B B H)(h0:(b7 B H).length<=50000)(hr:r<=900)(hx:ai (J++H) x=Gp (.cells ydb ydb ydc 1 cs))(JI:B+1+zr r<=x)(hE:cJ (bc tm live)=B::(rB B r++[x]))(hT:∀S,bt B S B=Gp B->(0<r->bt B S (B+1)=Gp (B+1))->bt B S x=Gp (B+1+zr r)->dw (bt B S) (bc tm live)=tm'):
  ∃J',bn live ⟨tm,J++H,ct,B⟩=⟨tm',J'++H,B+1+zr r+1,B⟩/\eV H J' B C R S r W T/\ai (J'++H) (B+1+zr r)=Gp (.cells ydb ydb ydc 1 cs):=by
 have hb:ai J B=Gp (da C R S):=by rw[<-oc ho (yp B)];exact hM.bx
 obtain⟨J',e,g1,g2,g3,g4⟩:=aq2 (ct:=ct) (tm':=tm') hM.hJ ho h0 ⟨_,_,_,_,hb⟩ hM.m hM.l hr (by rw[<-oc ho (by omega)];exact hx) JI hE hT
 exact⟨J',e,⟨g1,g2 _ _ _ _ hb,g3,hM.l⟩,g4⟩
def eV.fin{x k e:Nat}{Q:Hp->Prop}(hM:eV H J B C R S r W T)(ho:fS B B H)(h0:(b7 B H).length<=50000)(hr:r<=900)(hx:ai (J++H) x=Gp (.cells ydb ydb ydc 1 cs))(JI:B+1+zr r<=x)(hk:k+1+e=S)(hE:cJ (bc tm live)=B::(rB B r++[x]))(hT:∀S,bt B S B=Gp B->(0<r->bt B S (B+1)=Gp (B+1))->bt B S x=Gp (B+1+zr r)->dw (bt B S) (bc tm live)=tm'):
  ∃J',k+1+e=S/\eV H J' B C R S r W T/\((k+1=0/\Q J')\/(0<k+1/\bn live ⟨tm,J++H,ct,B⟩=⟨tm',J'++H,B+1+zr r+1,B⟩/\ai (J'++H) (B+1+zr r)=Gp (.cells ydb ydb ydc 1 cs))):=by
 obtain⟨J',g1,g2,g3⟩:=hM.row (ct:=ct) (tm':=tm') ho h0 hr hx JI hE hT;exact⟨J',hk,g2,.inr ⟨by omega,g1,g3⟩⟩
def eV.aiU(hM:eV H J B C R S r W T)(ho:fS B B H)(h0:(b7 B H).length<=50000)(hr:r<=900)(hE:cJ (bc tm live)=B::rB B r)(hT:∀S,bt B S B=Gp B->(0<r->bt B S (B+1)=Gp (B+1))->dw (bt B S) (bc tm live)=tm'):
  ∃J',bn live ⟨tm,J++H,ct,B⟩=⟨tm',J'++H,B+1+zr r,B⟩/\eV H J' B C R S r W T:=by
 have hb:ai J B=Gp (da C R S):=by rw[<-oc ho (yp B)];exact hM.bx
 obtain⟨J',e,g1,g2,g3⟩:=aoO (ct:=ct) (tm':=tm') hM.hJ ho h0 ⟨_,_,_,_,hb⟩ hM.m hM.l hr hE hT;exact⟨J',e,⟨g1,g2 _ _ _ _ hb,g3,hM.l⟩⟩
def atN(h:Fy P L){v:AV}{n m c:Nat}(hv:cC dD v F)(hF:gh F n m)(hc:c<m)(hr:r<n):∃w rest bits,gH 1 r v=Gp (.bC (w::rest))/\(∃Qz,gH 1 c w=Gp (.bC (.aw .f32 bits::Qz)))/\ab P L 429 [.aw .f32 bits] (.str (RT (fP F c r))):=by
 obtain⟨bg,iv,e,f1,f2⟩:=hF.at hr hc;obtain⟨w,rest,hw,e0⟩:=hv.bk bg;have hw:cp w (dQ F[r]):=hw;have e1:=hw.bk (i:=c) (by simpa using iv);rw[GJ iv] at e1;obtain⟨s,M,hb,eq⟩:=Qw f2 f1
 have:=aBS h hb
 rw[<-eq,<-e] at this;exact⟨w,rest,_,e0,⟨_,e1⟩,this⟩
def axG(h:Fy P L){v:AV}{a b:Nat}(hv:cC dD v F)(hF:gh F (R*S) (C*S))(hC:C<=8)(hR:R<=8)(hS:S<=8)(fF:0<S)(ha:a<C)(hb:b<R)(hr:r<S)(ho:fS B B H)(h0:(b7 B H).length<=50000):
  c6 P L [1,3,7,8,9,10,11,12] Hd (fun d st=>∃k J,k+d=S/\eV H J B C R S r W T/\((k=0/\st=⟨mZ v B a b r++[(11,.ah),(12,aa k)],J++H,B+1+zr r,B⟩)\/(0<k/\st=⟨mZ v B a b r++[(11,.aq (B+1+zr r) 0 k),(12,aa k)],J++H,B+1+zr r+1,B⟩/\ai (J++H) (B+1+zr r)=Gp (.cells ydb ydb ydc 1 (gj (fun k r=>fP F (a*S+k) (b*S+r)) S k r))))) (fun ex s'=>∃tm J ct,s'=⟨tm,J++H,ct,B⟩/\ex=.exit 2/\eV H J B C R S r W T/\ai (J++H) (B+1+zr r)=Gp (.cells ydb ydb ydc 1 (gj (fun k r=>fP F (a*S+k) (b*S+r)) S S r))/\bc tm [1,3,7,8,9,10,11]=mZ v B a b r++[(11,.aq (B+1+zr r) 0 S)]):=by
 apply c9;rintro d st ⟨k,J,Tb,hM,aR⟩;have jW:=hM.bx;simp only[da] at jW;by_cases hk:k<S
 .left
  have hbS:b*S<=8*8:=xf (by omega) hS;have haS:a*S<=8*8:=xf (by omega) hS;obtain⟨w,rest,bits,e0,⟨Qz,e1⟩,e2⟩:=atN h hv hF (lL ha hk) (lL hb hr);have q1:(b:Int)*(S:Int)=((b*S:Nat):Int):=by rw[xS]
  have q2:(a:Int)*(S:Int)=((a*S:Nat):Int):=by rw[xS]
  have q3:((b*S:Nat):Int)+(r:Int)=((b*S+r:Nat):Int):=by omega
  have q4:((a*S:Nat):Int)+(k:Int)=((a*S+k:Nat):Int):=by omega
  have w1:IntKind.wrap .i64 ((b*S:Nat):Int)=((b*S:Nat):Int):=wrap64 (by omega) (by omega);have w2:IntKind.wrap .i64 ((a*S:Nat):Int)=((a*S:Nat):Int):=wrap64 (by omega) (by omega);have w3:IntKind.wrap .i64 ((b*S+r:Nat):Int)=((b*S+r:Nat):Int):=wrap64 (by omega) (by omega);have w4:IntKind.wrap .i64 ((a*S+k:Nat):Int)=((a*S+k:Nat):Int):=wrap64 (by omega) (by omega);have w5:IntKind.wrap .i64 ((k:Int)+1)=((k+1:Nat):Int):=wrap64 (by omega) (by omega);have fZ:(k:Int)<S:=by omega
  have qD:=aq4 (fun k r=>fP F (a*S+k) (b*S+r)) S k r;have aGr:∃rw ex z lS,ai J B=Gp (.cells rw ydb ex z lS):=⟨_,_,_,_,by rw[<-oc ho (yp B)];exact hM.bx⟩
  have fX:=afA (fun k r=>fP F (a*S+k) (b*S+r)) S k r;have sB:=CL (fun k r=>fP F (a*S+k) (b*S+r)) S k r;unfold ab at e2;generalize RT (fP F (a*S+k) (b*S+r))=tx at*
  rcases aR with ⟨mF,rfl⟩ | ⟨mF,rfl,hx⟩
  .subst mF;simp only[go_sem,ya,xp,yx,yi,ym,Hd,mZ,yj,yy,jW,aY,yd,yH,yf,fZ,q1,q2,q3,q4,w1,w2,w3,w4,e0,e1,ml,e2,iB,iA,w5];refine⟨_,d-1,rfl,by omega,0+1,?_⟩;rw[qD]
   refine eV.fin (J:=(B+1+zr r+1,.cells ydb ydb ydc 1 [.str tx])::(B+1+zr r,.cells ydb ydb ydb 1 [.str tx])::J) (x:=B+1+zr r+1) ((hM.cons (yp _)).cons (by omega)) ho h0 (by omega) (by rw[yj,iP];rfl) (by omega) (by omega) ?_ ?_
   .simp only [go_sem,ya,eW hv.pu,PC]
   .intro S' s1 s2 s3;simp only[go_sem,ya,yb,s1,s3,P1 s2,jB _ hv.pu]<;>rfl
  .generalize B2:gj (fun k r=>fP F (a*S+k) (b*S+r)) S k r=cs at*
   simp only[go_sem,ya,yi,ym,Hd,mZ,yj,yy,jW,aY,yd,yH,yf,fZ,q1,q2,q3,q4,w1,w2,w3,w4,e0,e1,ml,e2,iB]
   rw[gG (sz:=1) (ex:=ydc) (pu:=ydb) (cs:=cs) (by rw[dW _ _ (by omega)];exact hx) (by rw[sB];omega) (by omega) (by omega) (by decide) (by simp only[go_sem])]
   simp only[go_sem,ya,w5];refine⟨_,d-1,rfl,by omega,k+1,?_⟩;rw[qD,Cv _ _ (by omega),Kh ho (by omega)]
   refine eV.fin (J:=(B+1+zr r+1+1,.cells ydb ydb ydc 1 (cs++[.str tx]))::(B+1+zr r+1,.cells ydb ydb ydb 1 [.str tx])::cE J (B+1+zr r)) (k:=k) (e:=d-1) (x:=B+1+zr r+1+1) (((hM.del ho (yp _)).cons (by omega)).cons (by omega)) ho h0 (by omega) (by rw[yj,iP]) (by omega) (by omega) ?_ ?_
   .simp only [go_sem,ya,eW hv.pu,PC]
   .intro S' s1 s2 s3;simp only[go_sem,ya,s1,s3,P1 s2,jB _ hv.pu]<;>rfl
 .right
  have NO:k=S:=by omega
  subst NO;rcases aR with ⟨mF,rfl⟩ | ⟨mF,rfl,hx⟩
  .omega
  .simp only [go_sem,ya,Hd,mZ,yj,yy,jW,aY,yd,yH,yf,show ¬(k:Int)<k by omega];exact⟨_,_,rfl,by simp,_,_,_,rfl,rfl,hM,hx,by simp only[go_sem,ya]<;>rfl⟩
end
section
variable {H:Hp}{T:List (List AV)}{cs:List AV}{W live:List Nat}{B C R S a r x:Nat}
def cg(p:Nat->Nat->Rat)(S n:Nat):List (List AV):=(xY n).map fun r=>gj p S S r
def Bo(p:Nat->Nat->Rat)(S n:Nat):(cg p S n).length=n:=by simp[cg]
def O5(p:Nat->Nat->Rat)(S n:Nat):cg p S (n+1)=cg p S n++[gj p S S n]:=by unfold cg;rw[vt,xg];rfl
def adI(p:Nat->Nat->Rat)(S n:Nat):(cg p S (n+1)).map xT=(cg p S n).map xT++[S]:=by rw[O5,xg,xb,vd,CL]
def am0(hx:x=B+1+zr r)(ha:x<a):(B::a::(fW (B+1) r++[x])).Nodup:=by
 have iZ:∀j,j∈fW (B+1) r->B+2<=j/\j<x:=fun j hj=>by
  have h1:=ue.1 hj;have h2:=QB (r:=r) (i:=r-1) (by omega);omega
 refine wm.2 ⟨fun h=>?_,wm.2 ⟨fun h=>?_,ub.2 ⟨uf,by simp,fun p hp q hq=>?_⟩⟩⟩
 .rcases xy.1 h with h | h
  .omega
  .rcases xF.1 h with h | h
   .have:=iZ _ h;omega
   .rw [xu] at h;omega
 .rcases xF.1 h with h | h
  .have:=iZ _ h;omega
  .rw [xu] at h;omega
 .have:=iZ _ hp
  rw[xu] at hq;omega
def eV.add{J J2:Hp}{n ct:Nat}{tm tm':Env}(hM:eV H J B C R S r W T)(hW:W.length=r)(ho:fS B B H)(h0:(b7 B H).length<=50000)(hr:r<=900)(hx:x=B+1+zr r)(ha:x<a)(hJ:∀p,p∈J2->B<=p.1)(hg:∀j,B<=j->j<B+1+zr r->j≠B+1\/r=0->ai (J2++H) j=ai (J++H) j)(hxr:ai (J2++H) x=Gp (.cells ydb ydb ydc 1 cs))(hm:ai (J2++H) a=Gp (.cells ydb ydc ydc 1 (fy (fW (B+1) r) W++[.aq x 0 n])))(hE:cJ (bc tm live)=[B,a])(hT:∀S,bt B S B=Gp B->bt B S a=Gp (B+1)->dw (bt B S) (bc tm live)=tm'):
  ∃J',bn live ⟨tm,J2++H,ct,B⟩=⟨tm',J'++H,B+1+zr (r+1),B⟩/\eV H J' B C R S (r+1) (W++[n]) (T++[cs]):=by
 have hb:ai J2 B=Gp (da C R S):=by rw[<-oc ho (yp B),hg B (yp B) (by omega) (.inl (by omega))];exact hM.bx
 have hl:=hM.l;obtain⟨J',e,g1,g2,g3,g4⟩:=PB (k:=1) (pre:=[B]) (post:=[]) (a:=a) (ids:=fW (B+1) r++[x]) (W:=W++[n]) (T:=T++[cs]) (tm':=tm') (ct:=ct) hJ ho h0 hE rfl (fun i hi=>by
  have cZ:i=B:=by simpa using hi
  rw[cZ];exact⟨yp _,_,_,_,_,hb⟩) (by omega) (by rw[<-oc ho (by omega),hm,adD (by rw[jj,hW])]) (by rw[yJ,yJ,jj,hl];rfl) (by rw[yJ,yJ,hW,hl];rfl) (fun i hi=>by
  rw[yJ,jj] at hi;by_cases c:i<r
  .have h1:=QB c;have h2:=(hM.m (by omega)).r i (by omega);rw[wD (by rw[jj];exact c),zX]
   refine⟨by omega,?_⟩;rw[<-oc ho (by omega),hg _ (by omega) (by omega) (.inl (by omega)),h2,Am (by omega),Am (by simp;omega),wD (by omega)]
  .have cZ:i=r:=by simp at hi;omega
   subst cZ;rw[xO (by rw[jj];omega)];simp only[jj,Nat.sub_self,wI];refine⟨by omega,?_⟩;rw[<-oc ho (by omega),hxr,Am (by simp;omega),xO (by omega)]
   simp[hl]) (by simp;omega) (by rw[uo,xU];exact am0 hx ha) (fun S _ h1 h2 _=>hT S (h1 0 (by simp)) h2)
 refine⟨J',by rw[e,Sh];simp;omega,g1,g3 0 (by simp) _ _ _ _ hb,fun _=>g2,by rw[yJ,hl];rfl⟩
def eV.R6{J J2:Hp}{n ct N e:Nat}{tm tm':Env}(hM:eV H J B C R S r W T)(hW:W.length=r)(ho:fS B B H)(h0:(b7 B H).length<=50000)(hr:r<=900)(hx:x=B+1+zr r)(ha:x<a)(hJ:∀p,p∈J2->B<=p.1)(hg:∀j,B<=j->j<B+1+zr r->j≠B+1\/r=0->ai (J2++H) j=ai (J++H) j)(hxr:ai (J2++H) x=Gp (.cells ydb ydb ydc 1 cs))(hm:ai (J2++H) a=Gp (.cells ydb ydc ydc 1 (fy (fW (B+1) r) W++[.aq x 0 n])))(hN:r+1+e=N)(hE:cJ (bc tm live)=[B,a])(hT:∀S,bt B S B=Gp B->bt B S a=Gp (B+1)->dw (bt B S) (bc tm live)=tm'):
  ∃J',r+1+e=N/\eV H J' B C R S (r+1) (W++[n]) (T++[cs])/\bn live ⟨tm,J2++H,ct,B⟩=⟨tm',J'++H,B+1+zr (r+1),B⟩:=by
 obtain⟨J',g1,g2⟩:=hM.add (ct:=ct) (tm':=tm') hW ho h0 hr hx ha hJ hg hxr hm hE hT;exact⟨J',hN,g2,g1⟩
def axH(h:Fy P L){v:AV}{F:List (List Nat)}{b:Nat}(hv:cC dD v F)(hF:gh F (R*S) (C*S))(hC:C<=8)(hR:R<=8)(hS:S<=8)(fF:0<S)(ha:a<C)(hb:b<R)(ho:fS B B H)(h0:(b7 B H).length<=50000){p:Nat->Nat->Rat}(hp:p=fun k r=>fP F (a*S+k) (b*S+r)):
  c6 P L [1,3,7,8,9,10] Lc (fun d st=>∃r J,r+d=S/\eV H J B C R S r ((cg p S r).map xT) (cg p S r)/\st=⟨mZ v B a b r,J++H,B+1+zr r,B⟩) (fun ex s'=>∃tm J ct,s'=⟨tm,J++H,ct,B⟩/\ex=.exit 0/\eV H J B C R S S ((cg p S S).map xT) (cg p S S)/\ak tm 9=.aq (B+1) 0 S):=by
 apply c9;rintro d st ⟨r,J,fN,hM,rfl⟩;have jW:=hM.bx;simp only[da] at jW;by_cases hr:r<S
 .left
  have key:=axG h (W:=(cg p S r).map xT) (T:=cg p S r) hv hF hC hR hS fF ha hb hr ho h0;rw[<-hp] at key;simp only[go_sem,ya,Lc,mZ,jW,aY,yd,yH,yf,show (r:Int)<S by omega];obtain⟨J1,e1,nZ⟩:=hM.aiU (live:=[1,3,7,8,9,10,11,12]) (ct:=B+1+zr r) (tm:=[(12,aa (0:Nat)),(11,.ah),(24,.bool ydb),(23,aa S),(22,.ptr B 2),(21,aa r),(1,v),(3,.ptr B 0),(7,aa a),(8,aa b),(9,o9 B r),(10,aa r)]) (tm':=mZ v B a b r++[(11,.ah),(12,aa (0:Nat))]) ho h0 (by omega) (by simp only[go_sem,ya,eW hv.pu,PC]<;>simp) (fun S' s1 s2=>by simp only[go_sem,ya,s1,P1 s2,jB _ hv.pu]<;>rfl)
  generalize hq:D P L (.loop _ Hd) _=q;obtain⟨ex,st,rfl,tm,J2,ct,rfl,rfl,Gn,hx,lX⟩:=bL hq (key S) ⟨0,J1,by omega,nZ,.inl ⟨rfl,e1⟩⟩;obtain⟨J3,e3,Ed,hx3⟩:=Gn.row (live:=[1,3,7,8,9,10,11]) (ct:=ct) (tm:=tm) (x:=B+1+zr r) (tm':=mZ v B a b r++[(11,.aq (B+1+zr r) 0 S)]) ho h0 (by omega) hx (yp _) (by rw[lX];simp only[go_sem,mZ,yj,yy,eW hv.pu,PC]) (fun S' s1 s2 s3=>by rw[lX];simp only[go_sem,mZ,yj,yy,s1,s3,P1 s2,jB _ hv.pu]<;>rfl)
  have w5:IntKind.wrap .i64 ((r:Int)+1)=((r+1:Nat):Int):=wrap64 (by omega) (by omega);have Th:((cg p S r).map xT).length=r:=by rw[yS,Bo]
  have iZ:∀q,q∈J3->B<=q.1:=Ed.hJ;simp only[go_sem,ya,e3];by_cases mA:r=0
  .subst mA;simp only[go_sem,ya,yb,xp,yx,yi,ym,mZ,yj,yy,aCO,iB,iA,w5];refine⟨_,d-1,rfl,by omega,0+1,?_⟩;rw[adI,O5]
   refine eV.R6 (N:=S) (e:=d-1) (x:=B+1+zr 0) (a:=B+1+zr 0+1+1) (J2:=(B+1+zr 0+1+1,.cells ydb ydc ydc 1 [.aq (B+1+zr 0) 0 S])::(B+1+zr 0+1,.cells ydb ydc ydb 1 [.aq (B+1+zr 0) 0 S])::J3) Ed Th ho h0 (by omega) rfl (by omega) (fun q hq=>?_) (fun j j1 j2 _=>?_) ?_ ?_ (by omega) ?_ ?_
   .rcases xy.1 hq with rfl | hq
    .show B<=B+1+zr 0+1+1;omega
    rcases xy.1 hq with rfl | hq
    .show B<=B+1+zr 0+1;omega
    exact iZ q hq
   .rw [yj,yj,dW _ _ (by omega),dW _ _ (by omega)]
   .rw [yj,yj,dW _ _ (by omega),dW _ _ (by omega)];exact hx3
   .rw [yj,iP];rfl
   .simp only [go_sem,ya,eW hv.pu]
   .intro S' s1 s2;simp only[go_sem,ya,yb,s1,s2,jB _ hv.pu]<;>rfl
  .have aCP:0<r:=by omega
   have hz:zr r=1+r:=by unfold zr;rw[yr mA]
   have hmm:=(Ed.m aCP).m;rw[Ed.l] at hmm;have ho9:o9 B r=.aq (B+1) 0 r:=by unfold o9;rw[yr mA]
   simp only[go_sem,ya,yb,yi,ym,mZ,yj,yy,ho9,iB]
   rw[gG (sz:=1) (ex:=ydc) (pu:=ydc) (cs:=fy (fW (B+1) r) ((cg p S r).map xT)) (by rw[dW _ _ (by omega)];exact hmm) (by rw[aeI (by rw[jj,Th]),Th];omega) (by omega) (by omega) (by decide) (by simp only[go_sem])]
   simp only[go_sem,ya,w5];refine⟨_,d-1,rfl,by omega,r+1,?_⟩;rw[adI,O5,Cv _ _ (by omega),Kh ho (by omega)]
   refine eV.R6 (N:=S) (e:=d-1) (x:=B+1+zr r) (a:=B+1+zr r+1+1) (J2:=(B+1+zr r+1+1,.cells ydb ydc ydc 1 (fy (fW (B+1) r) ((cg p S r).map xT)++[.aq (B+1+zr r) 0 S]))::(B+1+zr r+1,.cells ydb ydc ydb 1 [.aq (B+1+zr r) 0 S])::cE J3 (B+1)) Ed Th ho h0 (by omega) rfl (by omega) (fun q hq=>?_) (fun j j1 j2 j3=>?_) ?_ ?_ (by omega) ?_ ?_
   .rcases xy.1 hq with rfl | hq
    .show B<=B+1+zr r+1+1;omega
    rcases xy.1 hq with rfl | hq
    .show B<=B+1+zr r+1;omega
    exact iZ q (adG hq)
   .rw [yj,yj,dW _ _ (by omega),dW _ _ (by omega),<-Kh ho (by omega),Cr,yr (by omega)]
   .rw [yj,yj,dW _ _ (by omega),dW _ _ (by omega),<-Kh ho (by omega),Cr,yr (by omega)];exact hx3
   .rw [yj,iP]
   .simp only [go_sem,ya,eW hv.pu]
   .intro S' s1 s2;simp only[go_sem,ya,s1,s2,jB _ hv.pu]<;>rfl
 .right
  have NP:r=S:=by omega
  subst NP;obtain⟨r',rfl⟩:∃r',r=r'+1:=⟨r-1,by omega⟩;simp only[go_sem,ya,Lc,mZ,jW,aY,yd,yH,yf,show ¬((r'+1:Nat):Int)<((r'+1:Nat):Int) by omega];exact⟨_,_,rfl,by simp,_,_,_,rfl,rfl,hM,by simp only[go_sem,ya,YB]⟩
end
section
variable {T:List (List AV)}{W:List Nat}{S:Nat}
def axI{p:Nat->Nat->Rat}{i:Nat}(hi:i<S):gT (cg p S S) i=gj p S S i:=by
 rw[Am (by rw[Bo];exact hi)];simp[cg]
def eV.end_{H J:Hp}{B C R ct:Nat}{live:List Nat}{tm tm':Env}(hM:eV H J B C R S S W T)(fF:0<S)(hS:S<=900)(ho:fS B B H)(h0:(b7 B H).length<=50000)(hE:cJ (bc tm live)=[B+1])(hT:∀S,bt B S (B+1)=Gp B->dw (bt B S) (bc tm live)=tm'):
  ∃J',bn live ⟨tm,J++H,ct,B⟩=⟨tm',J'++H,B+1+S,B⟩/\(∀p,p∈J'->B<=p.1)/\iw (J'++H) B W T:=by
 have hm:=hM.m fF;have hl:=hM.l;obtain⟨J',e,g1,g2,_⟩:=PB (k:=0) (pre:=[]) (post:=[]) (a:=B+1) (ids:=fW (B+1) S) (W:=W) (T:=T) (tm':=tm') (ct:=ct) hM.hJ ho h0 hE rfl (by simp) (by omega) (by rw[<-oc ho (by omega),hm.m,hl]) (by rw[jj,hl]) hm.l (fun i hi=>by
  rw[zX];rw[jj] at hi;refine⟨by omega,?_⟩;rw[<-oc ho (by omega)];exact hm.r i (by omega)) (by simp;omega) (by
  rw[yy,xU];refine wm.2 ⟨fun h=>?_,uf⟩
  have:=ue.1 h;omega) (fun S' _ _ h1 _=>hT S' h1)
 exact⟨J',by rw[e];simp;omega,g1,g2⟩
def iw.dR{hp:Hp}(h:iw hp 0 W T)(hw:∀i (h1:i<T.length) (h2:i<W.length),T[i].length=W[i])(hM:T.length<=900):result hp (.aq 0 0 T.length)=Gp (.ap ydc T.length (vh (fun w r=>.ap ydc w r) W T)):=by
 obtain⟨jP,e3,_⟩:=h.aj hw hM (n:=997) (by decide);have hm:=h.m;have e2:mL deep hp (.aq 0 0 T.length)=freeze deep hp (.aq 0 0 T.length):=by simp only[mL,hm]
 simp only[result,e2];show (match freeze (997+3) hp (.aq 0 0 T.length) with | some (v',_)=>Gp v' | none=>none)=_
 rw[e3]
def Ee(p:Nat->Nat->Rat)(S n:Nat):List AV:=vh (fun w r=>AV.ap ydc w r) ((cg p S n).map xT) (cg p S n)
def zip_map:vh (fun w r=>AV.ap ydc w r) (T.map xT) T=T.map fun r=>.ap ydc r.length r:=by
 induction T with
 | nil=>rfl
 | cons a T ih=>rw[xb,yaM,ih];rfl
def aeO(p:Nat->Nat->Rat)(S:Nat):∀n,jr fO (Ee p S n) (n7 (fb p S n))
 | 0=>trivial
 | n+1=>by
  have ih:=aeO p S n;unfold Ee at ih ⊢;unfold n7 at ih ⊢;rw[zip_map] at ih ⊢;rw[O5,acA,xg,xg];refine ih.snoc ?_;have e:gj p S S n=((jt p S S n).map RT).map AV.str:=by unfold gj;rw[tz];rfl
  have:=Kw ydc ((jt p S S n).map RT)
  rw[e];show fO (.ap ydc (((jt p S S n).map RT).map AV.str).length (((jt p S S n).map RT).map AV.str)) _
  rw[yS];exact this
def afB(p:Nat->Nat->Rat)(S:Nat):cC fO (.ap ydc S (Ee p S S)) (n7 (fb p S S)):=by
 have:=UY ydc (aeO p S S)
 rwa[Vv,Ki] at this
def azF(p:Nat->Nat->Rat)(S n:Nat):∀i (h1:i<(cg p S n).length) (h2:i<((cg p S n).map xT).length),(cg p S n)[i].length=((cg p S n).map xT)[i]:=fun i h1 h2=>by rw[vj]
def aiV(h:Fy P L){v:AV}{F:List (List Nat)}{C R i B:Nat}{H:Hp}(hv:cC dD v F)(hF:gh F (R*S) (C*S))(hC:C<=8)(hR:R<=8)(hS:S<=8)(fF:0<S)(hi:i<C*R)(ho:fS B B H)(h0:(b7 B H).length<=50000){p:Nat->Nat->Rat}(hp:p=fun k r=>fP F (i%C*S+k) (i/C*S+r)):
  ∃J,D P L Ft.body ⟨fA 0 [.agg [aa C,aa R,aa S],v,aa i],H,B,B⟩=Gp (.ret,⟨[(6,.aq B 0 S),(58,.aq B 0 S),(9,.aq B 0 S)],J++H,B+1+S,B⟩)/\(∀p,p∈J->B<=p.1)/\iw (J++H) B ((cg p S S).map xT) (cg p S S):=by
 obtain⟨l1,l2⟩:=Ew hi;have key:=axH (P:=P) (L:=L) h hv hF hC hR hS fF l1 l2 ho h0 hp;have JC:C*R<=64:=xf hC hR;have h1:(i:Int).tmod (C:Int)=((i%C:Nat):Int):=(ycd i C).symm;have h2:(i:Int).tdiv (C:Int)=((i/C:Nat):Int):=(yce i C).symm;generalize i%C=a at*
 generalize i/C=b at*
 have Gk:(C:Int)≠0:=by omega
 have w1:IntKind.wrap .i64 (a:Int)=(a:Int):=wrap64 (by omega) (by omega);have w2:IntKind.wrap .i64 (b:Int)=(b:Int):=wrap64 (by omega) (by omega);have ss:eV H [(B,da C R S)] B C R S 0 ((cg p S 0).map xT) (cg p S 0):=⟨fun q hq=>by rw[xu.1 hq];exact yp B,by rw[yj,iP],fun q=>by omega,rfl⟩
 obtain⟨J1,e1,nZ⟩:=ss.aiU (live:=[1,3,7,8,9,10]) (ct:=B+1) (tm:=[(10,aa (0:Nat)),(9,.ah),(8,aa b),(7,aa a),(20,aa b),(19,aa C),(18,.ptr B 0),(17,aa i),(16,aa a),(15,aa C),(14,.ptr B 0),(13,aa i),(6,.ah),(3,.ptr B 0),(0,.agg [aa C,aa R,aa S]),(1,v),(2,aa i)]) (tm':=mZ v B a b 0) ho h0 (by omega) (by simp only[go_sem,ya,eW hv.pu,Yy]<;>rfl) (fun S' s1 s2=>by simp only[go_sem,ya,s1,jB _ hv.pu]<;>rfl)
 simp only[go_sem,ya,yb,Ft,aQ,aY,yd,yf,fH _ _ _ Gk,eX _ _ _ Gk,h1,h2,w2];generalize hq:D P L (.loop _ Lc) _=q;obtain⟨ex,st,rfl,tm,J2,ct,rfl,rfl,Gn,t9⟩:=bL hq (key S) ⟨0,J1,by omega,nZ,e1⟩;obtain⟨J3,e3,q1,q2⟩:=Gn.end_ (live:=[9]) (ct:=ct) (tm:=tm) (tm':=[(9,.aq B 0 S)]) fF (by omega) ho h0 (by simp only[go_sem,t9]) (fun S' s1=>by simp only[go_sem,t9,s1]);refine⟨J3,?_,q1,q2⟩;simp only[go_sem,e3]
section
variable (h:Fy P L)(AE:Has P L 788 Ft){v:AV}{F:List (List Nat)}{C R S i:Nat}(hv:cC dD v F)(hF:gh F (R*S) (C*S))(hC:C<=8)(hR:R<=8)(hS:S<=8)(fF:0<S)(hi:i<C*R){p:Nat->Nat->Rat}(hp:p=fun k r=>fP F (i%C*S+k) (i/C*S+r))
include h AE hv hF hC hR hS fF hi hp
theorem azG{B:Nat}{H:Hp}(ho:fS B B H)(h0:(b7 B H).length<=50000):∃J,iQ P L (D P L) H B 788 [.agg [aa C,aa R,aa S],v,aa i]=Gp (.aq B 0 S,J++H,B+1+S)/\(∀p,p∈J->B<=p.1)/\iw (J++H) B ((cg p S S).map xT) (cg p S S):=by
 obtain⟨J,e,q1,q2⟩:=aiV h hv hF hC hR hS fF hi ho h0 hp;exact⟨J,GN AE e (.inr rfl) rfl,q1,q2⟩
theorem aCQ:ab P L 788 [.agg [aa C,aa R,aa S],v,aa i] (.ap ydc S (Ee p S S)):=by
 obtain⟨J,e,q1,q2⟩:=aiV h hv hF hC hR hS fF hi (H:=[]) (B:=0) trivial (by decide) hp;have hr:=q2.dR (azF p S S) (by rw[Bo];omega);rw[Bo] at hr;unfold ab;rw[aD AE,e];exact hr
end
end
section
variable {F:List (List Nat)}{C R S:Nat}
noncomputable def fM(F:List (List Nat))(C S i:Nat):Nat->Nat->Rat:=fun k r=>fP F (i%C*S+k) (i/C*S+r)
def V5{i:Nat}(hF:gh F (R*S) (C*S))(hi:i<C*R):∀a b,a<S->b<S->Hq 429 (fM F C S i a b):=fun a b ha hb=>by
 obtain⟨l1,l2⟩:=Ew hi;exact hF.H (lL l2 hb) (lL l1 ha)
noncomputable def qQ(F:List (List Nat))(C S n:Nat):List Rat:=(xY n).map fun i=>jO (fb (fM F C S i) S S)
def atO(F:List (List Nat))(C S n:Nat):(qQ F C S n).length=n:=by simp[qQ]
def aq5(F:List (List Nat))(C S n:Nat):qQ F C S (n+1)=qQ F C S n++[jO (fb (fM F C S n) S S)]:=by unfold qQ;rw[vt,xg];rfl
noncomputable def sF(F:List (List Nat))(C S n:Nat):List AV:=((qQ F C S n).map RT).map .str
def aeP(F:List (List Nat))(C S n:Nat):(sF F C S n).length=n:=by simp[sF,qQ]
def aq6(F:List (List Nat))(C S n:Nat):sF F C S (n+1)=sF F C S n++[.str (RT (jO (fb (fM F C S n) S S)))]:=by unfold sF;rw[aq5,xg,xg];rfl
def afC(F:List (List Nat))(C S n:Nat):aF (sF F C S n)=ydb:=by
 unfold sF
 induction (qQ F C S n).map RT with
 | nil=>rfl
 | cons x l ih=>exact ih
def Du(v:AV):Nat->Env
 | 0=>[(1,v),(2,.ptr 0 0),(5,.ah),(6,aa (0:Nat))]
 | i+1=>[(1,v),(2,.ptr 0 0),(5,.aq 1 0 (i+1)),(6,aa (i+1:Nat))]
def zk(C R S:Nat)(cs:List AV):Nat->Hp
 | 0=>[(0,da C R S)]
 | _+1=>[(1,.cells ydb ydb ydc 1 cs),(0,da C R S)]
def bB:Nat->Nat
 | 0=>1
 | _+1=>2
def axJ(h:Fy P L)(AE:Has P L 788 Ft)(zj:Has P L 789 Fq)(p6:Has P L 800 Dh){v:AV}(hv:cC dD v F)(hF:gh F (R*S) (C*S))(hC:C<=8)(hR:R<=8)(hS:S<=8)(fF:0<S):
  c6 P L [1,2,5,6] EL (fun d st=>∃i,i+d=C*R/\st=⟨Du v i,zk C R S (sF F C S i) i,bB i,0⟩) (fun ex s'=>∃tm ct,s'=⟨tm,zk C R S (sF F C S (C*R)) (C*R),ct,0⟩/\ex=.exit 0/\ak tm 5=ak (Du v (C*R)) 5):=by
 apply c9;rintro d st ⟨i,hid,rfl⟩;have JC:C*R<=64:=xf hC hR;have m1:(C:Int)*(R:Int)=((C*R:Nat):Int):=by rw[xS]
 have w1:IntKind.wrap .i64 ((C*R:Nat):Int)=((C*R:Nat):Int):=wrap64 (by omega) (by omega);have w5:IntKind.wrap .i64 ((i:Int)+1)=((i+1:Nat):Int):=wrap64 (by omega) (by omega);have fz:=lh;by_cases hi:i<C*R
 .left
  have e1:=aCQ h AE hv hF hC hR hS fF hi rfl;have hr:=afB (fM F C S i) S;have e2:=WU h.toRn.toRp p6 zj hr (by rw[Ki];exact hS) (Vw hS (V5 hF hi)) (by decide)
  have qD:=aq6 F C S i;have fX:=afC F C S i;have sB:=aeP F C S i;unfold ab at e1 e2;have e1:bO P L (D P L) 788 [.agg [aa C,aa R,aa S],v,aa i]=Gp (.ap ydc S (Ee (fM F C S i) S S)):=e1;generalize AV.ap ydc S (Ee (fM F C S i) S S)=w at*
  generalize RT (jO (fb (fM F C S i) S S))=tx at*
  have qF:(i:Int)<((C*R:Nat):Int):=by omega
  cases i with
  | zero=>
   simp only[go_sem,ya,yb,xp,yx,yi,ym,EL,Du,zk,bB,da,aY,yd,yf,yH,fB,m1,w1,qF,fz,hv.aj,hr.shut,hr.aj,e1,e2,iB,iA,w5];refine⟨_,d-1,rfl,by omega,0+1,by omega,?_⟩;rw[qD];simp only[go_sem,ya,yb,ax,aG hv.pu]<;>rfl
  | succ i=>
   generalize sF F C S (i+1)=cs at*
   simp only[go_sem,ya,yb,yi,ym,EL,Du,zk,bB,da,aY,yd,yf,yH,fB,m1,w1,qF,fz,hv.aj,hr.shut,hr.aj,e1,e2,iB]
   rw[gG (sz:=1) (ex:=ydc) (pu:=ydb) (cs:=cs) (by simp only[go_sem,ya]<;>rfl) (by rw[sB];omega) (by omega) (by omega) (by decide) (by simp only[go_sem])]
   simp only[go_sem,ya,yb,w5];refine⟨_,d-1,rfl,by omega,i+1+1,by omega,?_⟩;rw[qD];simp only[go_sem,ya,yb,ax,aG hv.pu]<;>rfl
 .right
  have cG:i=C*R:=by omega
  subst cG;have hx:¬((C*R:Nat):Int)<((C*R:Nat):Int):=by omega
  generalize C*R=n at*
  cases n with
  | zero=>
   simp only[go_sem,ya,EL,Du,zk,bB,da,aY,yd,yf,yH,m1,w1,hx];exact⟨_,_,rfl,by simp,_,_,rfl,rfl,by simp only[go_sem,ya]<;>rfl⟩
  | succ n=>
   simp only[go_sem,ya,EL,Du,zk,bB,da,aY,yd,yf,yH,m1,w1,hx];exact⟨_,_,rfl,by simp,_,_,rfl,rfl,by simp only[go_sem,ya]<;>rfl⟩
def aCR(h:Fy P L)(zk:Has P L 770 RF)(AE:Has P L 788 Ft)(zj:Has P L 789 Fq)(p6:Has P L 800 Dh){v:AV}(hv:cC dD v F)(hF:gh F (R*S) (C*S))(hC:C<=8)(hR:R<=8)(hS:S<=8)(fF:0<S)(h0:0<C*R):
  ∃w,ab P L 770 [.agg [aa C,aa R,aa S],v] w/\fO (shut w) ((qQ F C S (C*R)).map RT):=by
 have key:=axJ (P:=P) (L:=L) h AE zj p6 hv hF hC hR hS fF;have sB:=aeP F C S (C*R);have fX:=afC F C S (C*R);have Gj:fO (.ap ydc (C*R) (sF F C S (C*R))) ((qQ F C S (C*R)).map RT):=by
  have:=Kw ydc ((qQ F C S (C*R)).map RT)
  rwa[yS,atO] at this
 obtain⟨n,hn⟩:∃n,C*R=n+1:=⟨C*R-1,by omega⟩;rw[hn] at key sB fX Gj ⊢;generalize sF F C S (n+1)=cs at*
 unfold ab;rw[aD zk];simp only[go_sem,yb,RF,jN];generalize hq:D P L (.loop _ EL) _=q;obtain⟨ex,st,rfl,tm,ct,rfl,rfl,t5⟩:=bL hq (key (n+1)) ⟨0,by omega,by simp only[go_sem,ya,yb,ax,Du,bB,aG hv.pu]<;>rfl⟩
 simp only[go_sem,ya,Du] at t5;simp only[go_sem,yb,ax,t5,VE.zk,da]
 exact⟨_,Ok (hg:=by simp only[go_sem]<;>rfl) (by rw[sB];omega) (by decide),Gj⟩
end
section
variable {S n r:Nat}
def pU(p:Nat->Nat->Rat)(l:Rat)(r0 k0:Nat):Nat->Nat->Rat:=fun k r=>if r<r0\/r=r0/\k<k0 then mG (p k r-l) else p k r
def am1{p q:Nat->Nat->Rat}(h:∀k,k<n->p k r=q k r):jt p S n r=jt q S n r:=by
 unfold jt;exact vY fun k hk=>h k (wW.1 hk)
def OH{p q:Nat->Nat->Rat}(h:∀k,k<n->p k r=q k r):gj p S n r=gj q S n r:=by unfold gj;rw[am1 h]
def PD{p:Nat->Nat->Rat}(hr:r<(cg p S n).length):(cg p S n)[r]=gj p S S r:=by simp[cg]
def Vx{p:Nat->Nat->Rat}{k:Nat}(hk:k<(gj p S n r).length):(gj p S n r)[k]=.str (RT (p k r)):=by simp[gj,jt]
def axK(p:Nat->Nat->Rat)(l:Rat)(n:Nat):cg (pU p l r S) S n=cg (pU p l (r+1) 0) S n:=by
 unfold cg;refine vY fun r' _=>OH fun k hk=>?_
 unfold pU;by_cases c:r'<r\/r'=r/\k<S
 .rw [yC c,yC (by omega)]
 .rw [yr c,yr (by omega)]
def atP(p:Nat->Nat->Rat)(l:Rat){k:Nat}(hr:r<S)(hk:k<S):cg (pU p l r (k+1)) S S=(cg (pU p l r k) S S).set r ((gj (pU p l r k) S S r).set k (.str (RT (mG (p k r-l))))):=by
 apply yae
 .rw [vW,Bo,Bo]
 .intro i h1 h2;rw[PD,ybD];have hi:i<S:=by rw[Bo] at h1;exact h1
  split
  .rename_i e;subst e;apply yae
   .rw [vW,CL,CL]
   .intro j g1 g2;rw[Vx,ybD]
    split
    .rename_i e;subst e;unfold pU;rw[yC (by omega)]
    .rename_i e;rw[Vx];unfold pU;by_cases c:r<r\/r=r/\j<k+1
     .rw [yC c,yC (by omega)]
     .rw [yr c,yr (by omega)]
  .rename_i e;rw[PD];refine OH fun j hj=>?_
   unfold pU;by_cases c:i<r\/i=r/\j<k+1
   .rw [yC c,yC (by omega)]
   .rw [yr c,yr (by omega)]
def aCS(p:Nat->Nat->Rat)(l:Rat):cg (pU p l 0 0) S S=cg p S S:=by
 unfold cg;refine vY fun r' _=>OH fun k hk=>?_
 unfold pU;rw[yr (by omega)]
def axL(p:Nat->Nat->Rat)(l:Rat):cg (pU p l S 0) S S=cg (fun k r=>mG (p k r-l)) S S:=by
 unfold cg;refine vY fun r' hr=>OH fun k hk=>?_
 have:=wW.1 hr
 unfold pU;rw[yC (by omega)]
def aiW(h:Rm P L)(MO:Has P L 769 HM){s:List Nat}(hl:s.length<=1000000):ab P L 769 [.str s] (aa (jd s)):=by
 have e1:=aBI h (s:=s) (by omega);unfold ab at e1;unfold jd;by_cases c:iL s=0
 .rw [yC c];have e2:=Qs h (Pw c (yp 2400)) (by decide);rw[<-(O3 c).1] at e2;rw[c] at e1;unfold ab at e2;have hd:decide (bW (gZ s).num<0)=decide (gZ s<0):=tQ.2 (JV _);unfold ab;rw[aD MO];by_cases c2:gZ s<0
  .rw [xk c2] at hd;rw[yC c2];simp only[go_sem,ya,HM,e1,e2,hd]<;>rfl
  .rw [yW c2] at hd;rw[yr c2];simp only[go_sem,ya,HM,e1,e2,hd]<;>rfl
 .rw [yr c];unfold ab;rw[aD MO];simp only[go_sem,ya,HM,e1,c]
def azH(h:Rp P L)(nP:Has P L 315 Av)(zh:Has P L 449 BN){a l:Rat}{K:Nat}(ka:Hq K a)(kl:Hq K l)(hK:K<=100000):ab P L 449 [.str [48],.str (RT (a-l))] (.str (RT (mG (a-l)))):=by
 have e:=aBQ h nP zh (a:=0) (b:=a-l) (K:=K+K+2) (R4.mono (by omega)) ((ka.sub kl).mono (by omega)) (by omega)
 have:(if (0:Rat)<a-l then a-l else 0)=mG (a-l):=by
  unfold mG;by_cases c:a-l<0
  .rw [yC c,yr (by grind)]
  .rw [yr c];by_cases c2:(0:Rat)<a-l
   .rw [yC c2]
   .rw [yr c2];grind
 rw[this] at e;exact e
end
section
variable {hp:Hp}{T:List (List AV)}{out:List AV}{C R S i r:Nat}
def atQ{v:AV}{l:List AV}(h:i<l.length):over i [v] l=l.set i v:=by
 simp only[over,yF,yN,yd];rw[vI,yC h]
 simp
def ahd(p:Nat->Nat->Rat)(S:Nat):(cg p S S).map xT=yz S S:=by
 apply yae
 .simp [Bo]
 .intro i h1 h2;rw[vj,PD,CL,tj]
def aq7{K:Nat}(hr:r<S):∃q,(fy (fW K S) (yz S S)).drop r=.aq (K+1+r) 0 S::q:=by
 have h1:r<(fy (fW K S) (yz S S)).length:=by rw[aeI (by rw[jj,tD]),tD];exact hr
 refine⟨(fy (fW K S) (yz S S)).drop (r+1),?_⟩;rw[yR h1,atK (by rw[jj];exact hr) (by rw[tD];exact hr),zX,tj]
def oB:Nat->AV
 | 0=>.ah
 | i+1=>.aq 1 0 (i+1)
structure gB(hp:Hp)(C R S i:Nat)(out:List AV)(T:List (List AV)):Prop where
 bx:ai hp 0=Gp (da C R S)
 o:0<i->ai hp 1=Gp (.cells ydb ydb ydc 2 out)
 m:iw hp (bB i) (yz S S) T
 l:T.length=S
def gC(v:AV)(lv:List Nat)(b:Bool)(i S r:Nat):Env:=[(1,v),(2,.str lv),(3,.bool b),(4,.ptr 0 0),(10,oB i),(11,aa i),(12,.aq (bB i) 0 S),(13,aa r)]
def CM(i:Nat):1<=bB i/\bB i<=2:=by cases i<;>simp[bB]
def iw.put{k:Nat}{W:List Nat}(h:iw hp k W T)(hi:i<T.length)(c:List AV):iw (aU hp (k+1+i) (.cells ydb ydb ydc 1 c)) k W (T.set i c):=by
 refine⟨by rw[vW];exact h.l,?_,fun j hj=>?_⟩
 .rw [U1 (h.r i hi),yr (by omega),vW];exact h.m
 .rw [vW] at hj;rw[U1 (h.r i hi),axA];by_cases e:j=i
  .subst e;rw[yC rfl,yC ⟨rfl,hi⟩]
  .rw [yr (by omega),yr (fun q=>e q.1.symm)];exact h.r j hj
def gB.set(h:gB hp C R S i out T)(hr:r<S)(c:List AV):gB (aU hp (bB i+1+r) (.cells ydb ydb ydc 1 c)) C R S i out (T.set r c):=by
 obtain⟨l1,l2⟩:=CM i;refine⟨by rw[Gx,yr (by omega)];exact h.bx,fun h0=>?_,h.m.put (by rw[h.l];exact hr) c,by rw[vW];exact h.l⟩
 have:bB i=2:=by
  cases i with
  | zero=>omega
  | succ i=>rfl
 rw[Gx,yr (by omega)];exact h.o h0
def gB.comp{live:List Nat}{tm tm':Env}{ct:Nat}(h:gB hp C R S i out T)(hS:S<=900)(hE:cJ (bc tm live)=xY (bB i)++[bB i])(hT:∀S,(∀j,j<bB i->dz j S 0=Gp j)->dz (bB i) S 0=Gp (bB i)->dw (pos S) (bc tm live)=tm'):
  ∃an,bn live ⟨tm,hp,ct,0⟩=⟨tm',an,bB i+1+S,0⟩/\gB an C R S i out T:=by
 obtain⟨l1,l2⟩:=CM i;obtain⟨an,e,g1,g2⟩:=h.m.comp (ct:=ct) (tm':=tm') hE (fun j hj=>by
  cases i with
  | zero=>
   have:j=0:=by simp only[bB] at hj;omega
   rw[this];exact⟨_,_,_,_,h.bx⟩
  | succ i=>
   simp only[bB] at hj;by_cases c:j=0
   .rw [c];exact⟨_,_,_,_,h.bx⟩
   .have:j=1:=by omega
    rw[this];exact⟨_,_,_,_,h.o (by omega)⟩) (by rw[h.l];omega) hT
 rw[h.l] at e;refine⟨an,e,g2 0 (by omega) _ _ _ _ h.bx,fun h0=>?_,g1,h.l⟩
 have:bB i=2:=by
  cases i with
  | zero=>omega
  | succ i=>rfl
 exact g2 1 (by omega) _ _ _ _ (h.o h0)
def axM(h:Rx P L)(FI:Has P L 271 HC)(nP:Has P L 315 Av)(zh:Has P L 449 BN){v:AV}{p:Nat->Nat->Rat}{l:Rat}{b:Bool}(pv:aW v=ydb)(hS:S<=8)(hr:r<S)(kp:∀a b,a<S->b<S->Hq 2400 (p a b))(kl:Hq 2400 l):
  c6 P L [1,2,3,4,10,11,12,13,14] Lb (fun d st=>∃k hp,k+d=S/\gB hp C R S i out (cg (pU p l r k) S S)/\st=⟨gC v (RT l) b i S r++[(14,aa k)],hp,bB i+1+S,0⟩) (fun ex s'=>∃tm hp ct,s'=⟨tm,hp,ct,0⟩/\ex=.exit 4/\gB hp C R S i out (cg (pU p l (r+1) 0) S S)/\bc tm [1,2,3,4,10,11,12,13]=gC v (RT l) b i S r):=by
 apply c9;rintro d st ⟨k,hp,Tb,hM,rfl⟩;have jW:=hM.bx;simp only[da] at jW;by_cases hk:k<S
 .left
  have hm:=hM.m.m;rw[hM.l] at hm;have mX:=hM.m.r r (by rw[hM.l];exact hr)
  rw[axI hr] at mX;obtain⟨q,dq⟩:=aq7 (K:=bB i) hr;have hg:(gj (pU p l r k) S S r).drop k=.str (RT (p k r))::(gj (pU p l r k) S S r).drop (k+1):=by
   have hl:k<(gj (pU p l r k) S S r).length:=by rw[CL];exact hk
   rw[yR hl,Vx];unfold pU;rw[yr (by omega)]
  have fZ:(k:Int)<S:=by omega
  have jx:=fun id=>cV (sz:=1) (n:=S) id 0 hr
  have jy:=fun id=>cV (sz:=1) (n:=S) id 0 hk
  simp only[yd,ym] at jx jy;have e1:=ag2 h.toRn.toRp (kp _ _ hk hr) kl (by decide);have e2:=azH h.toRn.toRp nP zh (kp _ _ hk hr) kl (by decide);have w5:IntKind.wrap .i64 ((k:Int)+1)=((k+1:Nat):Int):=wrap64 (by omega) (by omega);have kY:=atP p l hr hk;have fX:=afA (pU p l r k) S S r;have sB:=CL (pU p l r k) S S r;have A6:=hM.set hr ((gj (pU p l r k) S S r).set k (.str (RT (mG (p k r-l)))));rw[<-kY] at A6;have aR:∀ct,gD hp ct (bB i+1+r) k 1 [.str (RT (mG (p k r-l)))] (Gp (.cells ydb ydb ydc 1 (gj (pU p l r k) S S r)))=Gp (.av [],aU hp (bB i+1+r) (.cells ydb ydb ydc 1 ((gj (pU p l r k) S S r).set k (.str (RT (mG (p k r-l)))))),ct):=fun ct=>by
   rw[sT (sz:=1) rfl (by rw[sB];omega) rfl,atQ (by rw[sB];exact hk)]
   rfl
  have ask:dd (aa k)=Gp k:=rfl;have JF:dd (aa r)=Gp r:=rfl;unfold ab at e1 e2;simp only[go_sem,ya,Lb,gC,yj,yy,jW,aY,yd,yH,yf,fZ,jx,jy,ask,JF,ae2,hm,agz,dq,agA,mX,hg,e1,e2,aR,w5];obtain⟨an,e3,A5⟩:=A6.comp (live:=[1,2,3,4,10,11,12,13,14]) (ct:=bB i+1+S) (tm:=[(14,aa (k+1:Nat)),(42,aa (k+1:Nat)),(41,aa k),
         (58,AV.ptr (bB i+1+r) k),(57,AV.str (RT (mG (p k r-l)))),(56,AV.str (RT (p k r-l))),
         (55,AV.str (RT l)),(54,AV.str (RT (p k r))),(53,AV.ptr (bB i+1+r) k),(52,aa k),
         (51,AV.aq (bB i+1+r) 0 S),(50,AV.ptr (bB i) r),(49,aa r),(48,AV.aq (bB i) 0 S),
         (47,aa k),(46,AV.aq (bB i+1+r) 0 S),(45,AV.ptr (bB i) r),(44,aa r),
         (43,AV.aq (bB i) 0 S),(40,AV.bool ydb),(39,aa S),(38,AV.ptr 0 2),(37,aa k),(1,v),
         (2,AV.str (RT l)),(3,AV.bool b),(4,AV.ptr 0 0),(10,oB i),(11,aa i),
         (12,AV.aq (bB i) 0 S),(13,aa r),(14,aa k)]) (tm':=gC v (RT l) b i S r++[(14,aa (k+1:Nat))]) (by omega) (by cases i<;>simp only[go_sem,ya,yb,eW pv,oB,bB]<;>rfl) (fun S' s1 s2=>by
   have s0:=s1 0 (by have:=CM i;omega)
   cases i with
   | zero=>
    have s2:dz 1 S' 0=Gp 1:=s2;simp only[go_sem,ya,yb,s0,s2,jB _ pv,gC,oB,bB]<;>rfl
   | succ i=>
    have s2:dz 2 S' 0=Gp 2:=s2;have s3:=s1 1 (by simp[bB])
    simp only[go_sem,ya,yb,s0,s2,s3,jB _ pv,gC,oB,bB]<;>rfl)
  exact⟨_,d-1,rfl,by omega,k+1,an,by omega,A5,e3⟩
 .right
  have NO:k=S:=by omega
  subst NO;simp only[go_sem,ya,Lb,gC,yj,yy,jW,aY,yd,yH,yf,show ¬(k:Int)<k by omega];rw[axK] at hM;exact⟨_,_,rfl,by simp,_,_,_,rfl,rfl,hM,by simp only[go_sem,ya]<;>rfl⟩
end
section
variable {v:AV}{tm:Env}{hp:Hp}{T:List (List AV)}{out:List AV}{lv:List Nat}{C R S ct i:Nat}
def iy(b:Bool)(p:Nat->Nat->Rat)(l:Rat):Nat->Nat->Rat:=match b with
 | true=>fun k r=>mG (p k r-l)
 | false=>p
def An(v:AV)(lv:List Nat)(b:Bool)(i S:Nat):Env:=[(1,v),(2,.str lv),(3,.bool b),(4,.ptr 0 0),(10,oB i),(11,aa i),(12,.aq (bB i) 0 S)]
def gB.QC(hM:gB hp C R S i out T)(hS:S<=900)(pv:aW v=ydb){b:Bool}{r:Nat}(hk:bc tm [1,2,3,4,10,11,12,13]=gC v lv b i S r):∃an,bn [1,2,3,4,10,11,12,13] ⟨tm,hp,ct,0⟩=⟨gC v lv b i S r,an,bB i+1+S,0⟩/\gB an C R S i out T:=
 hM.comp (tm:=tm) hS (by rw[hk];cases i<;>simp only[go_sem,gC,eW pv,oB,bB]<;>rfl) (fun S' s1 s2=>by
  rw[hk];have s0:=s1 0 (by have:=CM i;omega)
  cases i with
  | zero=>
   have s2:dz 1 S' 0=Gp 1:=s2;simp only[go_sem,s0,s2,jB _ pv,gC,oB,bB]<;>rfl
  | succ i=>
   have s2:dz 2 S' 0=Gp 2:=s2;have s3:=s1 1 (by simp[bB])
   simp only[go_sem,s0,s2,s3,jB _ pv,gC,oB,bB]<;>rfl)
def gB.azI(hM:gB hp C R S i out T)(hS:S<=900)(pv:aW v=ydb){b:Bool}{r k:Nat}(hk:bc tm [1,2,3,4,10,11,12,13,14]=gC v lv b i S r++[(14,aa k)]):∃an,bn [1,2,3,4,10,11,12,13,14] ⟨tm,hp,ct,0⟩=⟨gC v lv b i S r++[(14,aa k)],an,bB i+1+S,0⟩/\gB an C R S i out T:=
 hM.comp (tm:=tm) hS (by rw[hk];cases i<;>simp only[go_sem,gC,yj,yy,eW pv,oB,bB]<;>rfl) (fun S' s1 s2=>by
  rw[hk];have s0:=s1 0 (by have:=CM i;omega)
  cases i with
  | zero=>
   have s2:dz 1 S' 0=Gp 1:=s2;simp only[go_sem,s0,s2,jB _ pv,gC,yj,yy,oB,bB]<;>rfl
  | succ i=>
   have s2:dz 2 S' 0=Gp 2:=s2;have s3:=s1 1 (by simp[bB])
   simp only[go_sem,s0,s2,s3,jB _ pv,gC,yj,yy,oB,bB]<;>rfl)
def atS(h:Rx P L)(FI:Has P L 271 HC)(nP:Has P L 315 Av)(zh:Has P L 449 BN){p:Nat->Nat->Rat}{l:Rat}(pv:aW v=ydb)(hS:S<=8)(kp:∀a b,a<S->b<S->Hq 2400 (p a b))(kl:Hq 2400 l):
  c6 P L [1,2,3,4,10,11,12,13] CS (fun d st=>∃r hp,r+d=S/\gB hp C R S i out (cg (pU p l r 0) S S)/\st=⟨gC v (RT l) ydb i S r,hp,bB i+1+S,0⟩) (fun ex s'=>∃tm hp ct,s'=⟨tm,hp,ct,0⟩/\ex=.exit 2/\gB hp C R S i out (cg (iy ydb p l) S S)/\bc tm [1,2,3,4,10,11,12]=An v (RT l) ydb i S):=by
 apply c9;rintro d st ⟨r,hp,fN,hM,rfl⟩;have jW:=hM.bx;simp only[da] at jW;by_cases hr:r<S
 .left
  have dV:(r:Int)<S:=by omega
  have w5:IntKind.wrap .i64 ((r:Int)+1)=((r+1:Nat):Int):=wrap64 (by omega) (by omega);have key:=axM (C:=C) (R:=R) (i:=i) (b:=ydb) (out:=out) h FI nP zh pv hS hr kp kl;simp only[go_sem,ya,CS,gC,jW,aY,yd,yH,yf,dV];generalize hq:D P L (.loop _ Lb) _=q;obtain⟨aX,e1,nZ⟩:=hM.azI (by omega) pv (lv:=RT l) (b:=ydb) (r:=r) (k:=0) (ct:=bB i+1+S) (tm:=[(14,AV.int .i64 0),(34,AV.bool ydb),(33,AV.bool ydb),(32,AV.bool ydb),(31,AV.bool ydb),(30,aa S),(29,AV.ptr 0 2),(28,aa r),(1,v),(2,AV.str (RT l)),(3,AV.bool ydb),(4,AV.ptr 0 0),(10,oB i),(11,aa i),(12,AV.aq (bB i) 0 S),(13,aa r)]) (by simp only[go_sem,ya,gC,yj,yy]<;>rfl)
  obtain⟨ex,st,rfl,tm,jP,ct,rfl,rfl,Gn,lX⟩:=bL hq (key S) ⟨0,aX,by omega,nZ,e1⟩;obtain⟨SZ,e3,Ed⟩:=Gn.QC (by omega) pv lX (ct:=ct);simp only[go_sem,ya,e3,gC,w5];obtain⟨NE,e4,hM4⟩:=Ed.QC (by omega) pv (lv:=RT l) (b:=ydb) (r:=r+1) (ct:=bB i+1+S) (tm:=[(13,aa (r+1:Nat)),(36,aa (r+1:Nat)),(35,aa r),(1,v),(2,AV.str (RT l)),(3,AV.bool ydb),(4,AV.ptr 0 0),(10,oB i),(11,aa i),(12,AV.aq (bB i) 0 S),(13,aa r)]) (by simp only[go_sem,ya,gC]<;>rfl)
  exact⟨_,d-1,rfl,by omega,r+1,NE,by omega,hM4,e4⟩
 .right
  have NP:r=S:=by omega
  subst NP;simp only[go_sem,ya,CS,gC,jW,aY,yd,yH,yf,show ¬(r:Int)<r by omega];rw[axL] at hM;exact⟨_,_,rfl,by simp,_,_,_,rfl,rfl,hM,by simp only[go_sem,ya]<;>rfl⟩
def atT{p:Nat->Nat->Rat}{l:Rat}(pv:aW v=ydb)(hS:S<=8)(fF:0<S)(hM:gB hp C R S i out (cg p S S))(hk:bc tm [1,2,3,4,10,11,12,13]=gC v lv ydc i S 0):
  ∃ex s',D P L (.loop [1,2,3,4,10,11,12,13] CS) ⟨tm,hp,ct,0⟩=Gp (ex,s')/\∃tm hp ct,s'=⟨tm,hp,ct,0⟩/\ex=.exit 2/\gB hp C R S i out (cg (iy ydc p l) S S)/\bc tm [1,2,3,4,10,11,12]=An v lv ydc i S:=by
 obtain⟨aX,e1,nZ⟩:=hM.QC (by omega) pv hk (ct:=ct)
 refine OV (I:=fun _ st=>st=⟨gC v lv ydc i S 0,aX,bB i+1+S,0⟩)
  (Q:=fun ex s'=>∃tm hp ct,s'=⟨tm,hp,ct,0⟩/\ex=.exit 2/\gB hp C R S i out (cg (iy ydc p l) S S)/\bc tm [1,2,3,4,10,11,12]=An v lv ydc i S) ?_ 0 _ e1
 rintro d st rfl;right
 have jW:=nZ.bx;simp only[da] at jW;have hS1:(0:Int)<S:=by omega
 simp only[go_sem,ya,CS,gC,jW,aY,yd,yH,yf,hS1,show ((0:Nat):Int)=0 from rfl];exact⟨_,_,rfl,by simp,_,_,_,rfl,rfl,nZ,by simp only[go_sem,ya]<;>rfl⟩
end
section
variable {hp:Hp}{T:List (List AV)}{W:List Nat}
structure NQ(hp:Hp)(k:Nat)(W:List Nat)(T:List (List AV)):Prop where
 l:W.length=T.length
 m:∃rw,ai hp k=Gp (.cells rw ydc ydc 1 (fy (fW k T.length) W))
 r:∀i,i<T.length->∃rw,ai hp (k+1+i)=Gp (.cells rw ydb ydc 1 (gT T i))
def iw.loose{k:Nat}(h:iw hp k W T):NQ hp k W T:=⟨h.l,⟨_,h.m⟩,fun i hi=>⟨_,h.r i hi⟩⟩
theorem axN:Nonempty bz:=⟨⟨default,⟨fun _=>none,fun _=>none⟩,id,fun _=>none,fun _=>⟨0,fun _=>none,fun _=>[],fun _=>none,fun _=>.pure,fun _=>[]⟩,default⟩⟩
def adJ{an:Hp}(h:cN hp an){id:Nat}{rw pu ex:Bool}{z:Nat}{cs:List AV}(g:ai hp id=Gp (.cells rw pu ex z cs)):∃bZ,ai an id=Gp (.cells bZ pu ex z cs):=by
 obtain⟨o',g',hl⟩:=h _ _ g;obtain⟨bZ,rfl,_⟩:=hl;exact⟨bZ,g'⟩
def NQ.aj{k:Nat}(h:NQ hp k W T)(hw:∀i (h1:i<T.length) (h2:i<W.length),T[i].length=W[i])(hM:T.length<=900){n:Nat}(hn:910<=n):
  ∃an,freeze (n+3) hp (.aq k 0 T.length)=Gp (.ap ydc T.length (vh (fun w r=>.ap ydc w r) W T),an)/\NQ an k W T/\(∀j,j≠k->(∀i,i<T.length->j≠k+1+i)->ai an j=ai hp j):=by
 obtain⟨FN,hm⟩:=h.m;obtain⟨aX,e1,g1⟩:=OG (sz:=1) (y:=ydc) (by decide) (fW k T.length) W T hp (n+1) (by rw[jj];omega) (jj _ _) h.l (fun i h1 h2 h3=>by
  obtain⟨Ij,g⟩:=h.r i h2;refine⟨by rw[ym];exact hw i h2 h3,Ij,?_⟩
  rw[zX]
  rwa[Am h2] at g)
 have ef:freeze (n+3) hp (.aq k 0 T.length)=Gp (.ap ydc T.length (vh (fun w r=>.ap ydc w r) W T),aU aX k (.cells ydc ydc ydc 1 (fy (fW k T.length) W))):=by
  rw[Ks,Kt,hm,V3 e1];exact mj ydc (by rw[ybh,h.l,ycG,ym]) (by decide)
 have hle:=(Ot (O:=Classical.choice axN) ef).1;refine⟨_,ef,⟨h.l,adJ hle hm,fun i hi=>?_⟩,fun j hj FW=>?_⟩
 .obtain ⟨Ij,g⟩:=h.r i hi;exact adJ hle g
 .rw [Gx,yr hj];refine g1 j (fun hm=>?_);obtain⟨i,hi,e⟩:=wE.1 hm;rw[zX] at e;rw[jj] at hi;exact FW i hi e.symm
end
section
variable {hp:Hp}{T:List (List AV)}{out:List AV}{C R S i:Nat}
def lj(C R S:Nat)(out:List AV):Nat->Hp
 | 0=>[(0,da C R S)]
 | _+1=>[(1,.cells ydb ydb ydc 2 out),(0,da C R S)]
def Ao(v:AV)(lv:List Nat)(b:Bool)(i:Nat):Env:=[(1,v),(2,.str lv),(3,.bool b),(4,.ptr 0 0),(10,oB i),(11,aa i)]
def gB.azJ(hM:gB hp C R S i out T)(hS:S<=900){tm:Env}{v:AV}(pv:aW v=ydb){lv:List Nat}{b:Bool}{ct:Nat}(hk:bc tm [1,2,3,4,10,11,12]=An v lv b i S):∃an,bn [1,2,3,4,10,11,12] ⟨tm,hp,ct,0⟩=⟨An v lv b i S,an,bB i+1+S,0⟩/\gB an C R S i out T:=
 hM.comp (tm:=tm) hS (by rw[hk];cases i<;>simp only[go_sem,An,eW pv,oB,bB]<;>rfl) (fun S' s1 s2=>by
  rw[hk];have s0:=s1 0 (by have:=CM i;omega)
  cases i with
  | zero=>
   have s2:dz 1 S' 0=Gp 1:=s2;simp only[go_sem,s0,s2,jB _ pv,An,oB,bB]<;>rfl
  | succ i=>
   have s2:dz 2 S' 0=Gp 2:=s2;have s3:=s1 1 (by simp[bB])
   simp only[go_sem,s0,s2,s3,jB _ pv,An,oB,bB]<;>rfl)
def am2(C R S:Nat)(out:List AV)(i:Nat)(ho:eZ out=[]):fS (bB i) (bB i) (lj C R S out i)/\b7 (bB i) (lj C R S out i)=[]:=by
 cases i with
 | zero=>exact⟨⟨by decide,by simp[Ad,da,mN],trivial⟩,by simp[b7,lj,da,iT,eZ,bB]⟩
 | succ i=>exact⟨⟨by simp[bB],by simp[Ad],by simp[bB],by simp[Ad,da,mN],trivial⟩,by simp[b7,lj,da,iT,eZ,bB]⟩
def atU{J:Hp}{p:Nat->Nat->Rat}(hJ:∀q,q∈J->bB i<=q.1)(hM:iw (J++lj C R S out i) (bB i) ((cg p S S).map xT) (cg p S S)):gB (J++lj C R S out i) C R S i out (cg p S S):=by
 obtain⟨l1,l2⟩:=CM i;rw[ahd] at hM;refine⟨by rw[aby hJ (by omega)];cases i<;>rfl,fun h0=>?_,hM,Bo _ _ _⟩
 cases i with
 | zero=>omega
 | succ i=>rw[aby hJ (by simp[bB])];rfl
structure Si(hp:Hp)(C R S i:Nat)(out:List AV)(T:List (List AV)):Prop where
 bx:ai hp 0=Gp (da C R S)
 o:0<i->ai hp 1=Gp (.cells ydb ydb ydc 2 out)
 m:NQ hp (bB i) (yz S S) T
 l:T.length=S
def gB.loose(h:gB hp C R S i out T):Si hp C R S i out T:=⟨h.bx,h.o,h.m.loose,h.l⟩
def Si.aj{p:Nat->Nat->Rat}(h:Si hp C R S i out (cg p S S))(hS:S<=900){n:Nat}(hn:910<=n):∃an,freeze (n+3) hp (.aq (bB i) 0 S)=Gp (.ap ydc S (Ee p S S),an)/\Si an C R S i out (cg p S S):=by
 obtain⟨l1,l2⟩:=CM i;obtain⟨an,e,g1,g2⟩:=h.m.aj (fun j h1 h2=>by rw[PD,CL,tj]) (by rw[h.l];exact hS) hn
 rw[h.l] at e;refine⟨an,?_,?_,fun h0=>?_,g1,h.l⟩
 .rw [e];unfold Ee;rw[ahd]
 .rw [g2 0 (by omega) (fun j hj=>by omega)];exact h.bx
 .have:bB i=2:=by
   cases i with
   | zero=>omega
   | succ i=>rfl
  rw[g2 1 (by omega) (fun j hj=>by omega)];exact h.o h0
end
section
variable {b:Bool}{out:List AV}{S:Nat}{l:Rat}
def afD{live:List Nat}{tm tm':Env}{hp:Hp}{ct a:Nat}{FN qd Ij ex1:Bool}{z0 z1:Nat}{c0 c1:List AV}(h0:ai hp 0=Gp (.cells FN ydb qd z0 c0))(h1:ai hp a=Gp (.cells Ij ydb ex1 z1 c1))(ha:a≠0)(hE:cJ (bc tm live)=[0,a])(hT:∀S,dz 0 S 0=Gp 0->dz a S 0=Gp 1->dw (pos S) (bc tm live)=tm'):
  bn live ⟨tm,hp,ct,0⟩=⟨tm',[(1,.cells Ij ydb ex1 z1 c1),(0,.cells FN ydb qd z0 c0)],2,0⟩:=by
 have hn:[0,a].Nodup:=by simp;omega
 have hR:mD hp 100000 (cJ (bc tm live)) []=[0,a]:=by
  have:=Kx hp [0,a] [] [] 100000 (by simp) (fun i hi=>by
   rcases xy.1 hi with rfl | hi
   .exact ⟨_,h0,rfl⟩
   .rw [xu.1 hi];exact⟨_,h1,rfl⟩) hn (by simp)
  rw[hE];rw[xU] at this;rw[this,Vu hp (by simp)];rfl
 have pp:=fun j (h:j<[0,a].length)=>CK [0,a] 0 j h hn
 have p0:dz 0 [0,a] 0=Gp 0:=by have:=pp 0 (by simp);simpa using this
 have p1:dz a [0,a] 0=Gp 1:=by have:=pp 1 (by simp);simpa using this
 rw[ax,hR,Vi,hT [0,a] p0 p1];simp[eF,h0,h1,gL]
def ahe{p:Nat->Nat->Rat}(kp:∀a c,a<S->c<S->Hq 429 (p a c))(kl:Hq 2400 l):∀a c,a<S->c<S->Hq 3000 (iy b p l a c):=fun a c ha hc=>by
 cases b with
 | false=>exact (kp a c ha hc).mono (by decide)
 | true=>exact (aha ((kp a c ha hc).sub kl)).mono (by decide)
def ama(q:Rat):bW q.num<=0↔q<=0:=by
 have h:=abr q;constructor
 .intro k;exact yaw.1 fun hq=>by have:=h.2 hq;omega
 .intro k;exact Int.not_lt.1 fun hq=>by have:=h.1 hq;grind
def axO(h:Rx P L)(FI:Has P L 271 HC)(nP:Has P L 315 Av)(zh:Has P L 449 BN){v:AV}{C R i:Nat}{p:Nat->Nat->Rat}{hp:Hp}{tm:Env}{ct:Nat}(pv:aW v=ydb)(hS:S<=8)(fF:0<S)(kp:∀a b,a<S->b<S->Hq 429 (p a b))(kl:Hq 2400 l)(hM:gB hp C R S i out (cg p S S))(hk:bc tm [1,2,3,4,10,11,12,13]=gC v (RT l) b i S 0):
  ∃ex s',D P L (.loop [1,2,3,4,10,11,12,13] CS) ⟨tm,hp,ct,0⟩=Gp (ex,s')/\∃tm hp ct,s'=⟨tm,hp,ct,0⟩/\ex=.exit 2/\gB hp C R S i out (cg (iy b p l) S S)/\bc tm [1,2,3,4,10,11,12]=An v (RT l) b i S:=by
 cases b with
 | false=>exact atT pv hS fF hM hk
 | true=>
  have A5:gB hp C R S i out (cg (pU p l 0 0) S S):=by rw[aCS];exact hM
  obtain⟨aX,e1,nZ⟩:=A5.QC (by omega) pv hk (ct:=ct);exact atS h FI nP zh pv hS (fun a b ha hb=>(kp a b ha hb).mono (by decide)) kl S _ ⟨0,aX,by omega,nZ,e1⟩
def am3(n:Nat)(H:Hp)(ct:Nat)(xs:List AV):eL P L (D P L) H ct .heap (.fn (.f n) [] []) xs=iQ P L (D P L) H ct n xs:=by
 simp[eL]
structure NR(P:aE)(L:Lib):Prop extends Rx P L,Fy P L where
 nP:Has P L 315 Av
 zh:Has P L 449 BN
 AE:Has P L 788 Ft
 zj:Has P L 789 Fq
 YA:Has P L 790 RG
 p6:Has P L 800 Dh
 AD:Has P L 801 Fs
noncomputable def mi(b:Bool)(F:List (List Nat))(l:Rat)(C S i:Nat):Rat:=jO (fb (iy b (fM F C S i) l) S S)
noncomputable def Ti(b:Bool)(F:List (List Nat))(l:Rat)(C S i:Nat):List AV:=[.str (RT (bH (cX (iy b (fM F C S i) l) S) (S*S)/mi b F l C S i)),.str (RT (bH (cY (iy b (fM F C S i) l) S) (S*S)/mi b F l C S i))]
def axP(h:NR P L){v:AV}{F:List (List Nat)}{C R i:Nat}(hv:cC dD v F)(hF:gh F (R*S) (C*S))(hC:C<=8)(hR:R<=8)(hS:S<=8)(fF:0<S)(hi:i<C*R)(kl:Hq 2400 l)(ho:aF out=ydb)(M2:eZ out=[])(M7:out.length=i*2):
  ∃ex s',D P L Hc ⟨Ao v (RT l) b i,lj C R S out i,bB i,0⟩=Gp (ex,s')/\((mi b F l C S i<=0/\ex=.ret/\ak s'.tm 8=.ah/\ak s'.tm 9=aa 6)\/(¬mi b F l C S i<=0/\ex=.normal/\bn [1,2,3,4,10,11] s'=⟨Ao v (RT l) b (i+1),lj C R S (out++Ti b F l C S i) (i+1),2,0⟩)):=by
 have JC:C*R<=64:=xf hC hR;have m1:(C:Int)*(R:Int)=((C*R:Nat):Int):=by rw[xS]
 have w1:IntKind.wrap .i64 ((C*R:Nat):Int)=((C*R:Nat):Int):=wrap64 (by omega) (by omega);have w5:IntKind.wrap .i64 ((i:Int)+1)=((i+1:Nat):Int):=wrap64 (by omega) (by omega);have qF:(i:Int)<((C*R:Nat):Int):=by omega
 have fz:=lh;obtain⟨ej,cQ⟩:=am2 C R S out i M2;have kp:=V5 (S:=S) hF hi;have ka:=ahe (b:=b) kp kl;obtain⟨J,eh,hJ,hMk⟩:=azG h.toFy h.AE hv hF hC hR hS fF hi rfl ej (by rw[cQ];decide)
 have hM:=atU hJ hMk;have Ca:ai (lj C R S out i) 0=Gp (.cells ydb ydb ydb 3 [aa C,aa R,aa S]):=by cases i<;>rfl
 simp only[go_sem,ya,Hc,Ao,Ca,aY,yd,yH,yf,fB,m1,w1,qF,am3,eh];generalize hq:D P L (.loop _ CS) _=q;obtain⟨ex,st,Ta,tm,aX,ct,rfl,rfl,nZ,lX⟩:=axO (P:=P) (L:=L) (ct:=bB i+1+S) (tm:=[(13,AV.int .i64 0),(12,.aq (bB i) 0 S),(27,.aq (bB i) 0 S),(26,aa i),(25,v),(24,AV.agg [aa C,aa R,aa S]),(21,AV.bool ydb),
          (20,AV.int IntKind.i64 (C*R:Nat)),(19,aa R),(18,AV.ptr 0 1),(17,aa C),(16,AV.ptr 0 0),
          (15,aa i),(1,v),(2,AV.str (RT l)),(3,AV.bool b),(4,AV.ptr 0 0),(10,oB i),(11,aa i)]) h.toRx h.FI h.nP h.zh (i:=i) (b:=b) (l:=l) hv.pu hS fF kp kl hM (by simp only[go_sem,ya,gC]<;>rfl)
 have Ta:=hq.symm.trans Ta;subst Ta;obtain⟨jP,e2,Gn⟩:=nZ.azJ (by omega) hv.pu lX (ct:=ct);obtain⟨SZ,e3,hL3⟩:=Gn.loose.aj (by omega) (n:=996) (by decide);obtain⟨NE,e4,hL4⟩:=hL3.aj (by omega) (n:=995) (by decide);have oQ:=afB (iy b (fM F C S i) l) S;have e5:=WU h.toRn.toRp h.p6 h.zj oQ (by rw[Ki];exact hS) (Vw hS ka) (by decide)
 have e6:=Qs h.toRn.toRm (QA hS (yp 3000) ka) (by decide);have aiX:=hL3.bx;simp only[da] at aiX;unfold ab at e5 e6;simp only[go_sem,ya,e2,An,e3,e5,e6];have A2:decide (bW (jO (fb (iy b (fM F C S i) l) S S)).num<=0)=decide (mi b F l C S i<=0):=tQ.2 (ama _);rw[A2];by_cases c:mi b F l C S i<=0
 .rw [xk c];simp only[go_sem];exact⟨_,_,rfl,.inl ⟨c,rfl,by simp only[go_sem,ya],by simp only[go_sem]<;>rfl⟩⟩
 .rw [yW c];have eI:jO (fb (iy b (fM F C S i) l) S S)≠0:=fun q=>c (by unfold mi;rw[q];exact Rat.le_refl)
  have e7:=aCM (C:=C) (R:=R) h.toRx h.zj h.YA h.p6 h.AD hS (yp 3000) ka oQ eI;unfold ab at e7;have hcc:Ti b F l C S i=[.str (RT (bH (cX (iy b (fM F C S i) l) S) (S*S)/jO (fb (iy b (fM F C S i) l) S S))),.str (RT (bH (cY (iy b (fM F C S i) l) S) (S*S)/jO (fb (iy b (fM F C S i) l) S S)))]:=rfl;rw[hcc];generalize RT (bH (cX (iy b (fM F C S i) l) S) (S*S)/jO (fb (iy b (fM F C S i) l) S S))=x1 at*
  generalize RT (bH (cY (iy b (fM F C S i) l) S) (S*S)/jO (fb (iy b (fM F C S i) l) S S))=x2 at*
  have cm:∀(tm:Env) (r:List (Nat×Nat×X)),kX tm [.str [],.str []] 0 2 [.str x1,.str x2] r=fill tm [.str x1,.str x2] r:=fun tm r=>rfl
  have g0:=hL4.bx;simp only[da] at g0;simp only[go_sem,ya,yb,xp,aiX,yd,yf,fB,fz,e4,e7,cm,iB];have zM:DP 0 1 2 (Gp (Obj.cells ydb ydb ydb 2 [AV.str x1,AV.str x2]))=Gp (1,[AV.str x1,AV.str x2]):=rfl
  cases i with
  | zero=>
   have Db:out=[]:=wZ.1 (by omega);subst Db;simp only[go_sem,ya,yb,xp,yx,yi,oB,zM,iA,w5];refine⟨_,_,rfl,.inr ⟨c,rfl,?_⟩⟩
   refine ybl (afD (a:=bB 0+1+S+1) (tm':=Ao v (RT l) b (0+1)) (by rw[dW _ _ (by omega),dW _ _ (by simp[bB])];exact g0) (by rw[iP]) (by omega) (by simp only[go_sem,ya,eW hv.pu]) (fun S' s1 s2=>by simp only[go_sem,ya,yb,s1,s2,jB _ hv.pu,Ao,oB]<;>rfl)) ?_
   rfl
  | succ i=>
   have g1:=hL4.o (Nat.zero_lt_succ _);simp only[go_sem,oB,zM]
   rw[gG (sz:=2) (ex:=ydc) (pu:=ydb) (cs:=out) (by rw[dW _ _ (by simp[bB];omega)];exact g1) M7 (by omega) (by omega) (by decide) (by simp only[go_sem]<;>rfl)]
   simp only[go_sem,ya,w5];refine⟨_,_,rfl,.inr ⟨c,rfl,?_⟩⟩
   refine ybl (afD (a:=bB (i+1)+1+S+1) (tm':=Ao v (RT l) b (i+1+1)) (by rw[dW _ _ (by omega),Cr,yr (by decide),dW _ _ (by simp[bB])];exact g0) (by rw[iP]) (by omega) (by simp only[go_sem,ya,eW hv.pu]) (fun S' s1 s2=>by simp only[go_sem,ya,s1,s2,jB _ hv.pu,Ao,oB]<;>rfl)) ?_
   rfl
end
noncomputable def n8(b:Bool)(F:List (List Nat))(l:Rat)(C S n:Nat):List AV:=((xY n).map fun i=>Ti b F l C S i).flatten
def adK(b:Bool)(F:List (List Nat))(l:Rat)(C S n:Nat):n8 b F l C S (n+1)=n8 b F l C S n++Ti b F l C S n:=by unfold n8;rw[vt,xg,List.flatten_append];simp
def V6(b:Bool)(F:List (List Nat))(l:Rat)(C S:Nat):∀n,(n8 b F l C S n).length=n*2/\aF (n8 b F l C S n)=ydb/\eZ (n8 b F l C S n)=[]
 | 0=>⟨rfl,rfl,rfl⟩
 | n+1=>by
  obtain⟨h1,h2,h3⟩:=V6 b F l C S n;rw[adK];refine⟨by rw[yJ,h1];show n*2+2=_;omega,?_,?_⟩
  .generalize n8 b F l C S n=o at*
   clear h1 h3
   induction o with
   | nil=>rfl
   | cons a o ih=>
    simp only[aF,ye,yj] at h2 ⊢;exact⟨h2.1,ih h2.2⟩
  .generalize n8 b F l C S n=o at*
   clear h1 h2
   induction o with
   | nil=>rfl
   | cons a o ih=>
    simp only[eZ,List.append_eq_nil_iff,yj] at h3 ⊢;exact⟨h3.1,ih h3.2⟩
def axQ(h:NR P L){v:AV}{F:List (List Nat)}{C R S:Nat}{b:Bool}{l:Rat}(hv:cC dD v F)(hF:gh F (R*S) (C*S))(hC:C<=8)(hR:R<=8)(hS:S<=8)(fF:0<S)(kl:Hq 2400 l):
  c6 P L [1,2,3,4,10,11] Hc (fun d st=>∃i,i+d=C*R/\(∀j,j<i->¬mi b F l C S j<=0)/\st=⟨Ao v (RT l) b i,lj C R S (n8 b F l C S i) i,bB i,0⟩) (fun ex s'=>(((∃i,i<C*R/\mi b F l C S i<=0)/\ex=.ret/\ak s'.tm 8=.ah/\ak s'.tm 9=aa 6)\/((∀j,j<C*R->¬mi b F l C S j<=0)/\ex=.exit 0/\∃tm ct,s'=⟨tm,lj C R S (n8 b F l C S (C*R)) (C*R),ct,0⟩/\ak tm 10=oB (C*R)))):=by
 apply c9;rintro d st ⟨i,hid,jM,rfl⟩;obtain⟨o1,o2,o3⟩:=V6 b F l C S i;by_cases hi:i<C*R
 .obtain ⟨ex,s',e,hh⟩:=axP h hv hF hC hR hS fF hi kl (b:=b) (out:=n8 b F l C S i) o2 o3 o1;rcases hh with ⟨c,rfl,t8,t9⟩ | ⟨c,rfl,hc⟩
  .right
   exact⟨_,_,e,by simp,.inl ⟨⟨i,hi,c⟩,rfl,t8,t9⟩⟩
  .left
   refine⟨_,d-1,e,by omega,i+1,by omega,fun j hj=>?_,?_⟩
   .by_cases q:j=i
    .rw [q];exact c
    .exact jM j (by omega)
   .rw [adK];exact hc
 .right
  have cG:i=C*R:=by omega
  have JC:C*R<=64:=xf hC hR;have m1:(C:Int)*(R:Int)=((C*R:Nat):Int):=by rw[xS]
  have w1:IntKind.wrap .i64 ((C*R:Nat):Int)=((C*R:Nat):Int):=wrap64 (by omega) (by omega);have Ca:ai (lj C R S (n8 b F l C S i) i) 0=Gp (.cells ydb ydb ydb 3 [aa C,aa R,aa S]):=by cases i<;>rfl
  subst cG;have hx:¬((C*R:Nat):Int)<((C*R:Nat):Int):=by omega
  simp only[go_sem,ya,Hc,Ao,Ca,aY,yd,yH,yf,m1,w1,hx];exact⟨_,_,rfl,by simp,.inr ⟨jM,rfl,_,_,rfl,by simp only[go_sem,ya]⟩⟩
end VE
