import Derived.Test.YtebpicijmcnecaaGreatDoorTas
import Derived.Test.YtebpicijmcnecaaGreatDoorTar
set_option linter.all false
set_option maxRecDepth 100000
open Bool renaming and_eq_true->yf,and_self->wL,false_and->wU,false_eq_true->yC,false_or->vh,not_false->yY,not_true->yX,true_and->wS,true_or->vN
open Eq renaming trans->ybj
open Go renaming DataW->xS,Field->ua,FloatKind->xX,IntKind->xc,MemPlace->wK,Program->xp,TypeId->yA,Value->yh,World->yj
open Go.FloatKind renaming f32->yaB
open Ieee renaming single->ycC
open Int renaming natCast_add->yaT,natCast_mul->xM,ofNat_tdiv->ycc,ofNat_tmod->ycb,toNat_natCast->xV,toNat_of_nonneg->vj
open List renaming any_eq_true->ybC,append_assoc->xy,append_nil->xT,cons_append->ym,drop_eq_getElem_cons->yZ,drop_eq_nil_of_le->xa,drop_succ_cons->yp,drop_zero->ye,flatMap_def->ybB,getD_eq_getElem?_getD->xd,getElem?_eq_getElem->xo,getElem_append_left->wH,getElem_append_right->wg,getElem_cons_succ->wV,getElem_cons_zero->wG,getElem_map->wB,getElem_mem->xU,getElem_range->tW,length->wb,length_append->yN,length_cons->yy,length_eq_zero_iff->vH,length_map->yU,length_nil->yJ,length_range->th,length_take->yT,mapM_cons->uS,map_append->xb,map_cons->y7,map_map->ybs,map_nil->wE,mem_append->xJ,mem_cons->xu,mem_cons_of_mem->xR,mem_cons_self->wA,mem_iff_getElem->uC,mem_map->ud,mem_range->vW,mem_range'_1->ue,mem_singleton->xz,nil_append->yG,nodup_append->tc,nodup_cons->wj,nodup_range'->uf,not_mem_nil->ybD,range->xx,range'->wo,range_succ->vd,replicate->yF,replicate_succ->wN,singleton_append->uo,take_length->xN,take_of_length_le->yK,take_succ_eq_append_getElem->xK,zipWith->vL,zipWith_cons_cons->yaK
open List.cons renaming injEq->tX
open Nat renaming add_assoc->uI,add_mul->xH,add_zero->y5,beq->yq,ble_eq_true_of_le->yB,blt->yO,div_lt_of_lt_mul->ybe,le_refl->yu,le_trans->xi,min_eq_left->xF,mod_lt->xG,mul_comm->xn,mul_le_mul->xf,mul_le_mul_right->yI,mul_one->yi,one_mul->uR,pos_of_ne_zero->yat,reduceAdd->yb,reduceEqDiff->ya,reduceLT->yz,reduceLeDiff->yk,reduceMul->xq,zero_add->yd,zero_mul->wq
open Option renaming bind_eq_bind->vX,bind_some->wF,map_eq_some_iff->wQ,pure_def->ve
open Option.some renaming injEq->yc
open Prod.mk renaming injEq->yo
open Rat renaming add_zero->ycD,le_refl->ybf,mul_comm->yaz,not_lt->tC
open Option renaming some->FL
open Bool renaming true->ycZ,false->yda
namespace VE
open Go (IntKind)
variable {P:aF}{L:Lib}
section
open Go
section
variable {H:Type}{enc:yA×yh->H}{P:xp}{w:yj}{base:Nat}{sp:Nat->Bool}{held:Bool}
def mapM_mem{α β:Type}{f:α->Option β}:∀{l:List α} {r:List β},l.mapM f=FL r->∀y,y∈r->∃x,f x=FL y
 | [],r,h,y,hy=>by simp only[List.mapM_nil,ve,yc] at h;subst h;cases hy
 | x::l,r,h,y,hy=>by
  rw[uS] at h
  cases h1:f x with
  | none=>simp[h1] at h
  | some z=>
   cases h2:l.mapM f with
   | none=>simp[h1,h2] at h
   | some zs=>
    simp only[h1,h2,wF,vX,ve,yc] at h;subst h;rcases xu.1 hy with rfl | hy
    .grind
    .exact mapM_mem h2 y hy
def Rd(enc:yA×yh->H)(P:xp)(w:yj)(base:Nat)(sp:Nat->Bool)(held:Bool)(t:yA)(d:xS H):Prop:=∃bn cs ps,DataW.trod enc P w base sp held bn t cs=FL (d,ps)
def av1{t:yA}{k:xc}{d:xS H}{n:Nat}(ht:P.underlying t=FL (.int k))(h:Rd enc P w base sp held t d):∃z,cS P (n+1) t d=[.int k z]/\(Lit.int k z).wf=ycZ:=by
 obtain⟨bn,cs,ps,h⟩:=h
 cases bn with
 | zero=>simp[DataW.trod] at h
 | succ bn=>
  unfold DataW.trod at h
  split at h
  all_goals first
   | (rename_i hu;rw[ht] at hu;cases hu;done)
   | skip
  .rename_i k1 k2 z hu;rw[ht] at hu;injection hu with hu
   injection hu with hu
   subst hu
   split at h
   .rename_i hk;obtain⟨rfl,rfl⟩:=h;exact⟨z,by simp only[cS,ht],hk.2⟩
   .cases h
  grind
def apD{t e:yA}{d:xS H}{n:Nat}(ht:P.underlying t=FL (.slice e))(h:Rd enc P w base sp held t d):
  cS P (n+1) t d=[.ah]\/∃(x:Bool) (kU:List (xS H)),cS P (n+1) t d=[.au x kU.length (kU.flatMap fun y=>cS P n e y)]/\∀y,y∈kU->Rd enc P w base sp held e y:=by
 obtain⟨bn,cs,ps,h⟩:=h
 cases bn with
 | zero=>simp[DataW.trod] at h
 | succ bn=>
  unfold DataW.trod at h
  split at h
  all_goals first
   | (rename_i hu;rw[ht] at hu;cases hu;done)
   | skip
  .simp only [yc,yo] at h;obtain⟨rfl,rfl⟩:=h;exact .inl (by simp only[cS,ht])
  .rename_i e' a len cap hu;rw[ht] at hu;injection hu with hu
   injection hu with hu
   subst hu;simp only at h
   split at h
   case isFalse=>cases h
   cases h1:(xx len).mapM fun i=>(w.cells? base (a.add (i*P.cellsOf e)) (P.cellsOf e)).bind (DataW.trod enc P w base sp held bn e) with
   | none=>rw[h1] at h;simp at h
   | some kU=>
    rw[h1] at h;obtain⟨rest,_,h⟩:=wQ.1 h;obtain⟨rfl,rfl⟩:=h;refine .inr ⟨(rest.map (·.1)).isEmpty,kU.map (·.1),by simp only[cS,ht,yU],?_⟩;intro y hy;obtain⟨p,hp,rfl⟩:=ud.1 hy;obtain⟨i,hi⟩:=mapM_mem h1 p hp;obtain⟨dB,_,BC⟩:=Option.bind_eq_some_iff.1 hi;exact⟨bn,dB,p.2,BC⟩
  grind
def anr{t:yA}{fs:Array ua}{d:xS H}{n:Nat}(ht:P.underlying t=FL (.struct fs))(h:Rd enc P w base sp held t d):
  ∃ds:List (xS H),ds.length=fs.toList.length/\cS P (n+1) t d=(fs.toList.zip ds).flatMap (fun x=>cS P n x.1.type x.2)/\∀i (h1:i<fs.toList.length) (h2:i<ds.length),Rd enc P w base sp held fs.toList[i].type ds[i]:=by
 obtain⟨bn,cs,ps,h⟩:=h
 cases bn with
 | zero=>simp[DataW.trod] at h
 | succ bn=>
  unfold DataW.trod at h
  split at h
  all_goals first
   | (rename_i hu;rw[ht] at hu;cases hu;done)
   | (cases h;done)
   | skip
  rename_i cs x1 MG fs' hu;rw[ht] at hu;injection hu with hu
  injection hu with hu
  subst hu
  split at h
  case isFalse=>cases h
  obtain⟨xs,h1,h⟩:=wQ.1 h;obtain⟨rfl,rfl⟩:=h;refine⟨xs.map (·.1),by simp[NP h1],by simp only[cS,ht],?_⟩;have key:∀{r:List ua} {xs:List (xS H×List wK)},r.mapM (fun f=>DataW.trod enc P w base sp held bn f.type ((cs.drop f.offset).take (P.cellsOf f.type)))=FL xs->
    ∀i (h1:i<r.length) (h2:i<(xs.map (·.1)).length),Rd enc P w base sp held r[i].type (xs.map (·.1))[i]:=by
   intro r
   induction r with
   | nil=>intro xs h i h1;exact absurd h1 (Nat.not_lt_zero i)
   | cons f r ih=>
    intro xs h i h1 h2;rw[uS] at h
    cases g1:DataW.trod enc P w base sp held bn f.type ((cs.drop f.offset).take (P.cellsOf f.type)) with
    | none=>simp[g1] at h
    | some x=>
     cases g2:r.mapM (fun f=>DataW.trod enc P w base sp held bn f.type ((cs.drop f.offset).take (P.cellsOf f.type))) with
     | none=>simp[g1,g2] at h
     | some ys=>
      simp only[g1,g2,wF,vX,ve,yc] at h;subst h
      cases i with
      | zero=>exact⟨bn,_,x.2,g1⟩
      | succ i=>exact ih g2 i (by simpa using h1) (by simpa using h2)
  exact key h1
def apE{t e:yA}{k:Nat}{d:xS H}{n:Nat}(ht:P.underlying t=FL (.array k e))(h:Rd enc P w base sp held t d):
  ∃ds:List (xS H),ds.length=k/\cS P (n+1) t d=ds.flatMap (fun x=>cS P n e x)/\∀y,y∈ds->Rd enc P w base sp held e y:=by
 obtain⟨bn,cs,ps,h⟩:=h
 cases bn with
 | zero=>simp[DataW.trod] at h
 | succ bn=>
  unfold DataW.trod at h
  split at h
  all_goals first
   | (rename_i hu;rw[ht] at hu;cases hu;done)
   | (cases h;done)
   | skip
  rename_i cs x1 MG k' e' hu;rw[ht] at hu;injection hu with hu
  injection hu with za BK
  subst za;subst BK
  split at h
  case isFalse=>cases h
  obtain⟨xs,h1,h⟩:=wQ.1 h;obtain⟨rfl,rfl⟩:=h;refine⟨xs.map (·.1),by simp[NP h1],by simp only[cS,ht],fun y hy=>?_⟩;obtain⟨p,hp,rfl⟩:=ud.1 hy;obtain⟨i,hi⟩:=mapM_mem h1 p hp;exact⟨bn,_,p.2,hi⟩
end
end
section
open Go
inductive Ty
 | int (k:xc)
 | av (k:xX)
 | bool
 | str
 | sl (e:Ty)
 | nil
 | cat (a b:Ty)
 | ar (n:Nat) (e:Ty)
def nd:Ty->List AV->Prop
 | .int k,l=>∃z,l=[.int k z]/\(Lit.int k z).wf=ycZ
 | .av k,l=>∃b,l=[.av k b]/\(Lit.float k b).wf=ycZ
 | .bool,l=>∃b,l=[.bool b]
 | .str,l=>∃s:List Nat,l=[.str s]/\s.length<9223372036854775808/\∀c,c∈s->c<256
 | .sl e,l=>l=[.ah]\/∃(x:Bool) (ps:List (List AV)),l=[.au x ps.length ps.flatten]/\∀p,p∈ps->nd e p
 | .nil,l=>l=[]
 | .cat a b,l=>∃x y,l=x++y/\nd a x/\nd b y
 | .ar n e,l=>∃ps:List (List AV),ps.length=n/\l=ps.flatten/\∀p,p∈ps->nd e p
def om:List (Option Ty)->Option Ty
 | []=>FL .nil
 | some a::r=>match om r with
  | some b=>FL (.cat a b)
  | none=>none
 | none::_=>none
def gL(P:xp):Nat->yA->Option Ty
 | 0,_=>none
 | n+1,t=>
  match P.underlying t with
  | some .bool=>FL .bool
  | some (.int k)=>FL (.int k)
  | some (.float k)=>FL (.av k)
  | some .string=>FL .str
  | some (.slice e)=>(gL P n e).map .sl
  | some (.struct fs)=>om (fs.toList.map fun f=>gL P n f.type)
  | some (.array k e)=>(gL P n e).map (.ar k)
  | _=>none
section
variable {H:Type}{enc:yA×yh->H}{P:xp}{w:yj}{base:Nat}{sp:Nat->Bool}{held:Bool}
def av2{t:yA}{k:xX}{d:xS H}{n:Nat}(ht:P.underlying t=FL (.float k))(h:Rd enc P w base sp held t d):∃b,cS P (n+1) t d=[.av k b]/\(Lit.float k b).wf=ycZ:=by
 obtain⟨bn,cs,ps,h⟩:=h
 cases bn with
 | zero=>simp[DataW.trod] at h
 | succ bn=>
  unfold DataW.trod at h
  split at h
  all_goals first
   | (rename_i hu;rw[ht] at hu;cases hu;done)
   | skip
  .rename_i k1 k2 z hu;rw[ht] at hu;injection hu with hu
   injection hu with hu
   subst hu
   split at h
   .rename_i hw;obtain⟨rfl,rfl⟩:=h;exact⟨z,by simp only[cS,ht],hw.2⟩
   .cases h
  grind
def ar9{t:yA}{d:xS H}{n:Nat}(ht:P.underlying t=FL .bool)(h:Rd enc P w base sp held t d):∃b,cS P (n+1) t d=[.bool b]:=by
 obtain⟨bn,cs,ps,h⟩:=h
 cases bn with
 | zero=>simp[DataW.trod] at h
 | succ bn=>
  unfold DataW.trod at h
  split at h
  all_goals first
   | (rename_i hu;rw[ht] at hu;cases hu;done)
   | skip
  .simp only [yc,yo] at h;obtain⟨rfl,rfl⟩:=h;rename_i b _;exact⟨b,by simp only[cS,ht]⟩
  grind
def av3{t:yA}{d:xS H}{n:Nat}(ht:P.underlying t=FL .string)(h:Rd enc P w base sp held t d):
  ∃s:List Nat,cS P (n+1) t d=[.str s]/\s.length<9223372036854775808/\∀c,c∈s->c<256:=by
 obtain⟨bn,cs,ps,h⟩:=h
 cases bn with
 | zero=>simp[DataW.trod] at h
 | succ bn=>
  unfold DataW.trod at h
  split at h
  all_goals first
   | (rename_i hu;rw[ht] at hu;cases hu;done)
   | skip
  .rename_i s hu
   split at h
   .rename_i hs;obtain⟨rfl,rfl⟩:=h;refine⟨_,by simp only[cS,ht];rfl,?_,fun c hc=>?_⟩
    .simp only [yU,Array.length_toList];have h1:s.size<=9223372036854775807:=hs;have h2:s.data.size=s.size:=rfl;omega
    .obtain ⟨b,_,rfl⟩:=ud.1 hc;exact b.toNat_lt
   .cases h
  grind
def aaB{n:Nat}(ih:∀{t:yA} {T:Ty} {d:xS H},gL P n t=FL T->Rd enc P w base sp held t d->nd T (cS P n t d)):
  ∀(fs:List ua) (ds:List (xS H)) (T:Ty),om (fs.map fun f=>gL P n f.type)=FL T->ds.length=fs.length->(∀i (h1:i<fs.length) (h2:i<ds.length),Rd enc P w base sp held fs[i].type ds[i])->
   nd T ((fs.zip ds).flatMap fun x=>cS P n x.1.type x.2)
 | [],ds,T,hT,_,_=>by
  simp only[wE,om,yc] at hT;subst hT;simp[nd]
 | f::fs,[],T,_,hl,_=>by simp at hl
 | f::fs,d::ds,T,hT,hl,hr=>by
  simp only[y7] at hT
  cases h1:gL P n f.type with
  | none=>simp[h1,om] at hT
  | some a=>
   cases h2:om (fs.map fun f=>gL P n f.type) with
   | none=>simp[h1,h2,om] at hT
   | some b=>
    simp only[h1,h2,om,yc] at hT;subst hT;exact⟨_,_,rfl,ih h1 (hr 0 (by simp) (by simp)),aaB ih fs ds b h2 (by simpa using hl) (fun i h1 h2=>hr (i+1) (by simpa using h1) (by simpa using h2))⟩
def aet:∀(n:Nat) {t:yA} {T:Ty} {d:xS H},gL P n t=FL T->Rd enc P w base sp held t d->nd T (cS P n t d)
 | 0,t,T,d,hT,_=>by simp[gL] at hT
 | n+1,t,T,d,hT,hr=>by
  have ih:=@aet n
  cases hu:P.underlying t with
  | none=>simp[gL,hu] at hT
  | some u=>
   cases u with
   | slice e=>
    simp only[gL,hu] at hT;obtain⟨E,hE,rfl⟩:=wQ.1 hT
    rcases apD (n:=n) hu hr with h | ⟨x,kU,h,hm⟩
    .exact .inl h
    .refine .inr ⟨x,kU.map (cS P n e),by rw[h,yU,ybB],fun p hp=>?_⟩
     grind
   | struct fs=>
    simp only[gL,hu] at hT;obtain⟨ds,e1,e2,e3⟩:=anr (n:=n) hu hr;rw[e2];exact aaB ih fs.toList ds T hT e1 e3
   | array k e=>
    simp only[gL,hu] at hT;obtain⟨E,hE,rfl⟩:=wQ.1 hT;obtain⟨ds,e1,e2,e3⟩:=apE (n:=n) hu hr;refine⟨ds.map (cS P n e),by simp[e1],by rw[e2,ybB],fun p hp=>?_⟩
    grind
   | int k=>
    simp only[gL,hu,yc] at hT;subst hT;exact av1 hu hr
   | float k=>
    simp only[gL,hu,yc] at hT;subst hT;exact av2 hu hr
   | bool=>
    simp only[gL,hu,yc] at hT;subst hT;exact ar9 hu hr
   | string=>
    simp only[gL,hu,yc] at hT;subst hT;exact av3 hu hr
   | _=>simp[gL,hu] at hT
def Ht:Ty->List AV->AV
 | .nil,l | .cat _ _,l | .ar _ _,l=>.agg l
 | _,l=>l.headD .undef
def ans:∀{l:List (Option Ty)} {T:Ty},om l=FL T->∀x,Ht T x=.agg x
 | [],T,h=>by simp only[om,yc] at h;subst h;exact fun _=>rfl
 | none::r,T,h=>by simp[om] at h
 | some a::r,T,h=>by
  cases h1:om r with
  | none=>simp[om,h1] at h
  | some b=>
   simp only[om,h1,yc] at h;subst h;exact fun _=>rfl
def aye{n:Nat}{t:yA}{T:Ty}{d:xS H}(hT:gL P n t=FL T):mL P n t d=Ht T (cS P n t d):=by
 cases n with
 | zero=>simp[gL] at hT
 | succ n=>
  cases hu:P.underlying t with
  | none=>simp[gL,hu] at hT
  | some u=>
   cases u with
   | slice e=>
    simp only[gL,hu] at hT;obtain⟨E,hE,rfl⟩:=wQ.1 hT;simp only[mL,hu,Ht]
   | struct fs=>
    simp only[gL,hu] at hT;rw[ans hT];simp only[mL,hu]
   | array k e=>
    simp only[gL,hu] at hT;obtain⟨E,hE,rfl⟩:=wQ.1 hT;simp only[mL,hu,Ht]
   | _=>
    simp only[gL,hu,yc,reduceCtorEq] at hT<;>
    (subst hT
     simp only[mL,hu,Ht])
def KR:List Ty->List (List AV)->List AV
 | T::Ts,l::ls=>Ht T l::KR Ts ls
 | _,_=>[]
def acD{n:Nat}:∀{ts:List yA} {Ts:List Ty} {vs:List yh} {ds:List (xS H)} {ps:List wK},(ts.map (gL P n))=Ts.map FL->DataW.TrodAll enc P w base sp held ts vs ds ps->
  ∃ls,jP nd Ts ls/\A1 P n ts ds=KR Ts ls/\ds.length=ts.length
 | [],[],[],[],ps,_,_=>⟨[],trivial,rfl,rfl⟩
 | t::ts,T::Ts,v::vs,d::ds,ps,hT,⟨p,q,⟨bn,h1⟩,h2,_⟩=>by
  simp only[y7,tX] at hT;have⟨ls,k1,k2,k3⟩:=acD hT.2 h2;exact⟨cS P n t d::ls,⟨aet n hT.1 ⟨bn,_,_,h1⟩,k1⟩,by simp only[A1,KR,k2,aye hT.1],by simp[k3]⟩
 | [],_::_,_,_,_,h,_=>by simp at h
 | _::_,[],_,_,_,h,_=>by simp at h
 | [],[],_::_,_,_,_,h=>by simp[DataW.TrodAll] at h
 | [],[],[],_::_,_,_,h=>by simp[DataW.TrodAll] at h
 | _::_,_,[],_,_,_,h=>by simp[DataW.TrodAll] at h
 | _::_,_,_::_,[],_,_,h=>by simp[DataW.TrodAll] at h
def av4{α β:Type}{p:α->β->Prop}{a:α}:∀{l:List β},jP p [a] l->∃x,l=[x]/\p a x
 | [x],h=>⟨x,rfl,h.1⟩
 | [],h=>h.elim
 | _::_::_,h=>h.2.elim
def av5{α β:Type}{p:α->β->Prop}{a b:α}:∀{l:List β},jP p [a,b] l->∃x y,l=[x,y]/\p a x/\p b y
 | x::l,h=>let ⟨y,h1,h2⟩:=av4 h.2;⟨x,y,by rw[h1],h.1,h2⟩
 | [],h=>h.elim
end
end
def Nk{lv:List Nat}{tm tm':Env}{hp:Hp}{c c' b:Nat}(hk:bm tm lv=bm tm' lv):bk lv ⟨tm,hp,c,b⟩=bk lv ⟨tm',hp,c',b⟩:=by
 simp only[bk,hk]
def iR(C R S:Nat):AV:=.bN [aa C,aa R,aa S]
def aeu(cs:List AV):CC 0 (.bN cs)=FL (.bN cs):=rfl
def av6(a:AV)(cs:List AV):CC 1 (.bN (a::cs))=FL (.bN cs):=by
 show (bif Nat.ble 1 (cs.length+1) then FL (AV.bN cs) else none)=_
 rw[yB (by omega),yx]
def O8(a b:AV)(cs:List AV):CC 2 (.bN (a::b::cs))=FL (.bN cs):=by
 show (bif Nat.ble 2 (cs.length+1+1) then FL (AV.bN cs) else none)=_
 rw[yB (by omega),yx]
def aAE{P:aF}{L:Lib}{f:cl}{hp:Hp}{ct l:Nat}{xs:List AV}:eQ P L f hp ct .heap (.fn (.y l) [] []) xs=lA f hp ct l xs:=rfl
def aaC{f:Nat->Option Nat}:∀{E:Env},pk E=ycZ->dS f E=E
 | [],_=>rfl
 | (i,v)::r,h=>by
  simp only[pk,yf] at h;simp only[dS,qu _ h.1]
  rw[aaC (E:=r) h.2]
def PD(B l:Nat)(hp:Hp):List Nat:=reach hp B 100000 (l::cQ B hp) []
def sJ(B l:Nat)(hp:Hp):Hp×Nat:=(eE hp (iD B (PD B l hp)) (PD B l hp) B (fQ B (iD B (PD B l hp)) hp),B+(PD B l hp).length)
def ant{lv:List Nat}{tm rest:Env}{hp:Hp}{ct B l:Nat}(hk:bm tm lv=(0,.fn (.y l) [] [])::rest)(hr:pk rest=ycZ)(hl:l<B):
  bk lv ⟨tm,hp,ct,B⟩=⟨(0,.fn (.y l) [] [])::rest,(sJ B l hp).1,(sJ B l hp).2,B⟩:=by
 have e:dR ((0,AV.fn (.y l) [] [])::rest)=[l]:=by
  rw[aar,SG hr];rfl
 have e2:∀f:Nat->Option Nat,f l=FL l->dS f ((0,AV.fn (.y l) [] [])::rest)=(0,.fn (.y l) [] [])::rest:=fun f hf=>by
  simp only[dS,br,hf,dI];rw[aaC hr]
 simp only[bk,hk,e,ym,yG];rw[e2 _ (by simp only[iD,qQ hl,yx])];rfl
def Je{lv:List Nat}{tm rest:Env}{hp H:Hp}{ct B l c:Nat}(hk:bm tm lv=(0,.fn (.y l) [] [])::rest)(hr:pk rest=ycZ)(hl:l<B)(h:sJ B l hp=(H,c)):
  bk lv ⟨tm,hp,ct,B⟩=⟨(0,.fn (.y l) [] [])::rest,H,c,B⟩:=by
 rw[ant hk hr hl,h]
def kK(a b:Nat):AV:=.bN [aa a,aa b]
def Kx(l C R S a b k:Nat):Env:=[(0,.fn (.y l) [] []),(1,iR C R S),(2,kK a b),(7,aa S),(8,aa k)]
def UY(l C R S a b k i:Nat):Env:=[(0,.fn (.y l) [] []),(1,iR C R S),(2,kK a b),(4,aa k),(7,aa S),(8,aa k),(12,aa S),(13,aa i)]
def pxs(S a b k i:Nat):List AV:=[.agg [aa i,aa k],.agg [aa ((a*S+i:Nat):Int),aa ((b*S+k:Nat):Int)]]
structure Rnd(Inv:Nat->Hp->Nat->Prop)(B l:Nat):Prop where
 y:∀{j H c},Inv j H c->sJ B l H=(H,c)
 z:∀{j H c},Inv j H c->∀tm ct,bk [] ⟨tm,H,ct,B⟩=⟨[],H,c,B⟩
 l:∀{j H c},Inv j H c->∃tm p a b,ak H l=FL (.lp tm p a b 0 .none)
def ayf(QT:Has P L 719 Lp){f:X}{ps:List Nat}{as_ body:VC}{s:St}{C R S a b:Nat}(hS:S<=8)(ha:a<=8)(hb:b<=8)(hf:ay s.tm f=.fn (.f 719) [] [iR C R S,kK a b]){Inv:Nat->Hp->Nat->Prop}(hI:Rnd Inv (s.ct+1) s.ct)(h0:∃H c,sJ (s.ct+1) s.ct ((s.ct,.lp s.tm ps as_ body 0 .none)::s.hp)=(H,c)/\Inv 0 H c)(hr:∀k i H c,k<S->i<S->Inv (k*S+i) H c->∃hp aU H' c',lA (D P L) H c s.ct (pxs S a b k i)=FL (.bool ycZ,hp,aU)/\sJ (s.ct+1) s.ct hp=(H',c')/\Inv (k*S+i+1) H' c'):
  ∃H c,Inv (S*S) H c/\D P L (.rf f ps as_ body) s=FL (.normal,⟨s.tm,cT H s.ct,c,s.base⟩):=by
 have Xg:∀k,k<S->_:=fun k hk=>iA P L [0,1,2,4,7,8,12,13] Kk
  (fun d st=>∃i H c,i+d=S/\Inv (k*S+i) H c/\st=⟨UY s.ct C R S a b k i,H,c,s.ct+1⟩)
  (fun ex st=>ex=.exit 2/\∃tm ct H c,Inv (k*S+S) H c/\st=⟨tm,H,ct,s.ct+1⟩/\bm tm [0,1,2,7,8]=Kx s.ct C R S a b k) (by
  rintro d st ⟨i,H,c,hid,cG,rfl⟩;by_cases hi:i<S
  .left
   obtain⟨hp,aU,H',c',e,M2,LP⟩:=hr k i H c hk hi cG;have b1:a*S<=64:=xf ha hS;have b2:b*S<=64:=xf hb hS;have m1:(a:Int)*(S:Int)=((a*S:Nat):Int):=by rw[xM]
   have m2:(b:Int)*(S:Int)=((b*S:Nat):Int):=by rw[xM]
   have a1:((a*S:Nat):Int)+(i:Int)=((a*S+i:Nat):Int):=by rw[yaT]
   have a2:((b*S:Nat):Int)+(k:Int)=((b*S+k:Nat):Int):=by rw[yaT]
   unfold pxs at e
   simp only[go_sem,ya,yb,yk,Kk,UY,iR,kK,aeu,av6,O8,show (i:Int)<S by omega,m1,m2,wrap64 (n:=((a*S:Nat):Int)) (by omega) (by omega),wrap64 (n:=((b*S:Nat):Int)) (by omega) (by omega),a1,a2,wrap64 (n:=((a*S+i:Nat):Int)) (by omega) (by omega),wrap64 (n:=((b*S+k:Nat):Int)) (by omega) (by omega),aAE,e];refine⟨_,d-1,rfl,by omega,i+1,H',c',by omega,LP,?_⟩;rw[wrap64 (by omega) (by omega)];exact Je (by simp only[go_sem,ya]<;>rfl) rfl (by omega) M2
  .right
   have his:i=S:=by omega
   subst his;simp only[go_sem,ya,Kk,UY,iR,kK,show ¬(i:Int)<i by omega]
   exact⟨_,_,rfl,by simp,rfl,_,_,H,c,cG,rfl,by simp only[go_sem,ya,Kx,iR,kK]<;>rfl⟩)
 have aAF:=iA P L [0,1,2,7,8] Kl
  (fun d st=>∃k H c,k+d=S/\Inv (k*S) H c/\st=⟨Kx s.ct C R S a b k,H,c,s.ct+1⟩)
  (fun ex st=>ex=.exit 0/\∃tm ct H c,Inv (S*S) H c/\st=⟨tm,H,ct,s.ct+1⟩) (by
  rintro d st ⟨k,H,c,R6,cG,rfl⟩;by_cases hk:k<S
  .left
   have hm:(k+1)*S=k*S+S:=by rw[xH,uR]
   simp only[go_sem,ya,Kl,Kx,iR,kK,O8,show (k:Int)<S by omega];generalize hq:D P L (.loop _ Kk) _=q;obtain⟨ex,st,rfl,rfl,tm,ct,H',c',LP,rfl,iP⟩:=bH hq (Xg k hk S) ⟨0,H,c,by omega,cG,Je (by simp only[go_sem,ya]<;>rfl) rfl (by omega) (hI.y cG)⟩
   have hcp:=fun ct=>Je (lv:=[0,1,2,7,8]) (ct:=ct) iP rfl (Nat.lt_succ_self _) (hI.y LP)
   simp only[go_sem,ya,hcp];refine⟨_,d-1,rfl,by omega,k+1,H',c',by omega,by rw[hm];exact LP,?_⟩
   rw[wrap64 (by omega) (by omega)];exact Je (by simp only[go_sem,ya,iR,kK]<;>rfl) rfl (by omega) (hI.y LP)
  .right
   have oD:k=S:=by omega
   subst oD;simp only[go_sem,ya,Kl,Kx,iR,kK,show ¬(k:Int)<k by omega]
   exact⟨_,_,rfl,by simp,rfl,_,_,H,c,cG,rfl⟩)
 obtain⟨H0,c0,h01,h02⟩:=h0;have hb:∃tm H c,Inv (S*S) H c/\D P L Lp.body ⟨fI 0 [.fn (.y s.ct) [] [],iR C R S,kK a b],(s.ct,.lp s.tm ps as_ body 0 .none)::s.hp,s.ct+1,s.ct+1⟩=FL (.normal,⟨tm,H,c,s.ct+1⟩):=by
  simp only[go_sem,ya,Lp,iR,kK,O8];generalize hq:D P L (.loop _ Kl) _=q;obtain⟨ex,st,rfl,rfl,tm,ct,H,c,cG,rfl⟩:=bH hq (aAF S) ⟨0,H0,c0,by omega,by rw[wq];exact h02,Je (by simp only[go_sem,ya,iR,kK]<;>rfl) rfl (by omega) h01⟩
  refine⟨[],H,c,cG,?_⟩;simp only[go_sem];exact congrArg (fun x=>FL (Ex.normal,x)) (hI.z cG _ _)
 obtain⟨tm,H,c,cG,hD⟩:=hb;obtain⟨jb,p,a',b',hl⟩:=hI.l cG;exact⟨H,c,cG,axO hf QT.heap (Uo QT hD (.inl rfl) rfl) hl (by decide)⟩
def Z0{B:Nat}{H:Hp}:∀{J:Hp},(∀p,p∈J->B<=p.1)->cQ B (J++H)=cQ B H
 | [],_=>rfl
 | (id,o)::r,h=>by
  have:=h (id,o) (by simp)
  rw[ym,cQ,sr (by simpa using this),yR,Z0 fun p hp=>h p (by simp[hp])]
def aby{B:Nat}{f:Nat->Option Nat}{H:Hp}:∀{J:Hp},(∀p,p∈J->B<=p.1)->fQ B f (J++H)=fQ B f H
 | [],_=>rfl
 | (id,o)::r,h=>by
  have:=h (id,o) (by simp)
  rw[ym,fQ,sr (by simpa using this),yR,aby fun p hp=>h p (by simp[hp])]
def bw(B:Nat)(s:List Nat):Nat->Option Nat:=iD B s
def ll(B:Nat)(hp:Hp):Nat->List Nat->List Nat->List Nat:=reach hp B
def Zd(B:Nat)(hp:Hp)(s:List Nat):Hp×Nat:=(eE hp (bw B s) s B (fQ B (bw B s) hp),B+s.length)
def JK(B l:Nat)(hp:Hp):sJ B l hp=Zd B hp (ll B hp 100000 (l::cQ B hp) []):=rfl
def av7(B:Nat)(hp:Hp)(s:List Nat):Zd B hp s=(eE hp (bw B s) s B (fQ B (bw B s) hp),B+s.length):=rfl
def apF(B:Nat):cQ B []=[]:=rfl
def av8{B id:Nat}(o:Obj)(r:Hp)(h:id<B):cQ B ((id,o)::r)=jI o++cQ B r:=by rw[cQ,qQ h,yx]
def av9{B id:Nat}(o:Obj)(r:Hp)(h:B<=id):cQ B ((id,o)::r)=cQ B r:=by rw[cQ,sr h,yR]
def QU(B:Nat)(hp:Hp)(n id:Nat)(cB seen:List Nat)(q:Option Obj):List Nat:=match q with | some o=>ll B hp n (jI o++cB) (seen++[id]) | none=>ll B hp n cB seen
def QV(B:Nat)(hp:Hp)(n id:Nat)(cB seen:List Nat)(b:Bool):List Nat:=bif b then ll B hp n cB seen else QU B hp n id cB seen (ak hp id)
def asa(B:Nat)(hp:Hp)(n:Nat)(seen:List Nat):ll B hp (n+1) [] seen=seen:=rfl
def af6{B id:Nat}(hp:Hp)(n:Nat)(cB seen:List Nat)(h:id<B):ll B hp (n+1) (id::cB) seen=ll B hp n cB seen:=by
 simp only[ll,reach,qQ h,vN,yx]
def VJ{B id:Nat}(hp:Hp)(n:Nat)(cB seen:List Nat)(h:B<=id):ll B hp (n+1) (id::cB) seen=QV B hp n id cB seen (jq id seen):=by
 simp only[ll,reach,sr h,vh,QV,QU]
 cases jq id seen with
 | true=>rfl
 | false=>simp only[yR];cases ak hp id<;>rfl
def awa(B:Nat)(hp:Hp)(n id:Nat)(cB seen:List Nat):QV B hp n id cB seen ycZ=ll B hp n cB seen:=rfl
def UZ(B:Nat)(hp:Hp)(n id:Nat)(cB seen:List Nat):QV B hp n id cB seen yda=QU B hp n id cB seen (ak hp id):=rfl
def U1(B:Nat)(hp:Hp)(n id:Nat)(cB seen:List Nat)(o:Obj):QU B hp n id cB seen (FL o)=ll B hp n (jI o++cB) (seen++[id]):=rfl
def PE{B id:Nat}(s:List Nat)(h:id<B):bw B s id=FL id:=by simp only[bw,iD,qQ h,yx]
def VK{B id:Nat}(s:List Nat)(h:B<=id):bw B s id=gZ id s B:=by simp only[bw,iD,sr h,yR]
def apG(B:Nat)(f:Nat->Option Nat):fQ B f []=[]:=rfl
def awb{B id:Nat}(f:Nat->Option Nat)(o:Obj)(r:Hp)(h:id<B):fQ B f ((id,o)::r)=(id,gI f o)::fQ B f r:=by rw[fQ,qQ h,yx]
def awc{B id:Nat}(f:Nat->Option Nat)(o:Obj)(r:Hp)(h:B<=id):fQ B f ((id,o)::r)=fQ B f r:=by rw[fQ,sr h,yR]
section
variable (B:Nat)(s:List Nat)
def asb:dS (bw B s) []=[]:=rfl
def apH(i:Nat)(v:AV)(r:Env):dS (bw B s) ((i,v)::r)=(i,br (bw B s) v)::dS (bw B s) r:=rfl
def awd(k:xc)(n:Int):br (bw B s) (.int k n)=.int k n:=rfl
def asd(b:Bool):br (bw B s) (.bool b)=.bool b:=rfl
def awe(t:List Nat):br (bw B s) (.str t)=.str t:=rfl
def awf(k:xX)(b:Nat):br (bw B s) (.av k b)=.av k b:=rfl
def awg(k:xX)(a b:Nat):br (bw B s) (.dl k a b)=.dl k a b:=rfl
def ase:br (bw B s) .ah=.ah:=rfl
def asf:br (bw B s) .iG=.iG:=rfl
def asg:br (bw B s) .jM=.jM:=rfl
def ash:br (bw B s) .kY=.kY:=rfl
def awh(e:Bool)(n:Nat)(cs:List AV):br (bw B s) (.au e n cs)=.au e n cs:=rfl
def asi(cs:List AV):br (bw B s) (.bN cs)=.bN cs:=rfl
def asj(a b:List AV):br (bw B s) (.jN a b)=.jN a b:=rfl
def apI:br (bw B s) .undef=.undef:=rfl
def awi(id o:Nat):br (bw B s) (.ptr id o)=Pv o (bw B s id):=by cases h:bw B s id<;>simp[br,Pv,h]
def awj(id o n:Nat):br (bw B s) (.ax id o n)=Pw o n (bw B s id):=by cases h:bw B s id<;>simp[br,Pw,h]
def ayg(g:Nat)(a b:List AV):br (bw B s) (.fn (.f g) a b)=.fn (.f g) (dI (bw B s) a) (dI (bw B s) b):=rfl
def awk(cs:List AV):br (bw B s) (.agg cs)=.agg (dI (bw B s) cs):=rfl
def awl(cs:List AV):br (bw B s) (.aw cs)=.aw (dI (bw B s) cs):=rfl
def asl:dI (bw B s) []=[]:=rfl
def apJ(v:AV)(r:List AV):dI (bw B s) (v::r)=br (bw B s) v::dI (bw B s) r:=rfl
def Xh(hp:Hp)(r:List Nat)(k:Nat)(acc:Hp)(q:Option Obj):Hp:=match q with | some o=>eE hp (bw B s) r (k+1) ((k,gI (bw B s) o)::acc) | none=>eE hp (bw B s) r (k+1) acc
def asm(hp:Hp)(k:Nat)(acc:Hp):eE hp (bw B s) [] k acc=acc:=rfl
def apK(hp:Hp)(id:Nat)(r:List Nat)(k:Nat)(acc:Hp):eE hp (bw B s) (id::r) k acc=Xh B s hp r k acc (ak hp id):=by
 simp only[eE,Xh];cases ak hp id<;>rfl
def awm(hp:Hp)(r:List Nat)(k:Nat)(acc:Hp)(o:Obj):Xh B s hp r k acc (FL o)=eE hp (bw B s) r (k+1) ((k,gI (bw B s) o)::acc):=rfl
end
def anu:refs .iG=[]:=rfl
def anv:refs .jM=[]:=rfl
def anw:refs .kY=[]:=rfl
def anx(a b:List AV):refs (.jN a b)=[]:=rfl
def apL(cs:List AV):refs (.aw cs)=gh cs:=rfl
def apM(k:xX)(a b:Nat):refs (.dl k a b)=[]:=rfl
def asn(k:xX)(b:Nat):refs (.av k b)=[]:=rfl
attribute [go_sem] av7 apF av8 av9 asa af6 VJ awa UZ U1 PE VK apG awb awc asb apH awd asd awe awf awg ase asf asg ash awh asi asj apI awi awj ayg awk awl asl apJ asm apK awm anu anv anw anx apL apM asn
structure Lay where
 w:AV
 s:List (List Int)
 hh:List Nat
 sc:List Nat
 st:List Nat
 ox:List Nat
 oy:List Nat
 wx:List Nat
 wy:List Nat
def Lay.cs(a:Lay):List AV:=[a.w,.str a.hh,.str a.sc,.str a.st,.str a.ox,.str a.oy,.str a.wx,.str a.wy]
def Lay.T(a:Lay):AV:=lyT a.w a.hh a.sc a.st a.ox a.oy a.wx a.wy
noncomputable def Lay.E(a:Lay):Int:=aAC a.s a.hh a.sc a.st a.ox a.oy a.wx a.wy
section
variable {v:AV}{l:List Rat}
def take_set{α:Type}{l:List α}{i:Nat}{a:α}(h:i<l.length):(l.set i a).take (i+1)=l.take i++[a]:=by
 rw[xK (by simpa using h),List.getElem_set_self,List.take_set_of_le (yu i)]
def stS{hp:Hp}{ct id o:Nat}{v:List Nat}{ex:Bool}{l:List (List Nat)}(h:o<l.length):fy hp ct id o 1 [.str v] (FL (.cells ycZ ycZ ex 1 (l.map .str)))=FL (.aw [],aW hp id (.cells ycZ ycZ ex 1 ((l.set o v).map .str)),ct):=by
 rw[A7 (by rfl) (by simp;lia) (by rfl)]
 have:over o [.str v] (l.map .str)=(l.set o v).map .str:=by
  simp only[over,yy,yJ,yd];rw[List.map_set,List.set_eq_take_append_cons_drop,yD (by simpa using h)]
  simp
 rw[this];rfl
def aAG(ct:Nat){n:Nat}(h:n<=10000000000):Bp ct 1 16 [.str []] (FL n) (FL n)=FL (.ax ct 0 n,.cells ycZ ycZ ycZ 1 ((yF n []).map .str)):=by
 rw[Kt (sz:=1) (by lia) (by lia) (by rfl) (by rfl)]
 have:∀n,(yF n [AV.str []]).flatten=(yF n []).map .str:=fun n=>by
  induction n with
  | zero=>rfl
  | succ n ih=>rw[wN,List.flatten_cons,ih,wN,y7];rfl
 rw[this];rfl
def aso(l:List (List Nat)):eJ (.au ycZ l.length (l.map .str)) l:=JJ ycZ l
def aAH(h:Has P L 160 G8)(hv:jS v l)(hl:l.length<=1000000){g:Nat}{p:Rat->Bool}(hg:∀w x,x∈l->bM w x->ab P L g [w] (.bool (p x))):∃n:Int,ab P L 160 [v,.fn (.f g) [] []] (aa n)/\decide (0<=n)=l.any p:=by
 have key:=iA P L [0,1,7,8] Gp
  (fun k s=>∃i:Nat,i+k=l.length/\(l.drop i).any p=l.any p/\s=⟨[(0,v),(1,.fn (.f g) [] []),(7,aa l.length),(8,aa i)],[],0,0⟩)
  (fun ex s=>∃tm hp ct,s=⟨tm,hp,ct,0⟩/\((∃n:Int,ex=.ret/\aj tm 4=aa n/\0<=n/\l.any p=ycZ)\/(ex=.exit 0/\l.any p=yda))) ?_
 .unfold ab;rw[aE h];simp only[go_sem,ya,G8,hv.len];generalize hq:D P L (.loop _ Gp) _=q;obtain⟨ex,s,rfl,tm,hp,ct,rfl,h2⟩:=bH hq (key l.length) ⟨0,by lia,rfl,by simp only[go_sem,ya,ap,az hv.pu]<;>rfl⟩
  rcases h2 with ⟨n,rfl,h2,h3,h4⟩ | ⟨rfl,h2⟩
  .exact ⟨n,by simp only[go_sem,h2]<;>rfl,by rw[h4];simpa using h3⟩
  .exact ⟨-1,by simp only[go_sem,ap]<;>rfl,by rw[h2];decide⟩
 .rintro k s ⟨i,hk,hf,rfl⟩;by_cases hi:i<l.length
  .have cL:(i:Int)<l.length:=by lia
   have⟨a,b,c,d,r,e1,hx⟩:=hv.bq hi;have e2:=hg _ _ (xU hi) hx;have gx:=hx.f4;rw[TK hi] at hf
   cases dc:p l[i] with
   | false=>
    left
    rw[dc] at e2;simp only[go_sem,ya,Gp,cL,e1,Hr,iC,gx.ai,e2];rw[dc,vh] at hf;refine⟨_,k-1,rfl,by lia,i+1,by lia,hf,?_⟩;rw[wrap64 (by lia) (by lia)];simp only[go_sem,ya,ap,az hv.pu]<;>rfl
   | true=>
    right
    rw[dc] at e2;simp only[go_sem,ya,Gp,cL,e1,Hr,iC,gx.ai,e2];refine⟨_,_,rfl,by simp,_,_,_,rfl,.inl ⟨i,rfl,?_,by lia,?_⟩⟩
    .simp only [go_sem]
    .rw [<-hf,dc,vN]
  .right
   simp only[go_sem,ya,Gp,show ¬(i:Int)<l.length by lia];refine⟨_,_,rfl,by simp,_,_,_,rfl,.inr ⟨rfl,?_⟩⟩;rw[<-hf,xa (by lia)];rfl
def aAI(h:Has P L 122 KX)(LQ:Has P L 160 G8)(hv:jS v l)(hl:l.length<=1000000){g:Nat}{p:Rat->Bool}(hg:∀w x,x∈l->bM w x->ab P L g [w] (.bool (p x))):ab P L 122 [v,.fn (.f g) [] []] (.bool (l.any p)):=by
 have⟨n,e1,e2⟩:=aAH LQ hv hl hg;unfold ab at e1 ⊢;rw[aE h];simp only[go_sem,ya,KX,hv.ai,e1,e2]
def aAJ(h:Has P L 123 KY)(hT:Tx P L){K:Nat}(hv:jS v l)(hl:l.length<=1000000)(hk:∀x,x∈l->Hq K x)(hK:K<=4000000000):∃r,ab P L 123 [v] r/\eJ (shut r) (l.map RT):=by
 have key:=iA P L [3,9,10,11] JU
  (fun k st=>∃(i:Nat) (out:List (List Nat)),i+k=l.length/\out.length=l.length/\out.take i=(l.take i).map RT/\st=⟨[(3,.ax 0 0 l.length),(9,v),(10,aa l.length),(11,aa i)],[(0,.cells ycZ ycZ ycZ 1 (out.map .str))],1,0⟩)
  (fun ex st=>∃tm hp ct,st=⟨tm,hp,ct,0⟩/\ex=.exit 0/\aj tm 3=.ax 0 0 l.length/\ak hp 0=FL (.cells ycZ ycZ ycZ 1 ((l.map RT).map .str))) ?_
 .unfold ab;rw[aE h];simp only[go_sem,ya,yb,KY,hv.len,abj (show (0:Int)<=l.length by lia),xV,aAG 0 (show l.length<=10000000000 by lia)];generalize hq:D P L (.loop _ JU) _=q;obtain⟨ex,st,rfl,tm,hp,ct,rfl,rfl,t3,g0⟩:=bH hq (key l.length) ⟨0,yF l.length [],by lia,by simp,by simp,by simp only[go_sem,ya,yb,ap,az hv.pu]<;>rfl⟩
  refine⟨.c7 ycZ 1 l.length ((l.map RT).map .str),?_,?_⟩
  .simp only [go_sem,yb,ap,t3,g0];exact SH (ji _ _ _) (by simp) (by decide)
  .have:=aso (l.map RT)
   rwa[yU] at this
 .rintro k st ⟨i,out,Ag,hlen,G2,rfl⟩;by_cases hi:i<l.length
  .left
   have⟨a,b,c,d,r,e1,hx⟩:=hv.bq hi;have e2:=m46 hT hx (hk _ (xU hi)) hK;have gx:=hx.f4;unfold ab at e2
   simp only[go_sem,ya,yb,yi,JU,show (i:Int)<l.length by lia,e1,Hr,aQ,gx.st,iC,gx.ai,ye,e2,abj (show (0:Int)<=i by lia),xV,di 0 0 hi,yd,stS (l:=out) (o:=i) (by lia)];refine⟨_,k-1,rfl,by lia,i+1,out.set i (RT l[i]),by lia,by simpa using hlen,?_,?_⟩
   .rw [take_set (by lia),G2,xK hi,xb];rfl
   .rw [wrap64 (by lia) (by lia)];simp only[go_sem,ya,yb,ap,az hv.pu]<;>rfl
  .right
   have:i=l.length:=by lia
   subst this;rw[yK (by lia),yK (yu _)] at G2;subst G2;simp only[go_sem,ya,JU,show ¬(l.length:Int)<l.length by lia];exact⟨_,_,rfl,by simp,_,_,_,rfl,rfl,rfl,rfl⟩
end
noncomputable def Lay.low(sh:List Nat)(a:Lay):Bool:=avR (bl sh) (bl a.hh)
def aaD{α:Type}{f:α->Int}:∀{l:List α},bS (l.map f)=0->∀a,a∈l->f a=0
 | [],_,_,h=>by cases h
 | x::l,h,a,ha=>by
  rw[y7,akY] at h;rcases xu.1 ha with rfl | ha
  .grind
  .exact aaD h.2 a ha
section
variable {v:AV}{l:List Int}
def LR(h:Has P L 677 Qq)(hv:bi v l)(hl:l.length<=1000000):ab P L 677 [v] (aa (bS l)):=by
 unfold ab;rw[aE h];simp only[go_sem,ya,Qq,hv.len];have key:=N7 (P:=P) (L:=L) (live:=[5,6,7]) (a:=OU)
  (I:=fun k s=>∃tm ct i,s=⟨tm,[],ct,0⟩/\aj tm 5=v/\aj tm 6=aa l.length/\aj tm 7=aa (i:Nat)/\i+k=l.length/\bS (l.drop i)=bS l)
  (Q:=fun ex s=>∃tm,s=⟨tm,[],0,0⟩/\((ex=.ret/\aj tm 2=aa (bS l))\/(ex=.exit 0/\bS l=0))) ?_ l.length
 .generalize hq:D P L (.loop _ OU) _=q;obtain⟨ex,s,rfl,tm,rfl,h2⟩:=bH hq key ⟨_,_,0,rfl,rfl,rfl,rfl,by omega,rfl⟩;rcases h2 with ⟨rfl,h2⟩ | ⟨rfl,h2⟩
  .simp only [go_sem,h2]
  .rw [h2];simp only[go_sem]
 .rintro k s ⟨tm,ct,i,rfl,h5,h6,h7,hk,hf⟩;rw[Nj (by simp only[go_sem,h5,h6,h7,hv.pu])];simp only[go_sem,ya,h5,h6,h7,OU];by_cases hi:i<l.length
  .have cL:(i:Int)<l.length:=by omega
   rw[Sr hi] at hf;by_cases hz:l[i]=0
   .left
    simp only[go_sem,ya,cL,hv.bq hi,hz];refine⟨_,k-1,rfl,by omega,_,_,i+1,rfl,?_⟩;rw[wrap64 (by omega) (by omega)];rw[yD hz] at hf;simp only[go_sem,ya];exact⟨trivial,trivial,rfl,by omega,hf⟩
   .right
    simp only[go_sem,ya,cL,hv.bq hi,hz];rw[yt hz] at hf;refine⟨_,_,rfl,by simp,_,rfl,.inl ⟨rfl,?_⟩⟩;simp only[go_sem,hf]
  .right
   have cL:¬(i:Int)<l.length:=by omega
   simp only[go_sem,cL];refine⟨_,_,rfl,by simp,_,rfl,.inr ⟨rfl,?_⟩⟩;rw[<-hf,xa (by omega)];rfl
def C5(h:Has P L 692 EQ)(b:Bool)(n:Int):ab P L 692 [.bool b,aa n] (aa (if b=ycZ then n else 0)):=by
 unfold ab;rw[aE h]
 cases b with
 | true=>simp only[go_sem,ya,EQ,xA]
 | false=>simp only[go_sem,ya,EQ];rfl
def LS(h:Has P L 676 Hd)(mj:Has P L 692 EQ)(n lo hi:Int):ab P L 676 [aa n,aa lo,aa hi] (aa (if n<lo\/hi<n then 3 else 0)):=by
 unfold ab;rw[aE h];by_cases h1:n<lo
 .simp only [go_sem,ya,Hd,h1,true_or,xA,C5 mj]
 .by_cases h2:hi<n
  .simp only [go_sem,ya,Hd,h1,h2,or_true,xA,C5 mj]
  .simp only [go_sem,ya,Hd,h1,h2,or_self,xm,C5 mj];rfl
def aAK(h:Has P L 647 Lk)(hv:bi v l)(hl:l.length<=1000000):ab P L 647 [v] (aa (bS l)):=by
 unfold ab;rw[aE h];simp only[go_sem,Lk];have key:=N7 (P:=P) (L:=L) (live:=[0,3]) (a:=OT)
  (I:=fun k s=>∃tm ct i,s=⟨tm,[],ct,0⟩/\aj tm 0=v/\aj tm 3=aa (i:Nat)/\i+k=l.length/\bS (l.drop i)=bS l)
  (Q:=fun ex s=>∃tm,s=⟨tm,[],0,0⟩/\((ex=.ret/\aj tm 2=aa (bS l))\/(ex=.exit 0/\bS l=0))) ?_ l.length
 .generalize hq:D P L (.loop _ OT) _=q;obtain⟨ex,s,rfl,tm,rfl,h2⟩:=bH hq key ⟨_,_,0,rfl,rfl,rfl,by omega,rfl⟩;rcases h2 with ⟨rfl,h2⟩ | ⟨rfl,h2⟩
  .simp only [go_sem,h2]
  .rw [h2];simp only[go_sem]
 .rintro k s ⟨tm,ct,i,rfl,h0,h3,hk,hf⟩;rw[Nj (by simp only[go_sem,h0,h3,hv.pu])];simp only[go_sem,ya,h0,h3,OT,hv.len];by_cases hi:i<l.length
  .have cL:(i:Int)<l.length:=by omega
   rw[Sr hi] at hf;by_cases hz:l[i]=0
   .left
    simp only[go_sem,ya,cL,hv.bq hi,hz];refine⟨_,k-1,rfl,by omega,_,_,i+1,rfl,?_⟩;rw[wrap64 (by omega) (by omega)];rw[yD hz] at hf;simp only[go_sem,ya];exact⟨trivial,rfl,by omega,hf⟩
   .right
    simp only[go_sem,ya,cL,hv.bq hi,hz];rw[yt hz] at hf;refine⟨_,_,rfl,by simp,_,rfl,.inl ⟨rfl,?_⟩⟩;simp only[go_sem,hf]
  .right
   have cL:¬(i:Int)<l.length:=by omega
   simp only[go_sem,cL];refine⟨_,_,rfl,by simp,_,rfl,.inr ⟨rfl,?_⟩⟩;rw[<-hf,xa (by omega)];rfl
def aAL(QW:Has P L 686 Lm)(Xi:Has P L 122 KX)(Xj:Has P L 123 KY)(LQ:Has P L 160 G8)(hT:Tx P L){l:List Rat}{K:Nat}(hv:jS v l)(hl:l.length<=1000000)(hk:∀x,x∈l->Hq K x)(hK:K<=4000000000):
  (l.any LG=ycZ->ab P L 686 [v] (.aw [.ah,aa 4]))/\(l.any LG=yda->∃r,eJ r (l.map RT)/\ab P L 686 [v] (.aw [r,aa 0])):=by
 have e1:=aAI Xi LQ hv hl (g:=107) (p:=LG) (fun w x hx hw=>azV hT hw (hk x hx) hK);obtain⟨r,e2,hr⟩:=aAJ Xj hT hv hl hk hK;unfold ab at e1 e2 ⊢;constructor
 .intro ha;rw[ha] at e1;rw[aE QW];simp only[go_sem,ya,Lm,hv.ai,e1]
 .intro ha;rw[ha] at e1;refine⟨_,hr,?_⟩;rw[aE QW];simp only[go_sem,ya,Lm,hv.ai,e1,e2];rcases hr with ⟨hr,_⟩ | ⟨e,hr⟩<;>rw[hr]<;>rfl
end
def Hu{z:Int}(h:z.natAbs<2^40):Hq 40 (z:Rat):=by
 refine⟨?_,?_⟩
 .rw [Rat.num_intCast];unfold Bd;omega
 .rw [Rat.den_intCast];unfold Bd;decide
section
variable {s:Bool}{M b:Nat}
def awn(hb:Fl b s M):binOp .sub (.av .f32 b) (.av .f32 b)=FL (.av .f32 0):=by
 have hf:=hb.fin;unfold gA at hf
 cases hr:ycC.read b with
 | number s m e=>
  have h1:yaB.format.sub b b=FL 0:=adF hr;simp[binOp,Pd,h1]
 | _=>rw[hr] at hf;cases hf
def aAM:binOp .eql (.av .f32 0) (.av .f32 0)=FL (.bool ycZ):=by rfl
def ayh(LU:Has P L 231 K5)(hb:Fl b s M):ab P L 231 [.av .f32 b] (.bool ycZ):=by
 unfold ab;rw[aE LU];simp only[go_sem,ya,K5,awn hb,aAM]
 first | done | rfl
def ayi(hx:Fx P L)(ht:Tx P L)(LU:Has P L 231 K5)(Xk:Has P L 203 P5)(hb:Fl b s M):ab P L 203 [.av .f32 b] (.aw [.str (RT (kJ s M)),aa 0]):=by
 have e1:=ayh LU hb;obtain⟨r,e2,hr⟩:=aAy hx hb;have e3:=m46 ht hr (VI hb) (by decide);obtain⟨v1,v2,v3,v4,rfl,fv⟩:=hr.gen;unfold ab at e1 e2 e3;unfold ab;rw[aE Xk];simp only[go_sem,ya,P5,nm,e1,e2,e3,fv.ai,bz,yX];rfl
def aAN(ht:Tx P L)(Xl:Has P L 685 Qs)(hb:Fl b s M)(e1:ab P L 203 [.av .f32 b] (.aw [.str (RT (kJ s M)),aa 0])):∃r,ab P L 685 [.av .f32 b] r/\bM r (kJ s M):=by
 have hl:=GK (VI hb);obtain⟨r,e2,hr⟩:=m62 ht (a:=kJ s M) (by omega);have bh:=hr;obtain⟨v1,v2,v3,v4,rfl,fv⟩:=hr.gen;refine⟨_,?_,bh⟩;unfold ab at e1 e2 ⊢;rw[aE Xl];simp only[go_sem,ya,yb,Qs,aQ,nm,e1,TH,SF,S8,e2,bz,fv.st,cI,cJ,ye,iC,fv.eA]
structure Exc(P:aF)(L:Lib):Prop extends Fx P L,Tx P L where
 Xk:Has P L 203 P5
 LU:Has P L 231 K5
 Xl:Has P L 685 Qs
end
def jP.snoc{α β:Type}{p:α->β->Prop}:∀{l:List α} {m:List β} {a:α} {b:β},jP p l m->p a b->jP p (l++[a]) (m++[b])
 | [],[],_,_,_,h=>⟨h,trivial⟩
 | _::_,_::_,_,_,h,k=>⟨h.1,jP.snoc h.2 k⟩
def cF{β:Type}(p:AV->β->Prop)(v:AV)(M:List β):Prop:=∃rows,cz v rows/\jP p rows M
section
variable {β:Type}{p:AV->β->Prop}{v:AV}{s:List β}
def cF.len(h:cF p v s){hp:Hp}:kB hp 1 v=FL (.int .i64 (s.length:Nat)):=by
 have⟨rows,h1,h2⟩:=h;rw[<-h2.len];exact h1.len
def cF.pu(h:cF p v s):aX v=ycZ:=by have⟨rows,h1,h2⟩:=h;exact h1.pu
def cF.ai(h:cF p v s)(n:Nat){hp:Hp}:freeze (n+1) hp v=FL (v,hp):=by have⟨rows,h1,h2⟩:=h;exact h1.ai n
def cF.shut(h:cF p v s):VE.shut v=v:=by obtain⟨rows,h1,h2⟩:=h;exact h1.shut
def cF.one(h:cF p v s):er v=ycZ:=by have⟨rows,h1,h2⟩:=h;exact h1.one
def cF.cells(h:cF p v s):cellsOf v=[v]:=by have⟨rows,h1,h2⟩:=h;exact h1.cells
def cF.bq(h:cF p v s){i:Nat}(hi:i<s.length):∃r rest,p r s[i]/\jm 1 i v=FL (.bN (r::rest)):=by
 have⟨rows,h1,h2⟩:=h;have cL:i<rows.length:=by rw[h2.len];exact hi
 exact⟨_,_,h2.get cL hi,h1.bq cL⟩
def abz:cF p .ah []:=⟨[],zq,trivial⟩
def Of(e:Bool){rows:List AV}(h:jP p rows s):cF p (.au e s.length rows) s:=by
 have:=Ga e rows
 rw[h.len] at this;exact⟨rows,this,h⟩
end
def BA(f:Nat->Nat->Int)(n A B:Nat):Int:=QB (fun a=>QB (fun b=>f a b) n) A+QB (fun b=>f A b) B
def apN{α:Type}{p:α->Bool}{l:List α}{i:Nat}(h:i<l.length):(l.drop i).all p=(p l[i]&&(l.drop (i+1)).all p):=by
 rw[yZ h,List.all_cons]
def akr{α:Type}{f:α->Int}{l:List α}{i:Nat}(h:i<l.length):bS ((l.drop i).map f)=if f l[i]=0 then bS ((l.drop (i+1)).map f) else f l[i]:=by
 rw[yZ h,y7,bS]
def Xm(lv:List Nat)(E:Env)(hp:Hp)(ct:Nat):Prop:=bm E lv=E/\∀c,bk lv ⟨E,hp,c,0⟩=⟨E,hp,ct,0⟩
def OK{lv:List Nat}{E tm:Env}{hp:Hp}{ct c:Nat}(hk:bm tm lv=E)(h:Xm lv E hp ct):bk lv ⟨tm,hp,c,0⟩=⟨E,hp,ct,0⟩:=by
 have:=h.2 c
 rw[ap,h.1] at this;rw[ap,hk];exact this
def rr(f:Nat):List AV->AV
 | []=>.ah
 | _::r=>.ax f 0 (r.length+1)
def rh(f:Nat)(F:Hp):List AV->Hp
 | []=>F
 | x::r=>(f,.cells ycZ ycZ yda 1 (x::r))::F
def rc(f:Nat):List AV->Nat
 | []=>f
 | _::_=>f+1
def Cn{lv:List Nat}{tm E:Env}{hp:Hp}{c:Nat}{s:St}(hk:bm tm lv=E)(hE:bm E lv=E)(h:bk lv ⟨E,hp,c,0⟩=s):bk lv ⟨tm,hp,c,0⟩=s:=by
 rw[ap,hk];rw[ap,hE] at h;exact h
def aAO(h:Fr' P L)(LV:Has P L 720 Lq){v w:AV}{s:Rat}{l:List Rat}{K M:Nat}(hv:bM v s)(hw:jS w l)(ks:Hq M s)(kl:∀x,x∈l->Hq K x)(hl:l.length<=1000000)(hK:M+l.length*(K+1)+K<=1000000000):∃r,ab P L 720 [w,v,.fn (.f 74) [] []] r/\bM r (fp s l):=by
 have key:=iA P L [2,4,6,9,10,11] Km
  (fun k st=>∃i:Nat,i+k=l.length/\∃c1 c2 c3 c4,bM (.agg [c1,c2,c3,c4]) (fp s (l.take i))/\st=⟨[(2,.fn (.f 74) [] []),(4,.ptr 0 0),(6,.ptr 1 0),(9,w),(10,aa l.length),(11,aa i)],[(1,.cells ycZ ycZ ycZ 4 [.int .i64 0,.ah,.int .i64 0,.ah]),(0,.cells ycZ ycZ ycZ 4 [c1,c2,c3,c4])],2,0⟩)
  (fun ex st=>∃tm hp ct c1 c2 c3 c4,bM (.agg [c1,c2,c3,c4]) (fp s l)/\st=⟨tm,hp,ct,0⟩/\ex=.exit 0/\aj tm 4=.ptr 0 0/\aj tm 6=.ptr 1 0/\ak hp 0=FL (.cells ycZ ycZ ycZ 4 [c1,c2,c3,c4])/\ak hp 1=FL (.cells ycZ ycZ ycZ 4 [.int .i64 0,.ah,.int .i64 0,.ah])) ?_
 .have eS:=hv;obtain⟨v1,v2,v3,v4,rfl,gv⟩:=hv.gen;unfold ab;rw[aE LV];simp only[go_sem,ya,yb,Lq,gv.bx,aQ,hw.len];generalize hq:D P L (.loop _ Km) _=q;obtain⟨ex,st,rfl,tm,hp,ct,c1,c2,c3,c4,h1,rfl,rfl,t4,t6,g0,g1⟩:=bH hq (key l.length) ⟨0,by omega,v1,v2,v3,v4,by simpa[fp] using eS,by simp only[go_sem,ya,yb,ap,az hw.pu]<;>rfl⟩
  have g:=h1.f4;refine⟨_,?_,h1⟩;simp only[go_sem,ya,yb,ap,t4,t6,g0,g1,iC,g.st,cI,cJ,ye];exact g.eA _
 .rintro k st ⟨i,hk,c1,c2,c3,c4,hs,rfl⟩;by_cases hi:i<l.length
  .left
   obtain⟨a,b,c,d,r,e1,hx⟩:=hw.bq hi;obtain⟨y,e2,hy⟩:=zf h hs hx (K:=M+l.length*(K+1)+K) ((OJ ks kl i).mono (by omega)) ((kl _ (xU hi)).mono (by omega)) (by omega);rw[<-Td hi] at hy;have Fz:=hy;obtain⟨y1,y2,y3,y4,rfl,gy⟩:=hy.gen;have gs:=hs.f4;have gx:=hx.f4;unfold ab at e2;simp only[go_sem,ya,yb,Km,show (i:Int)<l.length by omega,e1,Hr,iC,aQ,gx.st,e2,gs.ai,gx.ai,gy.st,bz,ye];refine⟨_,k-1,rfl,by omega,i+1,by omega,y1,y2,y3,y4,Fz,?_⟩;rw[wrap64 (by omega) (by omega)];simp only[go_sem,ya,yb,ap,az hw.pu]<;>rfl
  .right
   simp only[go_sem,ya,Km,show ¬(i:Int)<l.length by omega];rw[yK (by omega)] at hs;exact⟨_,_,rfl,by simp,_,_,_,c1,c2,c3,c4,hs,rfl,rfl,by simp only[go_sem,ya],by simp only[go_sem,ya],by simp only[go_sem,ya],by simp only[go_sem]⟩
def aAP(h:Fr' P L)(LV:Has P L 720 Lq)(Xn:Has P L 674 Qp){w:AV}{l:List Rat}{K:Nat}(hw:jS w l)(kl:∀x,x∈l->Hq K x)(hl:l.length<=1000000)(hK:40+l.length*(K+1)+K<=1000000000):∃r,ab P L 674 [w] r/\bM r (fp 0 l):=by
 obtain⟨z,e0,hz⟩:=Fu h (z:=0) (by omega) (by omega);have hz:bM z 0:=hz;obtain⟨r,e1,hr⟩:=aAO h LV hz hw (Hu (z:=0) (by decide)) kl hl hK;obtain⟨z1,z2,z3,z4,rfl,gz⟩:=hz.gen;have bh:=hr;obtain⟨r1,r2,r3,r4,rfl,gr⟩:=hr.gen;refine⟨_,?_,bh⟩;unfold ab at e0 e1 ⊢;rw[aE Xn];simp only[go_sem,ya,yb,Qp,aQ,hw.ai,e0,gz.ai,bz,e1,gr.st,cI,cJ,ye,iC];exact gr.eA _
section
variable {v:AV}{F:List (List Nat)}{l r:List Nat}
def eY(v:AV)(r:List Nat):Prop:=cz v (dO r)
def Og{i:Nat}(h:i<l.length):(dO l)[i]'(by simpa using h)=.av .f32 l[i]:=by simp[dO]
def rz(r:List Nat):Bool:=r.any fun b=> !gA b
def nf(n:Nat)(r:List Nat):Int:=bS [if r.length=n then 0 else 2,if rz r=ycZ then 1 else 0]
def C6(n m:Nat)(F:List (List Nat)):Int:=if F.length=n then bS (F.map (nf m)) else 2
def ff(z lo hi:Int):Int:=if z<lo\/hi<z then 3 else 0
def rA(C R S:Int):Int:=bS [ff C 1 8,ff R 1 8,ff S 2 8]
def Uw{C R S:Int}(h:rA C R S=0):(1<=C/\C<=8)/\(1<=R/\R<=8)/\2<=S/\S<=8:=by
 obtain⟨h1,h2,h3⟩:=ar4.1 h;unfold ff at h1 h2 h3;refine⟨?_,?_,?_⟩
 .by_cases c:C<1\/8<C
  .rw [yD c] at h1;exact absurd h1 (by decide)
  .omega
 .by_cases c:R<1\/8<R
  .rw [yD c] at h2;exact absurd h2 (by decide)
  .omega
 .by_cases c:S<2\/8<S
  .rw [yD c] at h3;exact absurd h3 (by decide)
  .omega
def kL(C R S:Int)(F:List (List Nat)):Int:=if rA C R S=0 then C6 (R.toNat*S.toNat) (C.toNat*S.toNat) F else rA C R S
structure Frc(P:aF)(L:Lib):Prop where
 aAQ:L.pure 753=FL z6
 aAR:Has P L 641 Wg
 aAS:Has P L 643 Qm
 aAT:Has P L 670 Qo
 LW:Has P L 676 Hd
 LX:Has P L 677 Qq
 mj:Has P L 692 EQ
 aAU:Has P L 716 Wk
 Xo:Has P L 717 Qt
 aAV:Has P L 741 Wl
 aAW:Has P L 742 Wm
 aAX:Has P L 752 Qu
def aAY(h:L.pure 753=FL z6)(b:Nat):ab P L 753 [.av .f32 b] (.bool (gA b)):=by
 unfold ab;simp only[bL,h,z6]
def aAZ(h:Frc P L)(b:Nat):ab P L 742 [.av .f32 b] (.bool (!gA b)):=by
 have e:=aAY (P:=P) h.aAQ b;unfold ab at e;unfold ab;rw[aE h.aAW];simp only[go_sem,ya,Wm,nm,e]
def aA0(h:Has P L 752 Qu)(hv:cz v (dO l))(hl:l.length<=1000000){g:Nat}{p:Nat->Bool}(hg:∀x,ab P L g [.av .f32 x] (.bool (p x))):∃n:Int,ab P L 752 [v,.fn (.f g) [] []] (aa n)/\decide (0<=n)=l.any p:=by
 have hlen:(dO l).length=l.length:=by simp
 have key:=iA P L [0,1,7,8] Gy
  (fun k s=>∃i:Nat,i+k=l.length/\(l.drop i).any p=l.any p/\s=⟨[(0,v),(1,.fn (.f g) [] []),(7,aa l.length),(8,aa i)],[],0,0⟩)
  (fun ex s=>∃tm hp ct,s=⟨tm,hp,ct,0⟩/\((∃n:Int,ex=.ret/\aj tm 4=aa n/\0<=n/\l.any p=ycZ)\/(ex=.exit 0/\l.any p=yda))) ?_
 .unfold ab;rw[aE h];simp only[go_sem,ya,Qu,hv.len,hlen];generalize hq:D P L (.loop _ Gy) _=q;obtain⟨ex,s,rfl,tm,hp,ct,rfl,h2⟩:=bH hq (key l.length) ⟨0,by omega,rfl,by simp only[go_sem,ya,ap,az hv.pu]<;>rfl⟩
  rcases h2 with ⟨n,rfl,h2,h3,h4⟩ | ⟨rfl,h2⟩
  .exact ⟨n,by simp only[go_sem,h2]<;>rfl,by rw[h4];simpa using h3⟩
  .exact ⟨-1,by simp only[go_sem,ap]<;>rfl,by rw[h2];decide⟩
 .rintro k s ⟨i,hk,hf,rfl⟩;by_cases hi:i<l.length
  .have cL:(i:Int)<l.length:=by omega
   have e1:=hv.bq (i:=i) (by simpa using hi);rw[Og hi] at e1;have e2:=hg l[i];unfold ab at e2;rw[TK hi] at hf
   cases dc:p l[i] with
   | false=>
    left
    rw[dc] at e2;simp only[go_sem,ya,Gy,cL,e1,nm,e2];rw[dc,vh] at hf;refine⟨_,k-1,rfl,by omega,i+1,by omega,hf,?_⟩;rw[wrap64 (by omega) (by omega)];simp only[go_sem,ya,ap,az hv.pu]<;>rfl
   | true=>
    right
    rw[dc] at e2;simp only[go_sem,ya,Gy,cL,e1,nm,e2];refine⟨_,_,rfl,by simp,_,_,_,rfl,.inl ⟨i,rfl,?_,by omega,?_⟩⟩
    .simp only [go_sem]
    .rw [<-hf,dc,vN]
  .right
   simp only[go_sem,ya,Gy,show ¬(i:Int)<l.length by omega];refine⟨_,_,rfl,by simp,_,_,_,rfl,.inr ⟨rfl,?_⟩⟩;rw[<-hf,xa (by omega)];rfl
def aA1(Xo:Has P L 717 Qt){M:List (List Nat)}(hv:cF eY v M)(hl:M.length<=1000000){g:Nat}{cap:List AV}(hc:aG cap=ycZ)(hz:∀(n:Nat) (hp:Hp),cE (n+900) hp cap=FL (cap,hp)){f:List Nat->Int}(hg:∀w a,a∈M->eY w a->ab P L g (w::cap) (aa (f a))):ab P L 717 [v,.fn (.f g) [] cap] (aa (bS (M.map f))):=by
 have pf:aX (.fn (.f g) [] cap)=ycZ:=by simp[aX,aG,hc]
 have key:=iA P L [1,8,9,10] OV
  (fun k s=>∃i:Nat,s=⟨[(1,.fn (.f g) [] cap),(8,v),(9,aa M.length),(10,aa i)],[],0,0⟩/\i+k=M.length/\bS ((M.drop i).map f)=bS (M.map f))
  (fun ex s=>∃tm ct,s=⟨tm,[],ct,0⟩/\((ex=.ret/\aj tm 4=aa (bS (M.map f)))\/(ex=.exit 0/\bS (M.map f)=0))) ?_
 .unfold ab;rw[aE Xo];simp only[go_sem,ya,Qt,hv.len];generalize hq:D P L (.loop _ OV) _=q;obtain⟨ex,s,rfl,tm,ct,rfl,h2⟩:=bH hq (key M.length) ⟨0,by simp only[go_sem,ya,ap,az hv.pu,az pf]<;>rfl,by omega,by simp⟩
  rcases h2 with ⟨rfl,h2⟩ | ⟨rfl,h2⟩
  .simp only [go_sem,h2]
  .rw [h2];simp only[go_sem,ap]
 .rintro k s ⟨i,rfl,hk,hf⟩;simp only[go_sem,ya,OV];by_cases hi:i<M.length
  .have cL:(i:Int)<M.length:=by omega
   obtain⟨r,rest,hr,e0⟩:=hv.bq hi;have e1:=hg r _ (xU hi) hr;unfold ab at e1;rw[yZ hi,y7] at hf;simp only[bS] at hf;by_cases dc:f M[i]=0
   .left
    rw[dc] at e1;simp only[go_sem,ya,cL,e0,hr.ai,hz,e1];refine⟨_,k-1,rfl,by omega,i+1,?_,by omega,by rw[yD dc] at hf;exact hf⟩
    rw[wrap64 (by omega) (by omega)];simp only[go_sem,ya,ap,az hv.pu,az pf]<;>rfl
   .right
    simp only[go_sem,ya,cL,e0,hr.ai,hz,e1,dc];rw[yt dc] at hf;refine⟨_,_,rfl,by simp,_,_,rfl,.inl ⟨rfl,?_⟩⟩;simp only[go_sem,hf]
  .right
   have cL:¬(i:Int)<M.length:=by omega
   simp only[go_sem,cL];refine⟨_,_,rfl,by simp,_,_,rfl,.inr ⟨rfl,?_⟩⟩;rw[<-hf,xa (by omega)];rfl
def aA2(h:Frc P L)(hv:eY v r)(hl:r.length<=1000000):ab P L 741 [v,.fn (.f 742) [] []] (.bool (rz r)):=by
 obtain⟨n,e1,e2⟩:=aA0 h.aAX hv hl (g:=742) (p:=fun b=> !gA b) (fun x=>aAZ h x);have e2:decide (0<=n)=rz r:=e2;have hv:cz v (dO r):=hv;unfold ab at e1 ⊢;rw[aE h.aAV];simp only[go_sem,ya,Wl,hv.ai,e1,e2]
def ib(a b c:Int)(ct:Nat):lH ct 3 [aa a,aa b,aa c]=FL (.ptr ct 0,.cells ycZ ycZ ycZ 3 [aa a,aa b,aa c]):=rfl
def fj(a b c:Int):fT 3 ycZ [aa a,aa b,aa c]=FL (.agg [aa a,aa b,aa c]):=rfl
def aA3(h:Frc P L){w:AV}{C R S:Nat}(hC:C<=8)(hS:S<=8)(hw:eY w r)(hl:r.length<=1000000):ab P L 716 [w,iR C R S] (aa (nf (C*S) r)):=by
 have e1:=aA2 h hw hl;have hw:cz w (dO r):=hw;have hlen:(dO r).length=r.length:=by simp
 have b1:C*S<=64:=xf hC hS;have m1:(C:Int)*(S:Int)=((C*S:Nat):Int):=by rw[xM]
 have e2:=C5 h.mj (!decide ((r.length:Int)=((C*S:Nat):Int))) 2;have q:decide ((r.length:Int)=((C*S:Nat):Int))=decide (r.length=C*S):=vz.2 (by omega);rw[q] at e2;rw[show (if (!decide (r.length=C*S))=ycZ then (2:Int) else 0)=(if r.length=C*S then 0 else 2) by by_cases e:r.length=C*S<;>simp[e]] at e2
 have e3:=C5 h.mj (rz r) 1;have e4:=LR h.LX (kz ycZ [if r.length=C*S then 0 else 2,if rz r=ycZ then 1 else 0]) (by simp);simp only[yy,yJ,yd,yb,y7,wE] at e4;unfold ab at e1 e2 e3 e4 ⊢;rw[aE h.aAU];unfold nf
 simp only[go_sem,ya,yb,yz,yk,yi,Wk,iR,aeu,O8,hw.len,hw.ai,hlen,m1,wrap64 (n:=((C*S:Nat):Int)) (by omega) (by omega),q,e1,e2,e3,e4]
def aA4(h:Frc P L){C R S:Nat}(hC:C<=8)(hR:R<=8)(hS:S<=8)(hv:cF eY v F)(hl:F.length<=1000000)(hr:∀r,r∈F->r.length<=1000000):ab P L 670 [.agg [aa C,aa R,aa S],v] (aa (C6 (R*S) (C*S) F)):=by
 have e1:=aA1 h.Xo hv hl (g:=716) (cap:=[iR C R S]) rfl (fun n hp=>rfl) (f:=nf (C*S)) (fun w r bh hw=>aA3 h hC hS hw (hr r bh));have b1:R*S<=64:=xf hR hS;have m1:(R:Int)*(S:Int)=((R*S:Nat):Int):=by rw[xM]
 unfold ab at e1 ⊢;rw[aE h.aAT];unfold iR at e1;unfold C6;by_cases hn:F.length=R*S
 .rw [yD hn]
  simp only[go_sem,ya,Qo,ib,aT,yd,ye,yp,hv.len,hv.ai,m1,wrap64 (n:=((R*S:Nat):Int)) (by omega) (by omega),hn,yM,e1]
 .rw [yt hn]
  simp only[go_sem,ya,Qo,ib,aT,yd,ye,yp,hv.len,m1,wrap64 (n:=((R*S:Nat):Int)) (by omega) (by omega),show ¬(F.length:Int)=((R*S:Nat):Int) by omega,yH]
def aA5(h:Frc P L)(C R S:Int):ab P L 641 [.agg [aa C,aa R,aa S]] (aa (rA C R S)):=by
 have e1:=LS h.LW h.mj C 1 8;have e2:=LS h.LW h.mj R 1 8;have e3:=LS h.LW h.mj S 2 8;have e4:=LR h.LX (kz ycZ [ff C 1 8,ff R 1 8,ff S 2 8]) (by simp);simp only[yy,yJ,yd,yb,y7,wE] at e4;unfold ab at e1 e2 e3 e4 ⊢;rw[aE h.aAR];unfold ff at e4;unfold rA ff;simp only[go_sem,ya,yb,yz,yk,yi,Wg,ib,aT,yd,ye,yp,e1,e2,e3,e4]
def ahK(h:Frc P L){C R S:Int}(hv:cF eY v F)(hl:F.length<=1000000)(hr:∀r,r∈F->r.length<=1000000):ab P L 643 [.agg [aa C,aa R,aa S],v] (aa (kL C R S F)):=by
 have e1:=aA5 h C R S;have fz:∀(n:Nat) (hp:Hp),freeze (n+20) hp (.agg [aa C,aa R,aa S])=FL (.agg [aa C,aa R,aa S],hp):=fun n hp=>bY _ _ (by simp only[go_sem])
 unfold ab;rw[aE h.aAS];unfold kL;by_cases h0:rA C R S=0
 .rw [yD h0];obtain⟨⟨a1,a2⟩,⟨b1,b2⟩,c1,c2⟩:=Uw h0;have e2:=aA4 h (C:=C.toNat) (R:=R.toNat) (S:=S.toNat) (by omega) (by omega) (by omega) hv hl hr;rw[vj (by omega),vj (by omega),vj (by omega)] at e2;rw[h0] at e1;unfold ab at e1 e2;simp only[go_sem,ya,yb,Qm,ib,ye,fj,fz,e1,hv.ai,e2]
 .rw [yt h0];unfold ab at e1;simp only[go_sem,ya,yb,Qm,ib,ye,fj,fz,e1,h0]
end
section
open Go (IntKind)
open Ieee
def awo{b:Nat}{s:Bool}{M:Nat}(h:Fl b s M):Hq 429 (kJ s M):=by
 have hM:=h.lt;have k1:Hq 278 (((bJ s M:Int)):Rat):=acC 278 (af2 278 277 hM (by decide)) (by decide);exact (k1.mul (af3 (-149))).mono (by decide)
end
section
variable {F:List (List Nat)}{b m n:Nat}
noncomputable def fq(b:Nat):Rat:=match ycC.read b with
 | .number s m e=>kJ s (dL m e)
 | _=>0
def ayj{M:Nat}{s:Bool}(h:Fl b s M):fq b=kJ s M:=by
 obtain⟨m,e,h1,h2⟩:=h.ex;unfold fq;rw[h1.read,h2]
def VL(hb:b<4294967296)(hf:gA b=ycZ):∃s M,Fl b s M/\fq b=kJ s M:=by
 rcases av0 hb with ⟨s,M,h⟩ | h
 .exact ⟨s,M,h,ayj h⟩
 .rw [hf] at h;cases h
def aA6(hb:b<4294967296)(hf:gA b=ycZ):Hq 429 (fq b):=by
 obtain⟨s,M,h,e⟩:=VL hb hf;rw[e];exact awo h
structure nS(F:List (List Nat))(n m:Nat):Prop where
 len:F.length=n
 row:∀r,r∈F->r.length=m
 fin:∀r,r∈F->∀b,b∈r->gA b=ycZ/\b<4294967296
noncomputable def lV(F:List (List Nat))(c r:Nat):Rat:=fq ((F.getD r []).getD c 0)
def aev{r:List Nat}(h:nf n r=0):r.length=n/\∀b,b∈r->gA b=ycZ:=by
 unfold nf at h;obtain⟨h1,h2⟩:=adC.1 h;have h3:r.length=n:=by
  by_cases c:r.length=n
  .exact c
  .rw [yt c] at h1;exact absurd h1 (by decide)
 refine⟨h3,fun b hb=>?_⟩
 cases hf:gA b with
 | true=>rfl
 | false=>
  have:rz r=ycZ:=by
   unfold rz;rw[ybC];exact⟨b,hb,by rw[hf];rfl⟩
  rw[yD this] at h2;exact absurd h2 (by decide)
def asp(h:C6 n m F=0)(hb:∀r,r∈F->∀b,b∈r->b<4294967296):nS F n m:=by
 unfold C6 at h;by_cases c:F.length=n
 .rw [yD c] at h
  have:=aaD h
  exact⟨c,fun r hr=>(aev (this r hr)).1,fun r hr b bG=>⟨(aev (this r hr)).2 b bG,hb r hr b bG⟩⟩
 .rw [yt c] at h;exact absurd h (by decide)
def nS.at{c r:Nat}(h:nS F n m)(hr:r<n)(hc:c<m):∃(h1:r<F.length) (h2:c<F[r].length),lV F c r=fq (F[r][c])/\gA (F[r][c])=ycZ/\F[r][c]<4294967296:=by
 have h1:r<F.length:=by rw[h.len];exact hr
 have h2:c<F[r].length:=by rw[h.row _ (xU h1)];exact hc
 refine⟨h1,h2,?_,h.fin _ (xU h1) _ (xU h2)⟩;unfold lV;simp only[xd,xo h1,xo h2,Option.getD_some]
def nS.H{c r:Nat}(h:nS F n m)(hr:r<n)(hc:c<m):Hq 429 (lV F c r):=by
 obtain⟨_,_,e,f1,f2⟩:=h.at hr hc;rw[e];exact aA6 f2 f1
def By(S i:Nat):Rat:=((2*(i:Int)+1-(S:Int):Int):Rat)/((2:Int):Rat)
def GL{S i:Nat}(hS:S<=8)(hi:i<=8):Hq 80 (By S i):=(Hu (z:=2*(i:Int)+1-(S:Int)) (by omega)).div (Hu (z:=2) (by decide))
def Xp(ct:Nat)(a b:Int):lH ct 2 [aa a,aa b]=FL (.ptr ct 0,.cells ycZ ycZ ycZ 2 [aa a,aa b]):=rfl
def ayk(h:Exc P L)(hb:b<4294967296)(hf:gA b=ycZ):∃r,ab P L 685 [.av .f32 b] r/\bM r (fq b):=by
 obtain⟨s,M,bG,e⟩:=VL hb hf;rw[e];exact aAN h.toTx h.Xl bG (ayi h.toFx h.toTx h.LU h.Xk bG)
def aA7(h:Fr' P L)(QX:Has P L 725 Lr){C R S i:Nat}(hS:S<=8)(hi:i<=8):∃x,ab P L 725 [.agg [aa C,aa R,aa S],aa i] x/\bM x (By S i):=by
 obtain⟨u,e1,hu⟩:=Fu h (z:=2*(i:Int)+1-(S:Int)) (by omega) (by omega);obtain⟨w,e2,hw⟩:=Fu h (z:=2) (by omega) (by omega);obtain⟨x,e3,hx⟩:=YQ h hu hw (by decide) (Hu (by omega)) (Hu (by decide)) (by decide);obtain⟨u1,u2,u3,u4,rfl,gu⟩:=hu.gen;obtain⟨w1,w2,w3,w4,rfl,gw⟩:=hw.gen;have zh:=hx;obtain⟨x1,x2,x3,x4,rfl,gx⟩:=hx.gen;unfold ab at e1 e2 e3;refine⟨_,?_,zh⟩;unfold ab;rw[aE QX]
 simp only[go_sem,ya,yb,Lr,aQ,aT,yd,ye,yp,wrap64 (n:=2*(i:Int)) (by omega) (by omega),wrap64 (n:=2*(i:Int)+1) (by omega) (by omega),wrap64 (n:=2*(i:Int)+1-(S:Int)) (by omega) (by omega),e1,e2,gu.ai,gw.ai,e3,gx.st,bz,cI,cJ,iC,gx.eA]
end
def bf(f:Nat->Rat):Nat->Rat
 | 0=>0
 | n+1=>bf f n+f n
def EA{f:Nat->Rat}{K N:Nat}(h:∀t,t<N->Hq K (f t)):∀{n:Nat},n<=N->Hq (2+n*(K+1)) (bf f n)
 | 0,_=>Xc.mono (by omega)
 | n+1,hn=>((EA h (n:=n) (by omega)).add (h n (by omega))).mono (by rw[xH];omega)
def Mo(M:List AV)(f x y:Rat):Prop:=∃a1 a2 a3 a4 a5 a6 a7 a8 a9 qg qh a12,M=[a1,a2,a3,a4,a5,a6,a7,a8,a9,qg,qh,a12]/\bM (.agg [a1,a2,a3,a4]) f/\bM (.agg [a5,a6,a7,a8]) x/\bM (.agg [a9,qg,qh,a12]) y
section
variable {c1 c2 c3 c4:AV}(h:F4 c1 c2 c3 c4)(hp:Hp)(ct id:Nat)(a1 a2 a3 a4 a5 a6 a7 a8 a9 qg qh a12:AV)
include h
theorem F4.p:aG [c1,c2,c3,c4]=ycZ:=by have:=h.pu;simpa[aX] using this
theorem F4.o:cd [c1,c2,c3,c4]=ycZ:=by simp[cd,h.o1,h.o2,h.o3,h.o4]
theorem F4.sX:fy hp ct id 0 4 [c1,c2,c3,c4] (FL (.cells ycZ ycZ ycZ 12 [a1,a2,a3,a4,a5,a6,a7,a8,a9,qg,qh,a12]))=FL (.aw [],aW hp id (.cells ycZ ycZ ycZ 12 [c1,c2,c3,c4,a5,a6,a7,a8,a9,qg,qh,a12]),ct):=by
 rw[A7 (sz:=4) (by rfl) (by simp) h.o,h.p];rfl
theorem F4.R7:fy hp ct id 4 4 [c1,c2,c3,c4] (FL (.cells ycZ ycZ ycZ 12 [a1,a2,a3,a4,a5,a6,a7,a8,a9,qg,qh,a12]))=FL (.aw [],aW hp id (.cells ycZ ycZ ycZ 12 [a1,a2,a3,a4,c1,c2,c3,c4,a9,qg,qh,a12]),ct):=by
 rw[A7 (sz:=4) (by rfl) (by simp) h.o,h.p];rfl
end
def aA8{M:List AV}{f x y:Rat}(h:Mo M f x y)(hp:Hp)(ct id:Nat){N:List AV}(hN:N.length=12):fy hp ct id 0 12 M (FL (.cells ycZ ycZ ycZ 12 N))=FL (.aw [],aW hp id (.cells ycZ ycZ ycZ 12 M),ct):=by
 obtain⟨a1,a2,a3,a4,a5,a6,a7,a8,a9,qg,qh,a12,rfl,h1,h2,h3⟩:=h;have g1:=h1.f4;have g2:=h2.f4;have g3:=h3.f4;have p1:=g1.p;have p2:=g2.p;have p3:=g3.p;simp only[aG,yf,Bool.and_true] at p1 p2 p3
 rw[A7 (sz:=12) (by rfl) (by simp[hN]) (by simp[cd,g1.o1,g1.o2,g1.o3,g1.o4,g2.o1,g2.o2,g2.o3,g2.o4,g3.o1,g3.o2,g3.o3,g3.o4])];have e:over 0 [a1,a2,a3,a4,a5,a6,a7,a8,a9,qg,qh,a12] N=[a1,a2,a3,a4,a5,a6,a7,a8,a9,qg,qh,a12]:=by
  unfold over;rw[xa (by simp[hN])];rfl
 rw[e];have e2:aG [a1,a2,a3,a4,a5,a6,a7,a8,a9,qg,qh,a12]=ycZ:=by simp[aG,p1,p2,p3]
 rw[e2];rfl
structure Mom(P:aF)(L:Lib):Prop extends Fr' P L where
 QT:Has P L 719 Lp
 aA9:Has P L 673 Wi
 aE0:Has P L 724 agF
 QX:Has P L 725 Lr
def ahL(hp:Hp)(ct id:Nat)(a b:Int)(x y:AV):fy hp ct id 0 2 [aa a,aa b] (FL (.cells ycZ ycZ ycZ 2 [x,y]))=FL (.aw [],aW hp id (.cells ycZ ycZ ycZ 2 [aa a,aa b]),ct):=rfl
def aBa(n:Nat)(hp:Hp)(a b:Int):freeze (n+20) hp (.agg [aa a,aa b])=FL (.agg [aa a,aa b],hp):=bY _ _ (by simp only[go_sem])
def z7(n:Nat)(hp:Hp)(a b c:Int):freeze (n+20) hp (.agg [aa a,aa b,aa c])=FL (.agg [aa a,aa b,aa c],hp):=bY _ _ (by simp only[go_sem])
def Cx{S k i:Nat}(hi:i<S):(k*S+i)%S=i:=by rw[xn,Nat.mul_add_mod,Nat.mod_eq_of_lt hi]
def Cy{S k i:Nat}(hi:i<S):(k*S+i)/S=k:=by rw[xn,Nat.mul_add_div (by omega),Nat.div_eq_of_lt hi,y5]
def pn{C S a i:Nat}(ha:a<C)(hi:i<S):a*S+i<C*S:=by
 have:=yI S (show a+1<=C by omega)
 rw[xH,uR] at this;omega
def CO{S t:Nat}(h:t<S*S):t%S<S/\t/S<S:=by
 have h0:0<S:=yat (fun e=>by subst e;simp at h);exact⟨xG _ h0,ybe h⟩
def hF(vs mc:List AV):Hp:=[(1,.cells ycZ ycZ ycZ 4 mc),(0,.cells ycZ ycZ ycZ 4 vs)]
structure Cen(P:aF)(L:Lib):Prop extends Mom P L,Tx P L where
 aE1:Has P L 672 agA
 QW:Has P L 686 Lm
 aE2:Has P L 688 agC
 aE3:Has P L 718 agE
 Xi:Has P L 122 KX
 Xj:Has P L 123 KY
 LQ:Has P L 160 G8
def zB(B:Nat)(p:Hp×Nat):St:=⟨[],p.1,p.2,B⟩
def ayl(B:Nat)(a:Hp)(b:Nat):zB B (a,b)=⟨[],a,b,B⟩:=rfl
def apO(tm:Env)(hp:Hp)(ct B:Nat):bk [] ⟨tm,hp,ct,B⟩=zB B (Zd B hp (ll B hp 100000 (cQ B hp) [])):=rfl
def OL{C R k:Nat}(h:k<C*R):k%C<C/\k/C<R:=by
 have h0:0<C:=yat (fun e=>by rw[e,wq] at h;omega);exact⟨xG _ h0,ybe h⟩
def kO(a:Rat):Rat:=if a<0 then 0 else a
def VM{a:Rat}{K:Nat}(h:Hq K a):Hq (K+2) (kO a):=by
 unfold kO;split
 .exact Xc.mono (by omega)
 .exact h.mono (by omega)
noncomputable def jx(s:List Nat):Int:=if ik s=0 then (if bl s<0 then 3 else 0) else ik s
def adI{s:List Nat}(h:jx s=0):ik s=0/\0<=bl s:=by
 unfold jx at h;by_cases c:ik s=0
 .rw [yD c] at h;by_cases d:bl s<0
  .rw [yD d] at h;exact absurd h (by decide)
  .exact ⟨c,tC.1 d⟩
 .rw [yt c] at h;exact absurd h c
structure ahM(C R S:Int)(c r s:Nat):Prop where
 hC:C=c
 hR:R=r
 hS:S=s
 c1:1<=c
 c8:c<=8
 r1:1<=r
 r8:r<=8
 s2:2<=s
 s8:s<=8
def aBb{C R S:Int}(h:rA C R S=0):ahM C R S C.toNat R.toNat S.toNat:=by
 obtain⟨⟨a1,a2⟩,⟨b1,b2⟩,d1,d2⟩:=Uw h;exact⟨by omega,by omega,by omega,by omega,by omega,by omega,by omega,by omega,by omega⟩
def aew{C R S:Int}{F:List (List Nat)}(h:kL C R S F=0)(hb:∀r,r∈F->∀b,b∈r->b<4294967296):ahM C R S C.toNat R.toNat S.toNat/\nS F (R.toNat*S.toNat) (C.toNat*S.toNat):=by
 unfold kL at h;by_cases c:rA C R S=0
 .rw [yD c] at h;exact⟨aBb c,asp h hb⟩
 .rw [yt c] at h;exact absurd h c
structure Ctd(P:aF)(L:Lib):Prop extends Cen P L,Frc P L,Exc P L,Ck P L where
 aE4:Has P L 654 agy
 aE5:Has P L 655 agz
 aE6:Has P L 687 agB
 LY:Has P L 689 Ln
 aE7:Has P L 690 agD
 QY:Has P L 691 Lo
def aBc(h:Fr' P L)(QY:Has P L 691 Lo){v:AV}{a:Rat}(hv:bM v a):∃r,ab P L 691 [v] r/\bM r (kO a):=by
 have e1:=QI h hv;obtain⟨z,e2,hz⟩:=Fu h (z:=0) (by omega) (by omega);have eS:=hv;obtain⟨v1,v2,v3,v4,rfl,gv⟩:=hv.gen;have dc:=hz;obtain⟨z1,z2,z3,z4,rfl,gz⟩:=hz.gen;unfold ab at e1 e2;unfold kO;by_cases c:a<0
 .have hd:decide (bX a.num<0)=ycZ:=y8 ((FR a).2 c);rw[yD c];refine⟨_,?_,dc⟩;unfold ab;rw[aE QY];simp only[go_sem,ya,yb,Lo,gv.bx,aQ,ye,iC,gv.ai,e1,hd,e2,gz.st,bz,cI,cJ,gz.eA]
 .have hd:decide (bX a.num<0)=yda:=yQ (fun e=>c ((FR a).1 e));rw[yt c];refine⟨_,?_,eS⟩;unfold ab;rw[aE QY];simp only[go_sem,ya,yb,Lo,gv.bx,aQ,ye,iC,gv.ai,e1,hd,gv.st,cI,cJ,gv.eA]
def ahN(h:Ck P L)(mj:Has P L 692 EQ)(LY:Has P L 689 Ln){s:List Nat}(hl:s.length<=1000000):ab P L 689 [.str s] (aa (jx s)):=by
 have e1:=m86 h (s:=s) (by omega);unfold ab at e1;unfold jx;by_cases c:ik s=0
 .rw [yD c];obtain⟨v,e2,hv⟩:=ahH h c;have e3:=QI h.toFr' hv;obtain⟨v1,v2,v3,v4,rfl,gv⟩:=hv.gen;have hd:decide (bX (bl s).num<0)=decide (bl s<0):=vz.2 (FR _);have e4:=C5 mj (decide (bl s<0)) 3;simp only[vU] at e4;rw[c] at e1;unfold ab at e2 e3 e4;unfold ab;rw[aE LY];simp only[go_sem,ya,Ln,e1,e2,gv.ai,bz,e3,hd,e4]
 .rw [yt c];unfold ab;rw[aE LY];simp only[go_sem,ya,Ln,e1,c]
def adJ{f:Nat->Rat}:∀n,fp 0 ((xx n).map f)=bf f n
 | 0=>rfl
 | n+1=>by
  have h:=adJ (f:=f) n;rw[vd,xb,bf,<-h];simp[fp,List.foldl_append]
def SL(id:Nat)(o:Obj)(j:Nat):∀hp:Hp,ak (aW hp id o) j=if j=id then (ak hp id).map (fun _=>o) else ak hp j
 | []=>by by_cases h:j=id<;>simp[aW,ak,h]
 | (i,u)::r=>by
  have ih:=SL id o j r;by_cases h1:i=id
  .subst h1;rw[ab9];by_cases h2:j=i
   .subst h2;rw[yD rfl,ji,ji];rfl
   .rw [yt h2,eW _ _ (fun e=>h2 e.symm),eW _ _ (fun e=>h2 e.symm)]
  .rw [abe _ _ _ h1];by_cases h2:j=i
   .subst h2;rw[yt h1,ji,ji]
   .rw [eW _ _ (fun e=>h2 e.symm),ih,eW _ _ h1,eW _ _ (fun e=>h2 e.symm)]
def apP{hp:Hp}{id:Nat}{u:Obj}(h:ak hp id=FL u)(o:Obj)(j:Nat):ak (aW hp id o) j=if j=id then FL o else ak hp j:=by
 rw[SL,h];rfl
def DO(id j:Nat):∀hp:Hp,ak (cT hp id) j=if j=id then none else ak hp j
 | []=>by split<;>rfl
 | (i,u)::r=>by
  have ih:=DO id j r;by_cases h1:i=id
  .subst h1;rw[Jt,ih];by_cases h2:j=i
   .grind
   .rw [yt h2,yt h2,eW _ _ (fun e=>h2 e.symm)]
  .rw [Cb _ _ h1];by_cases h2:j=i
   .subst h2;rw[yt h1,ji,ji]
   .rw [eW _ _ (fun e=>h2 e.symm),ih,eW _ _ (fun e=>h2 e.symm)]
def acE(i:Nat):∀l:List Nat,jq i l=ycZ↔i∈l
 | []=>by simp[jq]
 | j::r=>by
  by_cases h:j=i
  .subst h;simp[ace]
  .rw [abi _ h,acE i r]
   grind
def TU{i:Nat}{l:List Nat}(h:i∉l):jq i l=yda:=by
 cases hq:jq i l with
 | false=>rfl
 | true=>exact absurd ((acE i l).1 hq) h
def adK(hp:Hp):∀(ids seen cB:List Nat) (n:Nat),ids.length<n->(∀i,i∈ids->∃o,ak hp i=FL o/\jI o=[])->ids.Nodup->(∀i,i∈ids->i∉seen)->nP hp n (ids++cB) seen=nP hp (n-ids.length) cB (seen++ids)
 | [],seen,cB,n,_,_,_,_=>by simp
 | i::ids,seen,cB,0,h,_,_,_=>by simp at h
 | i::ids,seen,cB,n+1,h,h1,h2,h3=>by
  obtain⟨o,g,e⟩:=h1 i wA;have hn:=wj.1 h2
  rw[ym,TJ,TU (h3 i wA),UM,g,UN,e,yG,adK hp ids (seen++[i]) cB n (by simpa using h) (fun j hj=>h1 j (xR _ hj)) hn.2 (fun j hj hm=>by
   rcases xJ.1 hm with hm | hm
   .grind
   .simp only [xz] at hm
    subst hm;exact hn.1 hj)]
  grind
def asq(hp:Hp){n:Nat}(h:0<n)(seen:List Nat):nP hp n [] seen=seen:=by
 obtain⟨m,rfl⟩:∃m,n=m+1:=⟨n-1,by lia⟩;exact adq hp m seen
def TV(hp:Hp)(f:Nat->Option Nat):∀(seen:List Nat) (k:Nat) (acc:Hp) (j:Nat),j<k->ak (eE hp f seen k acc) j=ak acc j
 | [],k,acc,j,_=>rfl
 | id::r,k,acc,j,h=>by
  rw[eE]
  cases ak hp id with
  | none=>exact TV hp f r (k+1) acc j (by omega)
  | some o=>
   rw[TV hp f r (k+1) _ j (by omega),eW _ _ (by omega)]
def SM(hp:Hp)(f:Nat->Option Nat):∀(seen:List Nat) (k:Nat) (acc:Hp) (j:Nat) (h:j<seen.length) (o:Obj),ak hp seen[j]=FL o->ak (eE hp f seen k acc) (k+j)=FL (gI f o)
 | id::r,k,acc,0,_,o,ho=>by
  simp only[wG] at ho;rw[eE];simp only[ho];show ak (eE hp f r (k+1) ((k,gI f o)::acc)) k=_
  rw[TV hp f r (k+1) _ k (by omega),ji]
 | id::r,k,acc,j+1,h,o,ho=>by
  have:=fun Bj=>SM hp f r (k+1) Bj j (by simpa using h) o ho
  rw[eE,show k+(j+1)=k+1+j by omega]
  cases ak hp id with
  | none=>exact this _
  | some u=>exact this _
def Gc:∀(seen:List Nat) (k j:Nat) (h:j<seen.length),seen.Nodup->gZ seen[j] seen k=FL (k+j)
 | s::r,k,0,_,_=>by simp only[wG,y5];exact adr s r k
 | s::r,k,j+1,h,hn=>by
  have hn:=wj.1 hn;have hj:j<r.length:=by simp_all
  simp only[wV];rw[acf _ _ (fun e=>hn.1 (by rw[e];exact xU hj)),Gc r (k+1) j hj hn.2]
  grind
def aks{live:List Nat}{tm:Env}{hp:Hp}{ct:Nat}{seen:List Nat}(hr:nP hp 100000 (dR (bm tm live)) []=seen):
  ∃an,bk live ⟨tm,hp,ct,0⟩=⟨dS (pos seen) (bm tm live),an,seen.length,0⟩/\∀j (h:j<seen.length) o,ak hp seen[j]=FL o->ak an j=FL (gI (pos seen) o):=by
 refine⟨eE hp (pos seen) seen 0 [],by rw[ap,hr,ads],fun j h o ho=>?_⟩
 have:=SM hp (pos seen) seen 0 [] j h o ho
 grind
def aBd(a:Rat):decide (bX a.num=0)=decide (a=0):=by
 have:bX a.num=0↔a=0:=by
  rw[<-Rat.num_eq_zero];unfold bX
  grind
 grind
def b3(rows o z:List AV):Hp:=[(2,.cells ycZ ycZ ycZ 4 z),(1,.cells ycZ ycZ ycZ 4 o),(0,.cells ycZ ycZ ycZ 1 rows)]
def iF(a:Nat)(ids pl:List Nat):List Nat:=a::(ids++pl)
def aBe(Xq:Has P L 355 Qg)(a:Rat):ab P L 355 [.str (RT a)] (.bool (decide (a=0))):=by
 have:=avQ a
 unfold ab;rw[aE Xq];simp only[go_sem,ya,Qg,mG,this]
abbrev wd{β:Type}(M:List (List β)):Nat:=(M.getD 0 []).length
section
variable {tm tm':Env}{cs:List AV}{W ids live pl:List Nat}{a ct i n:Nat}
def jg(ids W:List Nat):List AV:=vL (fun i w=>AV.ax i 0 w) ids W
def j9(ids W:List Nat)(r:Nat):List AV:=jg ids W++yF r .ah
def ass(h:ids.length=W.length):(jg ids W).length=W.length:=by simp[jg,h]
def acF{w:Nat}(h:ids.length=W.length):jg (ids++[i]) (W++[w])=jg ids W++[.ax i 0 w]:=by
 unfold jg;rw[List.zipWith_append h];rfl
def aaE:∀r:Nat,gh (yF r AV.ah)=[]
 | 0=>rfl
 | r+1=>by rw[wN,gh,aaE r];rfl
def Tf(r:Nat):∀{ids W:List Nat},ids.length=W.length->gh (j9 ids W r)=ids
 | [],[],_=>aaE r
 | i::ids,w::W,h=>by
  have ih:=Tf r (ids:=ids) (W:=W) (by simpa using h);have e:j9 (i::ids) (w::W) r=.ax i 0 w::j9 ids W r:=rfl;rw[e,gh,ih];rfl
 | [],_::_,h=>by simp at h
 | _::_,[],h=>by simp at h
def abA(f:Nat->Option Nat):∀r:Nat,dI f (yF r AV.ah)=yF r .ah
 | 0=>rfl
 | r+1=>by rw[wN,dI,abA f r];rfl
def TW{f:Nat->Option Nat}(r:Nat):∀{ids W:List Nat} (k:Nat),ids.length=W.length->(∀i (h:i<ids.length),f ids[i]=FL (k+i))->dI f (j9 ids W r)=j9 (wo k ids.length) W r
 | [],[],_,_,_=>abA f r
 | i::ids,w::W,k,h,hf=>by
  have h0:=hf 0 (by simp);simp only[wG,y5] at h0;have ih:=TW (f:=f) r (ids:=ids) (W:=W) (k+1) (by simpa using h) (fun j hj=>by
   have:=hf (j+1) (by simpa using hj)
   simp only[wV] at this
   rw[this];congr 1;lia)
  have e:j9 (i::ids) (w::W) r=.ax i 0 w::j9 ids W r:=rfl;rw[e,dI,ih,yy,List.range'_succ];simp only[br,h0];rfl
 | [],_::_,_,h,_=>by simp at h
 | _::_,[],_,h,_=>by simp at h
def Tg{sz:Nat}{y:Bool}(hs:0<sz):∀(ids W:List Nat) (T:List (List AV)) (hp:Hp) (n:Nat),ids.length+4<=n->ids.length=T.length->W.length=T.length->(∀i (h1:i<ids.length) (h2:i<T.length) (h3:i<W.length),T[i].length=W[i]*sz/\∃rw,ak hp ids[i]=FL (.cells rw ycZ y sz T[i]))->
  ∃an,cE n hp (jg ids W)=FL (vL (fun w r=>.au y w r) W T,an)/\∀j,j∉ids->ak an j=ak hp j
 | [],[],[],hp,n+1,_,_,_,_=>⟨hp,rfl,fun _ _=>rfl⟩
 | [],_,[],hp,0,h,_,_,_=>by simp at h
 | [],_,_::_,_,_,_,h,_,_=>by simp at h
 | [],_::_,[],_,_,_,_,h,_=>by simp at h
 | _::_,_,[],_,_,_,h,_,_=>by simp at h
 | _::_,[],_::_,_,_,_,_,h,_=>by simp at h
 | i::ids,w::W,r::T,hp,n+1,hn,hl,hW,h=>by
  obtain⟨l0,da,g0⟩:=h 0 (by simp) (by simp) (by simp);simp only[wG] at l0 g0;simp only[yy] at hn hl hW;obtain⟨m,rfl⟩:∃m,n=m+1+1:=⟨n-2,by omega⟩;have hz:r7 (m+1) hp i=FL (y,sz,r,if da=ycZ then aW hp i (.cells yda ycZ y sz r) else hp):=by
   rw[Oy,g0];cases da<;>rfl
  have aym:∃aZ,(if da=ycZ then aW hp i (.cells yda ycZ y sz r) else hp)=aZ/\∀j,ak aZ j=if j=i then FL (.cells (if da=ycZ then yda else da) ycZ y sz r) else ak hp j:=by
   refine⟨_,rfl,fun j=>?_⟩
   cases da with
   | true=>simp only[xA];rw[apP g0]
   | false=>
    simp only[yC,xm]
    split
    .rename_i e;rw[e,g0]
    .rfl
  obtain⟨aZ,e1,g1⟩:=aym;rw[e1] at hz;obtain⟨an,e2,g2⟩:=Tg hs ids W T aZ (m+1+1) (by omega) (by omega) (by omega) (fun k h1 h2 h3=>by
   obtain⟨a,rw2,b⟩:=h (k+1) (by simpa using h1) (by simpa using h2) (by simpa using h3);simp only[wV] at a b;refine⟨a,?_⟩;rw[g1]
   split
   .rename_i e;rw[e,g0] at b;simp only[yc,Obj.cells.injEq] at b;exact⟨_,by rw[b.2.2.2.2]⟩
   .exact ⟨rw2,b⟩)
  refine⟨an,?_,fun j hj=>?_⟩
  .have e:jg (i::ids) (w::W)=.ax i 0 w::jg ids W:=rfl;rw[e,abf,Ox,hz,kR y l0 hs,ad3,e2,ad4];rfl
  .simp only [xu,not_or] at hj;rw[g2 j hj.2,g1,yt hj.1]
def gT(T:List (List AV))(i:Nat):List AV:=T.getD i []
def CP{T:List (List AV)}(h:i<T.length):gT T i=T[i]:=by
 simp[gT,xd,xo h]
def jT(n:Nat):List Nat:=(xx n).map (·+1)
def AR(n:Nat):(jT n).length=n:=by simp[jT]
def SN(n:Nat):jT n=wo 1 n:=by
 unfold jT;rw[List.range'_eq_map_range]
 grind
def TX(h:i<(jT n).length):(jT n)[i]=i+1:=by simp[jT]
def TY:i∈jT n↔0<i/\i<=n:=by
 rw[SN,ue];lia
structure rT(hp:Hp)(x y:Bool)(sz:Nat)(W:List Nat)(T:List (List AV))(r:Nat):Prop where
 l:W.length=T.length
 m:ak hp 0=FL (.cells ycZ yda x 1 (j9 (jT T.length) W r))
 r:∀i,i<T.length->ak hp (i+1)=FL (.cells ycZ ycZ y sz (gT T i))
section
variable {hp:Hp}{x y:Bool}{sz:Nat}{W:List Nat}{T:List (List AV)}{r:Nat}
def rT.ai(h:rT hp x y sz W T 0)(hs:0<sz)(hw:∀i (h1:i<T.length) (h2:i<W.length),T[i].length=W[i]*sz)(hn:T.length+4<=n):
  ∃an,cE n hp (j9 (jT T.length) W 0)=FL (vL (fun w r=>.au y w r) W T,an)/\∀j,(∀i,i<T.length->j≠i+1)->ak an j=ak hp j:=by
 have e0:j9 (jT T.length) W 0=jg (jT T.length) W:=by unfold j9;simp
 rw[e0];obtain⟨aZ,e1,g1⟩:=Tg hs (jT T.length) W T hp n (by rw[AR];exact hn) (AR _) h.l (fun i h1 h2 h3=>by
  refine⟨hw i h2 h3,ycZ,?_⟩;rw[TX]
  have:=h.r i h2
  rwa[CP h2] at this)
 refine⟨aZ,e1,fun j hj=>g1 j fun hm=>?_⟩
 have:=TY.1 hm
 exact hj (j-1) (by omega) (by omega)
def aex{hp an:Hp}{id s:Nat}{da ex:Bool}{dB:List AV}(h:cE n hp cs=FL (dB,an)):CW n id hp (FL (.cells da yda ex s cs))=FL (ex,s,dB,aW an id (.cells yda yda ex s cs)):=by
 simp[CW,h]
def rT.CW(h:rT hp x y sz W T 0)(hs:0<sz)(hw:∀i (h1:i<T.length) (h2:i<W.length),T[i].length=W[i]*sz)(hn:T.length+4<=n):
  ∃an,VE.CW n 0 hp (FL (.cells ycZ yda x 1 (j9 (jT T.length) W 0)))=FL (x,1,vL (fun w r=>.au y w r) W T,an):=by
 obtain⟨aZ,e,_⟩:=h.ai hs hw hn;exact⟨_,aex e⟩
def ayn{da ex:Bool}{cells:List AV}(hm:ak hp a=FL (.cells da yda ex 1 cells))(hc:gh cells=ids)(hr:∀i,i∈ids->∃o,ak hp i=FL o/\jI o=[])(aZ:∀i,i∈pl->∃o,ak hp i=FL o/\jI o=[])(hn:(iF a ids pl).Nodup)(hl:ids.length+pl.length<90000):nP hp 100000 (a::pl) []=iF a ids pl:=by
 have jB:=wj.1 hn;have eh:∀i,i∈ids++pl->i∉[a]:=fun i hi hm=>by
  simp only[xz] at hm;subst hm;exact jB.1 hi
 rw[show (100000:Nat)=99999+1 from rfl,TJ,acd,UM,hm,UN,Ul,hc,yG]
 have:ids++pl=(ids++pl)++[]:=by simp
 rw[this,adK hp (ids++pl) [a] [] 99999 (by rw[yN];lia) (fun i hi=>by
  rcases xJ.1 hi with h | h
  .exact hr i h
  .exact aZ i h) jB.2 eh,asq hp (by rw[yN];lia)]
 rfl
def aey(hE:dR (bm tm live)=a::pl)(hm:ak hp a=FL (.cells ycZ yda x 1 (j9 ids W r)))(hl:ids.length=T.length)(hW:W.length=T.length)(hr:∀i (h:i<ids.length),ak hp ids[i]=FL (.cells ycZ ycZ y sz (gT T i)))(hM:T.length<=10000)(hn:(iF a ids pl).Nodup)(aZ:∀i,i∈pl->∃o,ak hp i=FL o/\jI o=[])(nJ:pl.length<=1000)(hT:∀S,gZ a S 0=FL 0->(∀j (h:j<pl.length),gZ pl[j] S 0=FL (T.length+1+j))->dS (pos S) (bm tm live)=tm'):
  ∃an,bk live ⟨tm,hp,ct,0⟩=⟨tm',an,1+(T.length+pl.length),0⟩/\rT an x y sz W T r/\∀j (h:j<pl.length) rw ex z cs,ak hp pl[j]=FL (.cells rw ycZ ex z cs)->ak an (T.length+1+j)=FL (.cells rw ycZ ex z cs):=by
 have Hv:∀i,i∈ids->∃o,ak hp i=FL o/\jI o=[]:=fun i hi=>by
  obtain⟨k,hk,rfl⟩:=uC.1 hi;exact⟨_,hr k hk,rfl⟩
 have hR:=ayn (pl:=pl) hm (Tf r (by lia)) Hv aZ hn (by lia);rw[<-hE] at hR;have⟨an,e,g⟩:=aks (ct:=ct) hR;have ls:(iF a ids pl).length=1+(ids.length+pl.length):=by simp[iF];lia
 have s0:∀h:0<(iF a ids pl).length,(iF a ids pl)[0]=a:=fun _=>rfl
 have sI:∀i (h:i<ids.length) (h2:i+1<(iF a ids pl).length),(iF a ids pl)[i+1]=ids[i]:=fun i h h2=>by
  simp[iF,wH h]
 have sP:∀j (h:j<pl.length) (h2:T.length+1+j<(iF a ids pl).length),(iF a ids pl)[T.length+1+j]=pl[j]:=fun j h h2=>by
  have:T.length+1+j=(ids.length+j)+1:=by lia
  simp only[iF,this,wV];rw[wg (by lia)]
  simp
 have pI:∀i (h:i<ids.length),pos (iF a ids pl) ids[i]=FL (1+i):=fun i h=>by
  have:=Gc (iF a ids pl) 0 (i+1) (by lia) hn
  rw[sI i h (by lia)] at this;rw[pos_eq,this];congr 1;lia
 have q3:gZ a (iF a ids pl) 0=FL 0:=by
  have:=Gc (iF a ids pl) 0 0 (by lia) hn
  rw[s0] at this;exact this
 have q4:∀j (h:j<pl.length),gZ pl[j] (iF a ids pl) 0=FL (T.length+1+j):=fun j hj=>by
  have:=Gc (iF a ids pl) 0 (T.length+1+j) (by lia) hn
  rw[sP j hj (by lia),yd] at this;exact this
 refine⟨an,by rw[e,hT _ q3 q4,ls,hl],⟨hW,?_,fun i hi=>?_⟩,fun j hj da ex z cs ho=>?_⟩
 .have:=g 0 (by lia) _ (by rw[s0];exact hm)
  rw[this];have e2:gI (pos (iF a ids pl)) (.cells ycZ yda x 1 (j9 ids W r))=.cells ycZ yda x 1 (dI (pos (iF a ids pl)) (j9 ids W r)):=rfl;rw[e2,TW r 1 (by lia) pI,hl,<-SN]
 .have:=g (i+1) (by lia) _ (by rw[sI i (by lia)];exact hr i (by lia))
  rw[this];rfl
 .have:=g (T.length+1+j) (by lia) _ (by rw[sP j hj (by lia)];exact ho)
  rw[this];rfl
def alR(hp:pl.Nodup)(h:∀i,i∈pl->n<i):(iF 0 (jT n) pl).Nodup:=by
 unfold iF;refine wj.2 ⟨fun q=>?_,?_⟩
 .rcases xJ.1 q with q | q
  .have:=TY.1 q;lia
  .have:=h 0 q;lia
 .refine tc.2 ⟨by rw[SN];exact uf,hp,fun a ha b hb e=>?_⟩
  have h1:=TY.1 ha;have h2:=h b hb
  lia
def rT.comp(h:rT hp x y sz W T r)(hE:dR (bm tm live)=[0])(hM:T.length<=10000)(hT:∀S,gZ 0 S 0=FL 0->dS (pos S) (bm tm live)=tm'):∃an,bk live ⟨tm,hp,ct,0⟩=⟨tm',an,1+T.length,0⟩/\rT an x y sz W T r:=by
 obtain⟨an,e,g,_⟩:=aey (ct:=ct) (pl:=[]) hE h.m (AR _) h.l (fun i hi=>by
  rw[TX];rw[AR] at hi;exact h.r i hi) hM (alR List.nodup_nil (fun _ q=>by cases q)) (fun _ q=>by cases q) (by simp) (fun S q _=>hT S q)
 exact⟨an,e,g⟩
def ast{hp0:Hp}{x0:Bool}{b w r0:Nat}(h:rT hp0 x0 y sz W T r0)(hi:T.length=i)(hE:dR (bm tm live)=[a])(hb:i<b)(DA:a≠b)(ha:a=0\/i<a)(hm:ak hp a=FL (.cells ycZ yda x 1 (jg (jT i) W++ .ax b 0 w::yF r .ah)))(hr:∀j,j<i->ak hp (j+1)=ak hp0 (j+1))(hc:ak hp b=FL (.cells ycZ ycZ y sz cs))(hM:i<=1000)(hT:∀S,gZ a S 0=FL 0->dS (pos S) (bm tm live)=tm'):∃an,bk live ⟨tm,hp,ct,0⟩=⟨tm',an,1+(i+1),0⟩/\rT an x y sz (W++[w]) (T++[cs]) r:=by
 have Hv:∀j (h:j<(jT i++[b]).length),(jT i++[b])[j]=if j<i then j+1 else b:=fun j h=>by
  by_cases hj:j<i
  .rw [yD hj,wH (by rw[AR];exact hj),TX]
  .rw [yt hj,wg (by rw[AR];omega)];simp
 have li:(jT i++[b]).length=i+1:=by simp[AR]
 have lW:W.length=i:=by rw[h.l,hi]
 obtain⟨an,e,g,_⟩:=aey (hp:=hp) (x:=x) (y:=y) (sz:=sz) (r:=r) (T:=T++[cs]) (W:=W++[w]) (ct:=ct) (pl:=[]) (ids:=jT i++[b]) hE (by
  rw[hm];unfold j9;rw[acF (by rw[AR,lW]),xy];rfl) (by rw[li];simp[hi]) (by simp[lW,hi]) (fun j hj=>by
  rw[Hv j hj];rw[li] at hj;by_cases Mr:j<i
  .rw [yD Mr,hr j Mr,h.r j (by omega),CP (by omega),CP (by simp;omega),wH]
  .have aBf:j=i:=by omega
   subst aBf;rw[yt (by omega),hc,CP (by simp;omega),wg (by omega)];simp[hi]) (by simp;omega) (by
  unfold iF;rw[xT];refine wj.2 ⟨fun hx=>?_,?_⟩
  .obtain ⟨j,hj,e⟩:=uC.1 hx;rw[Hv j hj] at e;rw[li] at hj;split at e<;>omega
  .unfold List.Nodup;rw[List.pairwise_iff_getElem];intro u v hu hv huv;rw[Hv u hu,Hv v hv];rw[li] at hu hv
   split<;>split<;>omega) (fun _ q=>by cases q) (by simp) (fun S q _=>hT S q)
 exact⟨an,by rw[e];simp[hi],g⟩
end
end
def adL:∀r:List Nat,aG (dO r)=ycZ
 | []=>rfl
 | b::r=>by
  have:=adL r
  simpa[dO,aG,aX] using this
def acG:∀r:List Nat,cd (dO r)=ycZ
 | []=>rfl
 | b::r=>by
  have:=acG r
  simpa[dO,cd,er] using this
def eY.src{w:AV}{r:List Nat}(h:eY w r)(hp:Hp):jk hp 1 w=FL (r.length,dO r):=by
 have hl:(dO r).length=r.length:=by simp
 rcases h with ⟨rfl,h⟩ | ⟨e,rfl⟩
 .rw [h] at hl;simp only[yJ] at hl;rw[h,<-hl];rfl
 .show (bif yq (dO r).length ((dO r).length*1) then FL ((dO r).length,dO r) else none)=_
  rw[yi,Nat.beq_refl,yx,hl]
def FC(F:List (List Nat)):List AV:=F.map fun r=>.au yda r.length (dO r)
def adM:∀F:List (List Nat),jP eY (FC F) F
 | []=>trivial
 | r::F=>⟨.inr ⟨yda,by
   have hl:(dO r).length=r.length:=by simp
   rw[hl]⟩,adM F⟩
def adN:∀F:List (List Nat),vL (fun w r=>AV.au yda w r) (F.map wb) (F.map dO)=FC F
 | []=>rfl
 | a::F=>by
  have:=adN F
  rw[y7,y7,yaK,this];rfl
def ahO(QZ:Has P L 639 Qk){v:AV}{F:List (List Nat)}(hv:cF eY v F)(hl:F.length<=900)(hr:∀r,r∈F->r.length<=1000000):∃w,ab P L 639 [v] w/\cF eY w F/\shut w=w:=by
 have key:cZ P L [3,6,7,8] Ec (fun d st=>∃i:Nat,i+d=F.length/\((i=0/\st=⟨[(3,.ah),(6,v),(7,aa F.length),(8,aa i)],[],0,0⟩)\/(0<i/\∃hp,st=⟨[(3,.ax 0 0 i),(6,v),(7,aa F.length),(8,aa i)],hp,1+i,0⟩/\rT hp yda yda 1 ((F.take i).map wb) ((F.take i).map dO) 0))) (fun ex s'=>∃tm hp ct,s'=⟨tm,hp,ct,0⟩/\ex=.exit 0/\((F=[]/\aj tm 3=.ah/\hp=[])\/(0<F.length/\aj tm 3=.ax 0 0 F.length/\rT hp yda yda 1 (F.map wb) (F.map dO) 0))):=by
  apply c6;rintro d st ⟨i,hid,aM⟩;by_cases hi:i<F.length
  .left
   obtain⟨w,rest,zW,e0⟩:=hv.bq hi;have ot:=eY.src zW;have zW:cz w (dO F[i]):=zW;have Ys:=hr _ (xU hi);have w4:IntKind.wrap .i64 ((i:Int)+1)=((i+1:Nat):Int):=wrap64 (by omega) (by omega);have M3:(i:Int)<F.length:=by omega
   have Fa:=fun (hp:Hp) (ct id:Nat) (hg:ak hp id=FL (.cells ycZ ycZ ycZ 1 []))=>fP (ct:=ct) (by':=4) (new:=dO F[i]) (m:=F[i].length) (n:=0) hg rfl (by omega) (by omega) (by decide) (acG _)
   simp only[adL,wL,yd,yG] at Fa;rcases aM with ⟨lU,rfl⟩ | ⟨lU,hp,rfl,hM⟩
   .subst lU;simp only[go_sem,ya,yb,xq,yz,yk,yi,Ec,M3,e0,ot,gF,Fa,gV,w4];refine⟨_,d-1,rfl,by omega,1,by omega,.inr ⟨by omega,?_⟩⟩;have e1:F.take 1=[F[0]]:=by
     rw[show (1:Nat)=0+1 from rfl,xK hi];rfl
    rw[e1];refine⟨[(1,.cells ycZ ycZ yda 1 (dO F[0])),(0,.cells ycZ yda yda 1 [.ax 1 0 F[0].length])],by simp only[go_sem,ya,yb,ap,az hv.pu]<;>rfl,⟨rfl,rfl,fun k hk=>?_⟩⟩
    have:k=0:=by simpa using hk
    subst this;rfl
   .have lT:((F.take i).map dO).length=i:=by rw[yU,yT,xF (by omega)]
    have lW:((F.take i).map wb).length=i:=by rw[yU,yT,xF (by omega)]
    have g0:=hM.m;rw[lT] at g0;have gr:=hM.r;rw[lT] at gr;simp only[go_sem,ya,yb,yk,yi,Ec,M3,e0,ot,gF,Fa]
    rw[fP (sz:=1) (ex:=yda) (pu:=yda) (cs:=j9 (jT i) ((F.take i).map wb) 0) (by rw[eW _ _ (by omega),eW _ _ (by omega),DO,yt (by omega)];exact g0) (by simp[j9,jg,AR];omega) (by omega) (by omega) (by decide) (by simp only[go_sem])]
    simp only[go_sem,ya,w4];refine⟨_,d-1,rfl,by omega,i+1,by omega,.inr ⟨by omega,?_⟩⟩;rw[xK hi,xb,xb]
    refine ast (x:=yda) (r:=0) hM lT (a:=1+i+1+1+1) (b:=1+i+1) (by simp only[go_sem,ya,iw hv.pu]<;>rfl) (by omega) (by omega) (by omega) (by rw[ji];simp[j9]) (fun j hj=>?_) ?_ (by omega) (fun S q=>by simp only[go_sem,ya,q,qu _ hv.pu]<;>rfl)
    .rw [eW _ _ (by omega),eW _ _ (by omega),eW _ _ (by omega),DO,yt (by omega),DO,yt (by omega)]
    .rw [eW _ _ (by omega),eW _ _ (by omega),ji]
  .right
   have:i=F.length:=by omega
   subst this;rcases aM with ⟨lU,rfl⟩ | ⟨lU,hp,rfl,hM⟩
   .simp only [go_sem,ya,Ec,show ¬(F.length:Int)<F.length by omega];exact⟨_,_,rfl,by simp,_,_,_,rfl,rfl,.inl ⟨vH.1 lU,by simp only[go_sem,ya],rfl⟩⟩
   .simp only [go_sem,ya,Ec,show ¬(F.length:Int)<F.length by omega];rw[xN] at hM;exact⟨_,_,rfl,by simp,_,_,_,rfl,rfl,.inr ⟨lU,by simp only[go_sem,ya],hM⟩⟩
 unfold ab;rw[aE QZ];simp only[go_sem,ya,Qk,hv.len];generalize hq:D P L (.loop _ Ec) _=q;obtain⟨ex,st,rfl,tm,hp,ct,rfl,rfl,hh⟩:=bH hq (key F.length) ⟨0,by omega,.inl ⟨rfl,by simp only[go_sem,ya,ap,az hv.pu]<;>rfl⟩⟩
 rcases hh with ⟨rfl,t3,rfl⟩ | ⟨h0,t3,hM⟩
 .refine ⟨.ah,?_,abz,rfl⟩;simp only[go_sem,ap,t3]
 .obtain ⟨aZ,e1,IY⟩:=hM.comp (live:=[3]) (tm:=tm) (tm':=[(3,.ax 0 0 F.length)]) (ct:=ct) (by simp only[go_sem,t3]) (by rw[yU];omega) (fun S q=>by simp only[go_sem,t3,q]);obtain⟨ja,ez⟩:=IY.CW (n:=998) (by decide) (fun i h1 h2=>by simp) (by rw[yU];omega);have eT:=adN F;have hm:=IY.m;rw[yU] at hm ez;rw[eT] at ez;have hlen:(FC F).length=F.length:=by simp[FC]
  have CV:result aZ (.ax 0 0 F.length)=FL (.au yda F.length (FC F)):=by
   have e2:qO deep aZ (.ax 0 0 F.length)=freeze deep aZ (.ax 0 0 F.length):=by simp only[qO,hm]
   have e3:freeze (999+1) aZ (.ax 0 0 F.length)=FL (.au yda F.length (FC F),ja):=by
    rw[Ox,Oy,hm,ez];exact kR yda (by rw[hlen,yi]) (by decide)
   simp only[result,e2];show (match freeze (999+1) aZ (.ax 0 0 F.length) with | some (v',_)=>FL v' | none=>none)=_
   rw[e3]
  refine⟨.au yda F.length (FC F),?_,Of yda (adM F),rfl⟩;simp only[go_sem,e1,CV]
def aBg(h:Rl P L)(Xr:Has P L 768 Qv){b:Int}{w:AV}{l:List Rat}{K:Nat}(hw:eJ w (l.map RT))(hl:l.length<=1000000)(hk:∀x,x∈l->Hq K x)(hK:K<=4000000000):ab P L 768 [aa b,w] (aa (if b=0 then (if l.any LG=ycZ then 4 else 0) else b)):=by
 have hlm:(l.map RT).length=l.length:=by simp
 have key:=iA P L [0,7,8,9] Ed
  (fun k st=>∃i:Nat,i+k=l.length/\st=⟨[(0,aa (if b=0 then (if (l.take i).any LG=ycZ then 4 else 0) else b)),(7,w),(8,aa l.length),(9,aa i)],[],0,0⟩)
  (fun ex st=>∃tm hp ct,st=⟨tm,hp,ct,0⟩/\ex=.exit 0/\aj tm 0=aa (if b=0 then (if l.any LG=ycZ then 4 else 0) else b)) ?_
 .unfold ab;rw[aE Xr];simp only[go_sem,ya,Qv,hw.len,hlm];generalize hq:D P L (.loop _ Ed) _=q;obtain⟨ex,st,rfl,tm,hp,ct,rfl,rfl,h2⟩:=bH hq (key l.length) ⟨0,by omega,by
   have:(if b=0 then (if (l.take 0).any LG=ycZ then (4:Int) else 0) else b)=b:=by
    by_cases h0:b=0<;>simp[h0]
   rw[this]
   simp only[go_sem,ya,ap,az hw.pu]<;>rfl⟩
  simp only[go_sem,ap,h2]
 .rintro k st ⟨i,Ag,rfl⟩;by_cases hi:i<l.length
  .left
   have e1:=hw.bq (i:=i) (by omega);rw[wB] at e1;have e2:=aya h (hk _ (xU hi)) hK;have ht:(l.take (i+1)).any LG=((l.take i).any LG||LG l[i]):=by rw[xK hi,List.any_append];simp
   unfold ab at e2;by_cases h0:b=0
   .rw [yD h0]
    cases h1:(l.take i).any LG with
    | true=>
     simp only[go_sem,ya,Ed,show (i:Int)<l.length by omega,e1,xA,show ¬(4:Int)=0 by decide,yH];refine⟨_,k-1,rfl,by omega,i+1,by omega,?_⟩;rw[ht,h1,wrap64 (by omega) (by omega),yD h0];simp only[go_sem,ya,ap,az hw.pu,vN,xA]<;>rfl
    | false=>
     simp only[go_sem,ya,Ed,show (i:Int)<l.length by omega,e1,e2,xm,yC];refine⟨_,k-1,rfl,by omega,i+1,by omega,?_⟩;rw[ht,h1,wrap64 (by omega) (by omega),yD h0,vh];simp only[go_sem,ya,ap,az hw.pu]<;>rfl
   .rw [yt h0];simp only[go_sem,ya,Ed,show (i:Int)<l.length by omega,e1,h0,yH];refine⟨_,k-1,rfl,by omega,i+1,by omega,?_⟩;rw[wrap64 (by omega) (by omega)];simp only[go_sem,ya,ap,az hw.pu,xm]<;>rfl
  .right
   simp only[go_sem,ya,Ed,show ¬(i:Int)<l.length by omega];refine⟨_,_,rfl,by simp,_,_,_,rfl,rfl,?_⟩;rw[yK (by omega)];simp only[go_sem,ya]
def anz(tm:Env)(rs:List (Nat×Bool×Nat)):zN tm .ah rs=ycZ:=rfl
def Q0(id:Nat):AV->Bool
 | .ptr j _=> !yq j id
 | .bN _=>ycZ
 | _=>yda
def acH(tm:Env)(id o n:Nat)(rs:List (Nat×Bool×Nat)):zN tm (.ax id o n) rs=jG tm id rs:=rfl
def acI(tm:Env)(id:Nat):jG tm id []=ycZ:=rfl
def abB(tm:Env)(id s x:Nat)(g:Bool)(r:List (Nat×Bool×Nat)):jG tm id ((s,g,x)::r)=(Q0 id (aj tm x)&&jG tm id r):=by
 simp only[jG,Q0];cases aj tm x<;>rfl
def aez{id j o:Nat}(h:j≠id):Q0 id (.ptr j o)=ycZ:=by simp only[Q0,gW h,yY]
def LZ(n sz:Nat)(q:Option (List AV)):Option AV:=match q with | some cs=>bif yq cs.length (n*sz)&&(yO 0 sz&&aG cs) then FL (.au ycZ n cs) else none | none=>none
def O9(tm:Env)(hp:Hp)(n sz:Nat)(z:List AV)(ps:List (Nat×Nat×X)):bg tm hp (.mT n sz z ps)=LZ n sz (fill tm z ps):=rfl
def Pa{v:AV}(h:aX v=ycZ):LZ 1 1 (FL [v])=FL (.au ycZ 1 [v]):=by
 have e:yO 0 1=ycZ:=rfl;simp[LZ,aG,h,e]
def aeA(tm:Env)(hp an:Hp)(rs:List (Nat×Bool×Nat))(v:AV)(c:Nat):QR tm hp .ah rs (FL (v,an,c))=FL (v,an,c):=TS (anz _ _)
def PF(hp:Hp)(e:Bool)(c:AV):lX hp 1 (.au e 1 [c])=FL (1,[c]):=rfl
def U2:Hq 40 (0:Rat):=Hu (z:=0) (by decide)
def FD(C R S:Int):Bool:=decide (C<=3\/8<C)&&(decide (R<=3\/8<R)&&decide (S<=4\/8<S))
def EB(F:List (List Nat)):Bool:=F.all fun r=>decide (r.length<=14)
def BU(F:List (List Nat)):Bool:=decide (F.length<=14)&&EB F
def aeB{F:List (List Nat)}(h:BU F=ycZ):F.length<=14/\∀r,r∈F->r.length<=14:=by
 unfold BU EB at h;rw[yf] at h;exact⟨of_decide_eq_true h.1,fun r hr=>of_decide_eq_true (List.all_eq_true.1 h.2 r hr)⟩
structure IZ(P:aF)(L:Lib):Prop where
 aBh:L.pure 427=FL z6
 Xs:Has P L 642 Ql
 aBi:Has P L 644 Qn
 Xt:Has P L 647 Lk
 aBj:Has P L 648 Wh
 L2:Has P L 678 Ll
 aBk:Has P L 680 Qr
def Xu(h:Has P L 636 Lj){v:AV}{F:List (List Nat)}(hv:cF eY v F):ab P L 636 [v] (.bool (BU F)):=by
 unfold ab;rw[aE h];unfold BU;by_cases h9:F.length<=14
 .have key:=iA P L [0,3] Gu
   (fun k st=>∃i:Nat,i+k=F.length/\EB (F.drop i)=EB F/\st=⟨[(0,v),(3,aa i)],[],0,0⟩)
   (fun ex st=>∃tm hp ct,st=⟨tm,hp,ct,0⟩/\((ex=.ret/\aj tm 2=.bool yda/\EB F=yda)\/(ex=.exit 0/\EB F=ycZ))) (by
   rintro k st ⟨i,hk,hf,rfl⟩;by_cases hi:i<F.length
   .obtain ⟨w,rest,hw,e1⟩:=hv.bq hi;have hw:cz w (dO F[i]):=hw;have hlen:(dO F[i]).length=F[i].length:=by simp
    unfold EB at hf;rw[apN hi] at hf;by_cases h1:F[i].length<=14
    .left
     rw[y8 h1,wS] at hf;simp only[go_sem,ya,Gu,hv.len,show (i:Int)<F.length by omega,e1,hw.len,hlen,show ¬(14:Int)<F[i].length by omega,yH];refine⟨_,k-1,rfl,by omega,i+1,by omega,hf,?_⟩;rw[wrap64 (by omega) (by omega)];simp only[go_sem,ya,ap,az hv.pu]<;>rfl
    .right
     rw[yQ h1,wU] at hf;simp only[go_sem,ya,Gu,hv.len,show (i:Int)<F.length by omega,e1,hw.len,hlen,show (14:Int)<F[i].length by omega];exact⟨_,_,rfl,by simp,_,_,_,rfl,.inl ⟨rfl,by simp only[go_sem],hf.symm⟩⟩
   .right
    simp only[go_sem,ya,Gu,hv.len,show ¬(i:Int)<F.length by omega];refine⟨_,_,rfl,by simp,_,_,_,rfl,.inr ⟨rfl,?_⟩⟩
    rw[<-hf,xa (by omega)];rfl)
  rw[y8 h9,wS];simp only[go_sem,ya,Lj,hv.len,show ¬(14:Int)<F.length by omega,yH];generalize hq:D P L (.loop _ Gu) _=q;obtain⟨ex,st,rfl,tm,hp,ct,rfl,h3⟩:=bH hq (key F.length) ⟨0,by omega,rfl,by simp only[go_sem,ya,ap,az hv.pu]<;>rfl⟩
  rcases h3 with ⟨rfl,h3,h4⟩ | ⟨rfl,h4⟩
  .rw [h4];simp only[go_sem,h3]
  .rw [h4];simp only[go_sem,ap]
 .rw [yQ h9,wU];simp only[go_sem,ya,Lj,hv.len,show (14:Int)<F.length by omega]
def Xv(h:Has P L 634 Qj)(C R S:Int):ab P L 634 [.agg [aa C,aa R,aa S]] (.bool (FD C R S)):=by
 unfold ab;rw[aE h];unfold FD;by_cases c1:C<=3<;>by_cases c2:8<C<;>by_cases r1:R<=3<;>by_cases r2:8<R<;>by_cases s1:S<=4<;>by_cases s2:8<S<;>simp only[go_sem,ya,Qj,ib,aT,yd,ye,yp,c1,c2,r1,r2,s1,s2,yM,yH,wS,wU,or_true,true_or,or_self]
def Xw(h:Has P L 678 Ll)(n lo hi:Int):ab P L 678 [aa n,aa lo,aa hi] (aa (ff n lo hi)):=by
 unfold ab;rw[aE h];unfold ff;by_cases c1:n<lo<;>by_cases c2:hi<n<;>simp only[go_sem,ya,Ll,c1,c2,yM,yH,or_self,or_true,true_or,xA,xm]
def ayo(Xs:Has P L 642 Ql)(Xt:Has P L 647 Lk)(L2:Has P L 678 Ll)(C R S:Int):ab P L 642 [.agg [aa C,aa R,aa S]] (aa (rA C R S)):=by
 have e1:=Xw L2 C 1 8;have e2:=Xw L2 R 1 8;have e3:=Xw L2 S 2 8;have e4:=aAK Xt (kz ycZ [ff C 1 8,ff R 1 8,ff S 2 8]) (by simp);simp only[yy,yJ,yd,yb,y7,wE] at e4;unfold ab at e1 e2 e3 e4 ⊢;rw[aE Xs];unfold rA;simp only[go_sem,ya,yb,yz,yk,yi,Ql,ib,aT,yd,ye,yp,e1,e2,e3,e4]
def aBl(h:IZ P L)(C R S:Int):ab P L 642 [.agg [aa C,aa R,aa S]] (aa (rA C R S)):=ayo h.Xs h.Xt h.L2 C R S
section
variable {v:AV}{F:List (List Nat)}
def aBm(h:L.pure 427=FL z6)(b:Nat):ab P L 427 [.av .f32 b] (.bool (gA b)):=by
 unfold ab;simp only[bL,h,z6]
def awp(h:IZ P L){w:AV}{r:List Nat}{m i:Nat}(hv:cF eY v F)(hi:i<F.length)(hr:F[i]=r)(hl:r.length<=1000000):
  cZ P L [0,2,7,8] Gv (fun d st=>∃k,k+d=r.length/\rz (r.drop k)=rz r/\st=⟨[(0,v),(2,aa m),(7,aa i),(8,aa k)],[],0,0⟩) (fun ex s'=>∃tm ct,s'=⟨tm,[],ct,0⟩/\((ex=.ret/\aj tm 6=aa 1/\rz r=ycZ)\/(ex=.exit 2/\rz r=yda/\bm tm [0,2,7]=[(0,v),(2,aa m),(7,aa i)]))):=by
 apply c6;rintro d st ⟨k,hk,hf,rfl⟩;obtain⟨x,rest,hx,e0⟩:=hv.bq hi;rw[hr] at hx;have hx:cz x (dO r):=hx;have hlen:(dO r).length=r.length:=by simp
 by_cases HB:k<r.length
 .have e1:=hx.bq (i:=k) (by simpa using HB);rw[Og HB] at e1;have e2:=aBm (P:=P) h.aBh r[k];unfold rz at hf;rw[TK HB] at hf;unfold ab at e2
  cases hz:gA r[k] with
  | true=>
   left
   rw[hz] at e2 hf;simp only[go_sem,ya,Gv,e0,hx.len,hlen,show (k:Int)<r.length by omega,e1,nm,e2,yX];refine⟨_,d-1,rfl,by omega,k+1,by omega,hf,?_⟩;rw[wrap64 (by omega) (by omega)];simp only[go_sem,ya,ap,az hv.pu]<;>rfl
  | false=>
   right
   rw[hz] at e2 hf;simp only[go_sem,ya,Gv,e0,hx.len,hlen,show (k:Int)<r.length by omega,e1,nm,e2,yY];exact⟨_,_,rfl,by simp,_,_,rfl,.inl ⟨rfl,by simp only[go_sem],hf.symm⟩⟩
 .right
  simp only[go_sem,ya,Gv,e0,hx.len,hlen,show ¬(k:Int)<r.length by omega];refine⟨_,_,rfl,by simp,_,_,rfl,.inr ⟨rfl,?_,by simp only[go_sem,ya]⟩⟩;rw[<-hf,xa (by omega)];rfl
def aBn(h:IZ P L){n m:Nat}(hv:cF eY v F)(hl:F.length<=1000000)(hr:∀r,r∈F->r.length<=1000000):ab P L 680 [v,aa n,aa m] (aa (C6 n m F)):=by
 unfold ab;rw[aE h.aBk];unfold C6;by_cases hn:F.length=n
 .rw [yD hn];have key:=iA P L [0,2,7] Gw
   (fun d st=>∃i:Nat,i+d=F.length/\bS ((F.drop i).map (nf m))=bS (F.map (nf m))/\st=⟨[(0,v),(2,aa m),(7,aa i)],[],0,0⟩)
   (fun ex st=>∃tm ct,st=⟨tm,[],ct,0⟩/\((ex=.ret/\aj tm 6=aa (bS (F.map (nf m))))\/(ex=.exit 0/\bS (F.map (nf m))=0))) (by
   rintro d st ⟨i,hd,hf,rfl⟩;by_cases hi:i<F.length
   .obtain ⟨x,rest,hx,e0⟩:=hv.bq hi;have Ys:=hr _ (xU hi);have Xg:=awp h (v:=v) (w:=v) (m:=m) hv hi rfl Ys;have hx:cz x (dO F[i]):=hx;have hlen:(dO F[i]).length=F[i].length:=by simp
    rw[akr hi] at hf;by_cases h1:F[i].length=m
    .have E5:(F[i].length:Int)=m:=by omega
     simp only[go_sem,ya,Gw,hv.len,show (i:Int)<F.length by omega,e0,hx.len,hlen,E5,yM,yX];generalize hq:D P L (.loop _ Gv) _=q;obtain⟨ex,st,rfl,tm,ct,rfl,hh⟩:=bH hq (Xg F[i].length) ⟨0,by omega,rfl,by simp only[go_sem,ya,ap,az hv.pu]<;>rfl⟩
     rcases hh with ⟨rfl,g1,g2⟩ | ⟨rfl,g1,g2⟩
     .right
      have hE:nf m F[i]=1:=by unfold nf;rw[yD h1,g2];rfl
      rw[hE,yt (by decide)] at hf;simp only[go_sem];exact⟨_,_,rfl,by simp,_,_,rfl,.inl ⟨rfl,by rw[g1,hf]⟩⟩
     .left
      have hE:nf m F[i]=0:=by unfold nf;rw[yD h1,g1];rfl
      rw[hE,yD rfl] at hf;have cO:∀ct,bk [0,2,7] ⟨tm,[],ct,0⟩=⟨[(0,v),(2,aa m),(7,aa i)],[],0,0⟩:=fun ct=>by
       rw[Nj (by rw[g2];simp only[go_sem,hv.pu]),g2]
      simp only[go_sem,ya,cO];refine⟨_,d-1,rfl,by omega,i+1,by omega,hf,?_⟩;rw[wrap64 (by omega) (by omega)];simp only[go_sem,ya,ap,az hv.pu]<;>rfl
    .right
     have hE:nf m F[i]=2:=by unfold nf;rw[yt h1];rfl
     rw[hE,yt (by decide)] at hf;have E5:¬(F[i].length:Int)=m:=by omega
     simp only[go_sem,ya,Gw,hv.len,show (i:Int)<F.length by omega,e0,hx.len,hlen,E5,yH,yY];exact⟨_,_,rfl,by simp,_,_,rfl,.inl ⟨rfl,by rw[<-hf];simp only[go_sem]⟩⟩
   .right
    simp only[go_sem,ya,Gw,hv.len,show ¬(i:Int)<F.length by omega];refine⟨_,_,rfl,by simp,_,_,rfl,.inr ⟨rfl,?_⟩⟩
    rw[<-hf,xa (by omega)];rfl)
  have jB:(F.length:Int)=n:=by omega
  simp only[go_sem,ya,Qr,hv.len,jB,yM,yX];generalize hq:D P L (.loop _ Gw) _=q;obtain⟨ex,st,rfl,tm,ct,rfl,hh⟩:=bH hq (key F.length) ⟨0,by omega,rfl,by simp only[go_sem,ya,ap,az hv.pu]<;>rfl⟩
  rcases hh with ⟨rfl,h2⟩ | ⟨rfl,h2⟩
  .simp only [go_sem,h2]
  .rw [h2];simp only[go_sem,ap]
 .rw [yt hn];have jB:¬(F.length:Int)=n:=by omega
  simp only[go_sem,ya,Qr,hv.len,jB,yH,yY]
def aBo(h:IZ P L){C R S:Nat}(hC:C<=8)(hR:R<=8)(hS:S<=8)(hv:cF eY v F)(hl:F.length<=1000000)(hr:∀r,r∈F->r.length<=1000000):ab P L 648 [.agg [aa C,aa R,aa S],v] (aa (C6 (R*S) (C*S) F)):=by
 have e1:=aBn h (n:=R*S) (m:=C*S) hv hl hr;have b1:R*S<=64:=xf hR hS;have b2:C*S<=64:=xf hC hS;have m1:(R:Int)*(S:Int)=((R*S:Nat):Int):=by rw[xM]
 have m2:(C:Int)*(S:Int)=((C*S:Nat):Int):=by rw[xM]
 unfold ab at e1 ⊢;rw[aE h.aBj]
 simp only[go_sem,ya,Wh,ib,aT,yd,ye,yp,hv.ai,m1,m2,wrap64 (n:=((R*S:Nat):Int)) (by omega) (by omega),wrap64 (n:=((C*S:Nat):Int)) (by omega) (by omega),e1]
def ahP(h:IZ P L){C R S:Int}(hv:cF eY v F)(hl:F.length<=1000000)(hr:∀r,r∈F->r.length<=1000000):ab P L 644 [.agg [aa C,aa R,aa S],v] (aa (kL C R S F)):=by
 have e1:=aBl h C R S;have fz:=z7;unfold ab;rw[aE h.aBi];unfold kL;by_cases h0:rA C R S=0
 .rw [yD h0];obtain⟨⟨a1,a2⟩,⟨b1,b2⟩,c1,c2⟩:=Uw h0;have e2:=aBo h (C:=C.toNat) (R:=R.toNat) (S:=S.toNat) (by omega) (by omega) (by omega) hv hl hr;rw[vj (by omega),vj (by omega),vj (by omega)] at e2;rw[h0] at e1;unfold ab at e1 e2;simp only[go_sem,ya,yb,Qn,ib,ye,fj,fz,e1,hv.ai,e2]
 .rw [yt h0];unfold ab at e1;simp only[go_sem,ya,yb,Qn,ib,ye,fj,fz,e1,h0]
end
section
variable {W ids:List Nat}
def kD(k n:Nat):List Nat:=wo (k+1) n
def mD(k n:Nat):(kD k n).length=n:=by simp[kD]
def F3{k n i:Nat}(h:i<(kD k n).length):(kD k n)[i]=k+1+i:=by simp[kD]
structure rU(hp:Hp)(k:Nat)(W:List Nat)(T:List (List AV)):Prop where
 l:W.length=T.length
 m:ak hp k=FL (.cells ycZ yda yda 1 (jg (kD k T.length) W))
 r:∀i,i<T.length->ak hp (k+1+i)=FL (.cells ycZ ycZ yda 1 (gT T i))
def VN(ids W:List Nat):j9 ids W 0=jg ids W:=by unfold j9;simp
def anA(h:ids.length=W.length):gh (jg ids W)=ids:=by rw[<-VN];exact Tf 0 h
def apQ{f:Nat->Option Nat}(k:Nat)(h:ids.length=W.length)(hf:∀i (h:i<ids.length),f ids[i]=FL (k+i)):dI f (jg ids W)=jg (wo k ids.length) W:=by
 rw[<-VN,TW 0 k h hf,VN]
def rU.ai{hp:Hp}{k:Nat}{T:List (List AV)}(h:rU hp k W T)(hw:∀i (h1:i<T.length) (h2:i<W.length),T[i].length=W[i])(hM:T.length<=900){n:Nat}(hn:910<=n):
  ∃an,freeze (n+3) hp (.ax k 0 T.length)=FL (.au yda T.length (vL (fun w r=>.au yda w r) W T),an)/\(∀j,j≠k->(∀i,i<T.length->j≠k+1+i)->ak an j=ak hp j):=by
 obtain⟨aZ,e1,g1⟩:=Tg (sz:=1) (y:=yda) (by decide) (kD k T.length) W T hp (n+1) (by rw[mD];omega) (mD _ _) h.l (fun i h1 h2 h3=>by
  refine⟨by rw[yi];exact hw i h2 h3,ycZ,?_⟩
  rw[F3]
  have:=h.r i h2
  rwa[CP h2] at this)
 refine⟨aW aZ k (.cells yda yda yda 1 (jg (kD k T.length) W)),?_,fun j hj Mr=>?_⟩
 .rw [Ox,Oy,h.m,aex e1];exact kR yda (by rw[List.length_zipWith,h.l,Nat.min_self,yi]) (by decide)
 .rw [SL,yt hj];refine g1 j (fun hm=>?_);obtain⟨i,hi,e⟩:=uC.1 hm;rw[F3] at e;rw[mD] at hi;exact Mr i hi e.symm
end
section
variable {tm:Env}{H J:Hp}{live pre:List Nat}{B ct:Nat}
def FX{i:Nat}{o:Obj}:ak J i=FL o->ak (J++H) i=FL o:=by
 induction J with
 | nil=>intro h;cases h
 | cons p r ih=>
  obtain⟨j,u⟩:=p;intro h;by_cases e:j=i
  .subst e;rw[ym,ji];rw[ji] at h;exact h
  .rw [ym,eW _ _ e];rw[eW _ _ e] at h;exact ih h
def Th(hp:Hp)(f:Nat->Option Nat)(B:Nat)(H:Hp):∀(seen:List Nat) (k:Nat) (J:Hp),B<=k->(∀p,p∈J->B<=p.1)->∃J',eE hp f seen k (J++H)=J'++H/\∀p,p∈J'->B<=p.1
 | [],k,J,_,hJ=>⟨J,rfl,hJ⟩
 | id::r,k,J,hk,hJ=>by
  rw[eE]
  cases ak hp id with
  | none=>exact Th hp f B H r (k+1) J (by omega) hJ
  | some o=>
   simp only;rw[<-ym]
   exact Th hp f B H r (k+1) ((k,gI f o)::J) (by omega) (fun p an=>by
    rcases xu.1 an with rfl | h
    .exact hk
    .exact hJ p h)
def anB(hp:Hp)(f:Nat->Option Nat)(H:Hp):∀(seen:List Nat) (k j:Nat) (h:j<seen.length) (o:Obj),ak hp seen[j]=FL o->ak (eE hp f seen k H) (k+j)=FL (gI f o):=fun seen k j h o ho=>SM hp f seen k H j h o ho
def OM(B:Nat)(hp:Hp):∀(ids seen cB:List Nat) (n:Nat),ids.length<n->(∀i,i∈ids->B<=i/\∃o,ak hp i=FL o/\jI o=[])->ids.Nodup->(∀i,i∈ids->i∉seen)->ll B hp n (ids++cB) seen=ll B hp (n-ids.length) cB (seen++ids)
 | [],seen,cB,n,_,_,_,_=>by simp
 | i::ids,seen,cB,0,h,_,_,_=>by simp at h
 | i::ids,seen,cB,n+1,h,h1,h2,h3=>by
  obtain⟨hb,o,g,e⟩:=h1 i wA;have hn:=wj.1 h2
  rw[ym,VJ _ _ _ _ hb,TU (h3 i wA),UZ,g,U1,e,yG,OM B hp ids (seen++[i]) cB n (by simpa using h) (fun j hj=>h1 j (xR _ hj)) hn.2 (fun j hj hm=>by
   rcases xJ.1 hm with hm | hm
   .exact h3 j (xR _ hj) hm
   .simp only [xz] at hm
    subst hm;exact hn.1 hj)]
  simp only[yy,xy,ym,yG];rw[show n+1-(ids.length+1)=n-ids.length by omega]
def TZ(B:Nat)(hp:Hp):∀(l:List Nat) (n:Nat) (seen:List Nat),l.length<n->(∀i,i∈l->i<B)->ll B hp n l seen=seen
 | [],n,seen,h,_=>by
  obtain⟨m,rfl⟩:∃m,n=m+1:=⟨n-1,by simp at h;omega⟩;rfl
 | i::l,n,seen,h,h1=>by
  obtain⟨m,rfl⟩:∃m,n=m+1:=⟨n-1,by simp at h;omega⟩;rw[af6 _ _ _ _ (h1 i (by simp))];exact TZ B hp l m seen (by simpa using h) (fun j hj=>h1 j (by simp[hj]))
def aaF{seen:List Nat}(hJ:∀p,p∈J->B<=p.1)(ho:iB B B H)(hr:ll B (J++H) 100000 (dR (bm tm live)++cQ B H) []=seen):
  ∃J',bk live ⟨tm,J++H,ct,B⟩=⟨dS (bw B seen) (bm tm live),J'++H,B+seen.length,B⟩/\(∀p,p∈J'->B<=p.1)/\∀j (h:j<seen.length) o,ak J seen[j]=FL o->ak (J'++H) (B+j)=FL (gI (bw B seen) o):=by
 have e1:fQ B (bw B seen) (J++H)=H:=by
  rw[aby hJ,Sv (fun x hx=>PE _ hx) ho]
 obtain⟨J',h1,h2⟩:=Th (J++H) (bw B seen) B H seen B [] (yu B) (fun p h=>by cases h);rw[yG] at h1;have e2:reach (J++H) B 100000 (dR (bm tm live)++cQ B (J++H)) []=seen:=by rw[Z0 hJ];exact hr
 refine⟨J',?_,h2,fun j h o hg=>?_⟩
 .have e3:iD B seen=bw B seen:=rfl;simp only[bk,e2,e3,e1,h1]
 .rw [<-h1];exact anB (J++H) (bw B seen) H seen B j h o (FX hg)
def adO{tm':Env}(hJ:∀p,p∈J->B<=p.1)(ho:iB B B H)(h0:(cQ B H).length<=50000)(hE:dR (bm tm live)=pre)(hp0:∀i,i∈pre->B<=i/\∃rw ex z cs,ak J i=FL (.cells rw ycZ ex z cs))(hM:pre.length<=1000)(hn:pre.Nodup)(hT:∀S,(∀j,j<B->bw B S j=FL j)->(∀i (h:i<pre.length),bw B S pre[i]=FL (B+i))->dS (bw B S) (bm tm live)=tm'):
  ∃J',bk live ⟨tm,J++H,ct,B⟩=⟨tm',J'++H,B+pre.length,B⟩/\(∀p,p∈J'->B<=p.1)/\∀i (h:i<pre.length) rw ex z cs,ak J pre[i]=FL (.cells rw ycZ ex z cs)->ak (J'++H) (B+i)=FL (.cells rw ycZ ex z cs):=by
 have hR:ll B (J++H) 100000 (dR (bm tm live)++cQ B H) []=pre:=by
  rw[hE,OM B (J++H) pre [] _ 100000 (by omega) (fun i hi=>by obtain⟨hb,_,_,_,_,h⟩:=hp0 i hi;exact⟨hb,_,FX h,rfl⟩) hn (by simp),yG]
  exact TZ B _ _ _ _ (by omega) (NG (yu B) ho)
 obtain⟨J',e,g1,g2⟩:=aaF (ct:=ct) hJ ho hR;refine⟨J',?_,g1,fun i h da ex z cs hg=>?_⟩
 .rw [e,hT pre (fun j hj=>PE _ hj) (fun i h=>by
   rw[VK _ (hp0 _ (xU h)).1,Gc pre B i h hn])]
 .rw [g2 i h _ hg,Ku]
def ON{tm':Env}{a k:Nat}{ids post W:List Nat}{T:List (List AV)}(hJ:∀p,p∈J->B<=p.1)(ho:iB B B H)(h0:(cQ B H).length<=50000)(hE:dR (bm tm live)=pre++a::post)(hk:pre.length=k)(hp0:∀i,i∈pre++post->B<=i/\∃rw ex z cs,ak J i=FL (.cells rw ycZ ex z cs))(hBa:B<=a)(hm:ak J a=FL (.cells ycZ yda yda 1 (jg ids W)))(hl:ids.length=T.length)(hW:W.length=T.length)(hr:∀i (h:i<ids.length),B<=ids[i]/\ak J ids[i]=FL (.cells ycZ ycZ yda 1 (gT T i)))(hM:k+T.length+post.length<=1000)(hn:(pre++a::(ids++post)).Nodup)(hT:∀S,(∀j,j<B->bw B S j=FL j)->(∀i (h:i<pre.length),bw B S pre[i]=FL (B+i))->bw B S a=FL (B+k)->(∀i (h:i<post.length),bw B S post[i]=FL (B+k+1+T.length+i))->dS (bw B S) (bm tm live)=tm'):
  ∃J',bk live ⟨tm,J++H,ct,B⟩=⟨tm',J'++H,B+(k+1+T.length+post.length),B⟩/\(∀p,p∈J'->B<=p.1)/\rU (J'++H) (B+k) W T/\(∀i (h:i<pre.length) rw ex z cs,ak J pre[i]=FL (.cells rw ycZ ex z cs)->ak (J'++H) (B+i)=FL (.cells rw ycZ ex z cs))/\
   ∀i (h:i<post.length) rw ex z cs,ak J post[i]=FL (.cells rw ycZ ex z cs)->ak (J'++H) (B+k+1+T.length+i)=FL (.cells rw ycZ ex z cs):=by
 obtain⟨n1,n2,n3⟩:=tc.1 hn;obtain⟨n4,n5⟩:=wj.1 n2;have hR:ll B (J++H) 100000 (dR (bm tm live)++cQ B H) []=pre++a::(ids++post):=by
  rw[hE,xy,OM B (J++H) pre [] _ 100000 (by omega) (fun i hi=>by obtain⟨hb,_,_,_,_,h⟩:=hp0 i (by simp[hi]);exact⟨hb,_,FX h,rfl⟩) n1 (by simp),yG]
  obtain⟨m,iK⟩:∃m,100000-pre.length=m+1:=⟨100000-pre.length-1,by omega⟩;have eh:∀i,i∈ids++post->i∉pre++[a]:=fun i hi ju=>by
   rcases xJ.1 ju with h | h
   .exact n3 i h i (xR _ hi) rfl
   .rw [xz.1 h] at hi;exact n4 hi
  rw[iK,ym,VJ _ _ _ _ hBa,TU (fun h=>n3 a h a wA rfl),UZ,FX hm,U1,Ul,anA (by omega),<-xy,OM B (J++H) (ids++post) (pre++[a]) _ m (by rw[yN];omega) (fun i hi=>by
   rcases xJ.1 hi with h | h
   .obtain ⟨j,hj,rfl⟩:=uC.1 h;exact⟨(hr j hj).1,_,FX (hr j hj).2,rfl⟩
   .obtain ⟨hb,_,_,_,_,h⟩:=hp0 i (by simp[h])
    exact⟨hb,_,FX h,rfl⟩) n5 eh,TZ B _ _ _ _ (by rw[yN];omega) (NG (yu B) ho)]
  simp
 obtain⟨J',e,g1,g2⟩:=aaF (ct:=ct) hJ ho hR;have ls:(pre++a::(ids++post)).length=k+1+T.length+post.length:=by simp;omega
 have pp:∀j (h:j<(pre++a::(ids++post)).length),B<=(pre++a::(ids++post))[j]->bw B (pre++a::(ids++post)) (pre++a::(ids++post))[j]=FL (B+j):=fun j h hb=>by
  rw[VK _ hb,Gc _ B j h hn]
 have sP:∀i (h:i<pre.length),(pre++a::(ids++post))[i]'(by simp;omega)=pre[i]:=fun i h=>wH h
 have sA:(pre++a::(ids++post))[k]'(by simp;omega)=a:=by
  rw[wg (by omega)];simp[hk]
 have sI:∀i (h:i<ids.length),(pre++a::(ids++post))[k+1+i]'(by simp;omega)=ids[i]:=fun i h=>by
  rw[wg (by omega)];simp only[hk,show k+1+i-k=i+1 by omega,wV];exact wH h
 have sQ:∀i (h:i<post.length),(pre++a::(ids++post))[k+1+T.length+i]'(by simp;omega)=post[i]:=fun i h=>by
  rw[wg (by omega)];simp only[hk,show k+1+T.length+i-k=(T.length+i)+1 by omega,wV];rw[wg (by omega)];simp[hl]
 have qI:∀i (h:i<ids.length),bw B (pre++a::(ids++post)) ids[i]=FL (B+k+1+i):=fun i h=>by
  have:=pp (k+1+i) (by simp;omega)
  rw[sI i h] at this;rw[this (hr i h).1];congr 1;omega
 refine⟨J',?_,g1,⟨hW,?_,fun i hi=>?_⟩,fun i hi da ex z cs hg=>?_,fun i hi da ex z cs hg=>?_⟩
 .rw [e,ls,hT _ (fun j hj=>PE _ hj) (fun i h=>by
   have:=pp i (by simp;omega)
   rw[sP i h] at this;exact this (hp0 _ (by simp)).1) (by
   have:=pp k (by simp;omega)
   rw[sA] at this;exact this hBa) (fun i h=>by
   have:=pp (k+1+T.length+i) (by simp;omega)
   rw[sQ i h] at this
   rw[this (hp0 _ (by simp)).1];congr 1;omega)]
 .have:=g2 k (by simp;omega) _ (by rw[sA];exact hm)
  rw[this,ad7,apQ (B+k+1) (by omega) (fun i h=>qI i h),hl];rfl
 .have:=g2 (k+1+i) (by simp;omega) _ (by rw[sI i (by omega)];exact (hr i (by omega)).2)
  rw[show B+k+1+i=B+(k+1+i) by omega,this,Ku]
 .have:=g2 i (by simp;omega) _ (by rw[sP i hi];exact hg)
  rw[this,Ku]
 .have:=g2 (k+1+T.length+i) (by simp;omega) _ (by rw[sQ i hi];exact hg)
  rw[show B+k+1+T.length+i=B+(k+1+T.length+i) by omega,this,Ku]
end
section
variable {H J:Hp}{j:Nat}
def anC{b n:Nat}(h:iB b n H)(hj:b<=j):ak H j=none:=by
 induction H with
 | nil=>rfl
 | cons p r ih=>
  obtain⟨i,o⟩:=p
  have:=h.1
  rw[eW _ _ (by omega)];exact ih h.2.2
def nY{B:Nat}(h:iB B B H)(hj:B<=j):ak (J++H) j=ak J j:=by
 induction J with
 | nil=>rw[yG,anC h hj];rfl
 | cons p r ih=>
  obtain⟨i,o⟩:=p;by_cases e:i=j
  .subst e;rw[ym,ji,ji]
  .rw [ym,eW _ _ e,eW _ _ e,ih]
def apR{b n:Nat}(h:iB b n H)(hj:b<=j):cT H j=H:=by
 induction H with
 | nil=>rfl
 | cons p r ih=>
  obtain⟨i,o⟩:=p
  have:=h.1
  rw[Cb _ _ (by omega),ih h.2.2]
def Jy{B:Nat}(h:iB B B H)(hj:B<=j):cT (J++H) j=cT J j++H:=by
 induction J with
 | nil=>rw[yG,apR h hj];rfl
 | cons p r ih=>
  obtain⟨i,o⟩:=p;by_cases e:i=j
  .subst e;rw[ym,Jt,Jt,ih]
  .rw [ym,Cb _ _ e,Cb _ _ e,ih];rfl
def acJ{p:Nat×Obj}(h:p∈cT J j):p∈J:=by
 induction J with
 | nil=>exact h
 | cons q r ih=>
  obtain⟨i,o⟩:=q;by_cases e:i=j
  .subst e;rw[Jt] at h;exact xR _ (ih h)
  .rw [Cb _ _ e] at h;rcases xu.1 h with rfl | h
   .simp
   .exact xR _ (ih h)
end
def zr(r:Nat):Nat:=if r=0 then 0 else 1+r
def rB(B r:Nat):List Nat:=if r=0 then [] else [B+1]
def aBp:zr 0=0:=rfl
def Q1(r:Nat):zr (r+1)=r+2:=by unfold zr;rw[yt (by omega)];omega
def Xx(B:Nat):rB B 0=[]:=rfl
def Xy(B r:Nat):rB B (r+1)=[B+1]:=by unfold rB;rw[yt (by omega)]
section
variable {live:List Nat}{tm tm':Env}{J H:Hp}{ct B r x:Nat}{W:List Nat}{T:List (List AV)}{cs:List AV}
def apS(hJ:∀p,p∈J->B<=p.1)(ho:iB B B H)(h0:(cQ B H).length<=50000)(hb:∃rw ex z lM,ak J B=FL (.cells rw ycZ ex z lM))(hM:0<r->rU (J++H) (B+1) W T)(hl:T.length=r)(hr:r<=900)(hx:ak J x=FL (.cells ycZ ycZ yda 1 cs))(I0:B+1+zr r<=x)(hE:dR (bm tm live)=B::(rB B r++[x]))(hT:∀S,bw B S B=FL B->(0<r->bw B S (B+1)=FL (B+1))->bw B S x=FL (B+1+zr r)->dS (bw B S) (bm tm live)=tm'):
  ∃J',bk live ⟨tm,J++H,ct,B⟩=⟨tm',J'++H,B+1+zr r+1,B⟩/\(∀p,p∈J'->B<=p.1)/\(∀rw ex z lM,ak J B=FL (.cells rw ycZ ex z lM)->ak (J'++H) B=FL (.cells rw ycZ ex z lM))/\(0<r->rU (J'++H) (B+1) W T)/\ak (J'++H) (B+1+zr r)=FL (.cells ycZ ycZ yda 1 cs):=by
 cases r with
 | zero=>
  rw[Xx,yG] at hE;rw[aBp] at I0;obtain⟨J',e,g1,g2⟩:=adO (pre:=[B,x]) (tm':=tm') (ct:=ct) hJ ho h0 hE (fun i hi=>by
   rcases xu.1 hi with rfl | hi
   .exact ⟨yu _,hb⟩
   .rw [xz.1 hi];exact⟨by omega,_,_,_,_,hx⟩) (by simp) (by simp;omega) (fun S _ h=>hT S (h 0 (by simp)) (fun q=>by omega) (h 1 (by simp)))
  exact⟨J',by rw[e];rfl,g1,fun da ex z lM h=>g2 0 (by simp) _ _ _ _ h,fun q=>by omega,g2 1 (by simp) _ _ _ _ hx⟩
 | succ r=>
  rw[Xy,uo] at hE;rw[Q1] at I0 ⊢;have hM:=hM (by omega);have HN:T.length=r+1:=hl;obtain⟨J',e,g1,g2,g3,g4⟩:=ON (k:=1) (pre:=[B]) (post:=[x]) (a:=B+1) (ids:=kD (B+1) (r+1)) (W:=W) (T:=T) (tm':=tm') (ct:=ct) hJ ho h0 hE rfl (fun i hi=>by
   rcases xu.1 hi with rfl | hi
   .exact ⟨yu _,hb⟩
   .rw [xz.1 hi];exact⟨by omega,_,_,_,_,hx⟩) (by omega) (by rw[<-nY ho (by omega),hM.m,hl]) (by rw[mD,hl]) hM.l (fun i hi=>by
   rw[F3];rw[mD] at hi;refine⟨by omega,?_⟩;rw[<-nY ho (by omega)];exact hM.r i (by omega)) (by simp;omega) (by
   have ju:∀j,j∈kD (B+1) (r+1)->B+2<=j/\j<B+2+(r+1):=fun j hj=>by
    have:=ue.1 hj;omega
   rw[uo];refine wj.2 ⟨fun h=>?_,wj.2 ⟨fun h=>?_,tc.2 ⟨uf,by simp,fun a ha b hb=>?_⟩⟩⟩
   .rcases xu.1 h with h | h
    .omega
    .rcases xJ.1 h with h | h
     .have:=ju _ h;omega
     .rw [xz] at h;omega
   .rcases xJ.1 h with h | h
    .have:=ju _ h;omega
    .rw [xz] at h;omega
   .have:=ju _ ha
    rw[xz] at hb;omega) (fun S _ h1 h2 h3=>hT S (h1 0 (by simp)) (fun _=>h2) (by
    have:=h3 0 (by simp)
    rw[show B+1+1+T.length+0=B+1+(r+2) by omega] at this
    rw[Q1];exact this))
  refine⟨J',by rw[e,show B+(1+1+T.length+[x].length)=B+1+(r+2)+1 by simp;omega],g1,fun da ex z lM h=>g3 0 (by simp) _ _ _ _ h,fun _=>g2,?_⟩
  have:=g4 0 (by simp) _ _ _ _ hx
  rwa[show B+1+1+T.length+0=B+1+(r+2) by omega] at this
def anD(hJ:∀p,p∈J->B<=p.1)(ho:iB B B H)(h0:(cQ B H).length<=50000)(hb:∃rw ex z lM,ak J B=FL (.cells rw ycZ ex z lM))(hM:0<r->rU (J++H) (B+1) W T)(hl:T.length=r)(hr:r<=900)(hE:dR (bm tm live)=B::rB B r)(hT:∀S,bw B S B=FL B->(0<r->bw B S (B+1)=FL (B+1))->dS (bw B S) (bm tm live)=tm'):
  ∃J',bk live ⟨tm,J++H,ct,B⟩=⟨tm',J'++H,B+1+zr r,B⟩/\(∀p,p∈J'->B<=p.1)/\(∀rw ex z lM,ak J B=FL (.cells rw ycZ ex z lM)->ak (J'++H) B=FL (.cells rw ycZ ex z lM))/\(0<r->rU (J'++H) (B+1) W T):=by
 cases r with
 | zero=>
  rw[Xx] at hE;obtain⟨J',e,g1,g2⟩:=adO (pre:=[B]) (tm':=tm') (ct:=ct) hJ ho h0 hE (fun i hi=>by
   rw[xz.1 hi];exact⟨yu _,hb⟩) (by simp) (by simp) (fun S _ h=>hT S (h 0 (by simp)) (fun q=>by omega))
  exact⟨J',by rw[e];rfl,g1,fun da ex z lM h=>g2 0 (by simp) _ _ _ _ h,fun q=>by omega⟩
 | succ r=>
  rw[Xy] at hE;rw[Q1];have hM:=hM (by omega);obtain⟨J',e,g1,g2,g3,g4⟩:=ON (k:=1) (pre:=[B]) (post:=[]) (a:=B+1) (ids:=kD (B+1) (r+1)) (W:=W) (T:=T) (tm':=tm') (ct:=ct) hJ ho h0 hE rfl (fun i hi=>by
   have cL:i=B:=by simpa using hi
   rw[cL];exact⟨yu _,hb⟩) (by omega) (by rw[<-nY ho (by omega),hM.m,hl]) (by rw[mD,hl]) hM.l (fun i hi=>by
   rw[F3];rw[mD] at hi;refine⟨by omega,?_⟩;rw[<-nY ho (by omega)];exact hM.r i (by omega)) (by simp;omega) (by
   have ju:∀j,j∈kD (B+1) (r+1)->B+2<=j/\j<B+2+(r+1):=fun j hj=>by
    have:=ue.1 hj;omega
   rw[uo,xT];refine wj.2 ⟨fun h=>?_,wj.2 ⟨fun h=>?_,uf⟩⟩
   .rcases xu.1 h with h | h
    .omega
    .have:=ju _ h;omega
   .have:=ju _ h;omega) (fun S _ h1 h2 _=>hT S (h1 0 (by simp)) (fun _=>h2))
  exact⟨J',by rw[e,show B+(1+1+T.length+([]:List Nat).length)=B+1+(r+2) by simp;omega],g1,fun da ex z lM h=>g3 0 (by simp) _ _ _ _ h,fun _=>g2⟩
end
def gQ(m:List (List Rat)):List (List (List Nat)):=m.map fun r=>r.map RT
def kE(m:List (List Rat)):Rat:=fp 0 (m.map (fp 0))
def iY(p:Nat->Nat->Rat)(S n r:Nat):List Rat:=(xx n).map fun k=>p k r
def dK(p:Nat->Nat->Rat)(S n:Nat):List (List Rat):=(xx n).map fun r=>iY p S S r
def Gd(m:List (List Rat)):(gQ m).length=m.length:=by simp[gQ]
def Jz(p:Nat->Nat->Rat)(S n r:Nat):(iY p S n r).length=n:=by simp[iY]
def F5(p:Nat->Nat->Rat)(S n:Nat):(dK p S n).length=n:=by simp[dK]
def Ti(p:Nat->Nat->Rat)(S n r:Nat):iY p S (n+1) r=iY p S n r++[p n r]:=by unfold iY;rw[vd,xb];rfl
def Tj(p:Nat->Nat->Rat)(S n:Nat):dK p S (n+1)=dK p S n++[iY p S S n]:=by unfold dK;rw[vd,xb];rfl
def abC(s:Rat)(l:List Rat)(x:Rat):fp s (l++[x])=fp s l+x:=by
 induction l generalizing s with
 | nil=>rfl
 | cons y l ih=>exact ih (s+y)
def adP(p:Nat->Nat->Rat){S r:Nat}:∀n,n<=S->bf (fun t=>p (t%S) (t/S)) (r*S+n)=bf (fun t=>p (t%S) (t/S)) (r*S)+fp 0 (iY p S n r)
 | 0,_=>by show _=_+(0:Rat);rw[ycD];rfl
 | n+1,hn=>by
  rw[Ti,abC,<-Rat.add_assoc,<-adP p n (by omega),<-uI];show bf _ (r*S+n)+p ((r*S+n)%S) ((r*S+n)/S)=_
  rw[Cx (by omega),Cy (by omega)]
def Pb(p:Nat->Nat->Rat){S:Nat}:∀n,bf (fun t=>p (t%S) (t/S)) (n*S)=kE (dK p S n)
 | 0=>by rw[wq];rfl
 | n+1=>by
  have e:=adP p (S:=S) (r:=n) S (yu S);rw[xH,uR,e,Pb p n];unfold kE;rw[Tj,xb,y7,wE,abC]
def ayp(h:Rp P L)(E3:Has P L 800 Hf){v:AV}{r:List Rat}{K:Nat}(hv:eJ v (r.map RT))(hl:r.length<=8)(kl:∀x,x∈r->Hq K x)(hK:K<=100000):ab P L 800 [v] (.str (RT (fp 0 r))):=by
 have hz:(AV.str [48])=.str (RT 0):=rfl;have hlen:(r.map RT).length=r.length:=yU _;have hn:=hv.len (hp:=[]);have hm:r.length*(K+1)<=8*(100000+1):=xf hl (by omega);have key:=iA P L [0,3,4] Kr
  (fun d st=>∃i:Nat,i+d=r.length/\st=⟨[(0,v),(3,.str (RT (fp 0 (r.take i)))),(4,aa i)],[],0,0⟩)
  (fun ex st=>∃tm ct,st=⟨tm,[],ct,0⟩/\ex=.exit 0/\aj tm 3=.str (RT (fp 0 r))) ?_
 .unfold ab;rw[aE E3];simp only[go_sem,Hf,hz];generalize hq:D P L (.loop _ Kr) _=q;obtain⟨ex,st,rfl,tm,ct,rfl,rfl,t3⟩:=bH hq (key r.length) ⟨0,by omega,by simp only[go_sem,ya,ap,az hv.pu]<;>rfl⟩
  simp only[go_sem,ap,t3]
 .rintro d st ⟨i,hid,rfl⟩;by_cases hi:i<r.length
  .left
   have e0:=hv.bq (i:=i) (by omega);rw[wB] at e0;have e1:=Ez h (OJ (K:=K) (M:=40) U2 kl i) (kl _ (xU hi)) (by omega);have e2:fp 0 (r.take (i+1))=fp 0 (r.take i)+r[i]:=Td hi;unfold ab at e1;simp only[go_sem,ya,Kr,hv.len,hlen,show (i:Int)<r.length by omega,e0,e1];refine⟨_,d-1,rfl,by omega,i+1,by omega,?_⟩;rw[wrap64 (by omega) (by omega),e2];simp only[go_sem,ya,ap,az hv.pu]<;>rfl
  .right
   simp only[go_sem,ya,Kr,hv.len,hlen,show ¬(i:Int)<r.length by omega];refine⟨_,_,rfl,by simp,_,_,rfl,rfl,?_⟩;rw[yK (by omega)];simp only[go_sem,ya]
def ayq(h:Rp P L)(E3:Has P L 800 Hf)(L3:Has P L 789 Ls){v:AV}{m:List (List Rat)}{K:Nat}(hv:cF eJ v (gQ m))(hl:m.length<=8)(hr:∀r,r∈m->r.length<=8/\∀x,x∈r->Hq K x)(hK:K<=100000):ab P L 789 [v] (.str (RT (kE m))):=by
 have hz:(AV.str [48])=.str (RT 0):=rfl;have hlen:=Gd m;have kr:∀x,x∈m.map (fp 0)->Hq (40+8*(K+1)) x:=fun x hx=>by
  obtain⟨r,bh,rfl⟩:=ud.1 hx;obtain⟨q1,q2⟩:=hr r bh
  have:=OJ (i:=r.length) U2 q2
  rw[xN] at this;exact this.mono (Nat.add_le_add_left (yI _ q1) _)
 have hm:(m.map (fp 0)).length*(40+8*(K+1)+1)<=8*(40+8*(K+1)+1):=yI _ (by rw[yU];exact hl)
 have key:=iA P L [0,3,4] Ko
  (fun d st=>∃i:Nat,i+d=m.length/\st=⟨[(0,v),(3,.str (RT (fp 0 ((m.map (fp 0)).take i)))),(4,aa i)],[],0,0⟩)
  (fun ex st=>∃tm ct,st=⟨tm,[],ct,0⟩/\ex=.exit 0/\aj tm 3=.str (RT (kE m))) ?_
 .unfold ab;rw[aE L3];simp only[go_sem,Ls,hz];generalize hq:D P L (.loop _ Ko) _=q;obtain⟨ex,st,rfl,tm,ct,rfl,rfl,t3⟩:=bH hq (key m.length) ⟨0,by omega,by simp only[go_sem,ya,ap,az hv.pu]<;>rfl⟩
  simp only[go_sem,ap,t3]
 .rintro d st ⟨i,hid,rfl⟩;by_cases hi:i<m.length
  .left
   obtain⟨w,rest,hw,e0⟩:=hv.bq (i:=i) (by omega);have hw:eJ w (m[i].map RT):=by
    have:(gQ m)[i]'(by omega)=m[i].map RT:=by unfold gQ;rw[wB]
    rwa[this] at hw
   obtain⟨q1,q2⟩:=hr _ (xU hi);have e3:=ayp h E3 hw q1 q2 hK;have e1:=Ez h (OJ (K:=40+8*(K+1)) (M:=40) U2 kr i) (kr _ (List.mem_map_of_mem (xU hi))) (by omega);have e2:fp 0 ((m.map (fp 0)).take (i+1))=fp 0 ((m.map (fp 0)).take i)+fp 0 m[i]:=by
    rw[Td (by rw[yU];exact hi),wB]
   unfold ab at e1 e3;simp only[go_sem,ya,Ko,hv.len,hlen,show (i:Int)<m.length by omega,e0,hw.ai,e3,e1];refine⟨_,d-1,rfl,by omega,i+1,by omega,?_⟩;rw[wrap64 (by omega) (by omega),e2];simp only[go_sem,ya,ap,az hv.pu]<;>rfl
  .right
   simp only[go_sem,ya,Ko,hv.len,hlen,show ¬(i:Int)<m.length by omega];refine⟨_,_,rfl,by simp,_,_,rfl,rfl,?_⟩;rw[yK (by rw[yU];omega)];simp only[go_sem,ya];rfl
def ahQ(h:Rm P L)(z8:Has P L 801 ER){C R S i:Nat}(hS:S<=8)(hi:i<=8):ab P L 801 [.agg [aa C,aa R,aa S],aa i] (.str (RT (By S i))):=by
 have e:=VG h (a:=2*(i:Int)+1-(S:Int)) (b:=2) (by omega) (by omega);rw[Rat.divInt_eq_div] at e;unfold ab at e;unfold By;unfold ab;rw[aE z8]
 simp only[go_sem,ya,yb,ER,aQ,aT,yd,ye,yp,wrap64 (n:=2*(i:Int)) (by omega) (by omega),wrap64 (n:=2*(i:Int)+1) (by omega) (by omega),wrap64 (n:=2*(i:Int)+1-(S:Int)) (by omega) (by omega),e]
def jh(C R S:Nat):Obj:=.cells ycZ ycZ ycZ 3 [aa C,aa R,aa S]
section
variable {v:AV}{C K R S r:Nat}
def cX(p:Nat->Nat->Rat)(S t:Nat):Rat:=By S (t%S)*p (t%S) (t/S)
def cY(p:Nat->Nat->Rat)(S t:Nat):Rat:=By S (t/S)*p (t%S) (t/S)
def awq(p:Nat->Nat->Rat){k:Nat}(hk:k<S):cX p S (r*S+k)=By S k*p k r/\cY p S (r*S+k)=By S r*p k r:=by
 unfold cX cY;rw[Cx hk,Cy hk];exact⟨rfl,rfl⟩
section
variable {p:Nat->Nat->Rat}{S K:Nat}(hS:S<=8)(hK:K<=3000)(kp:∀a b,a<S->b<S->Hq K (p a b))
include hS hK kp
theorem VO{t:Nat}(ht:t<S*S):Hq 3080 (cX p S t)/\Hq 3080 (cY p S t):=by
 obtain⟨l1,l2⟩:=CO ht;have k1:=kp _ _ l1 l2;exact⟨((GL hS (by omega)).mul k1).mono (by omega),((GL hS (by omega)).mul k1).mono (by omega)⟩
theorem af7{n:Nat}(hn:n<=S*S):Hq 200000 (bf (cX p S) n)/\Hq 200000 (bf (cY p S) n):=by
 have R1:S*S<=64:=xf hS hS;have h1:n*(3080+1)<=64*(3080+1):=yI _ (by omega)
 exact⟨(EA (N:=S*S) (fun t ht=>(VO hS hK kp ht).1) hn).mono (by omega),(EA (N:=S*S) (fun t ht=>(VO hS hK kp ht).2) hn).mono (by omega)⟩
theorem af8:Hq 200000 (kE (dK p S S)):=by
 have R1:S*S<=64:=xf hS hS;rw[<-Pb p S];have h1:S*S*(K+1)<=64*(K+1):=yI _ R1
 exact (EA (N:=S*S) (fun t ht=>by
  obtain⟨l1,l2⟩:=CO ht
  exact kp _ _ l1 l2) (yu _)).mono (by omega)
omit hK in
theorem asu:∀r,r∈dK p S S->r.length<=8/\∀x,x∈r->Hq K x:=fun r hr=>by
 obtain⟨a,ha,rfl⟩:=ud.1 hr;have ha:=vW.1 ha;refine⟨by rw[Jz];exact hS,fun x hx=>?_⟩
 obtain⟨b,hb,rfl⟩:=ud.1 hx;exact kp _ _ (vW.1 hb) ha
end
def T8{p:Nat->Nat->Rat}{k:Nat}(hk:k<(iY p S S r).length):(iY p S S r)[k]=p k r:=by simp[iY]
def Ux{p:Nat->Nat->Rat}(hr:r<(gQ (dK p S S)).length):(gQ (dK p S S))[r]=(iY p S S r).map RT:=by simp[gQ,dK]
def lm:Obj:=.cells ycZ ycZ ycZ 2 [.str [],.str []]
def pJ(v:AV)(x y:Rat)(r:Nat):Env:=[(1,v),(2,.ptr 0 0),(4,.ptr 1 0),(5,.str (RT x)),(6,.str (RT y)),(7,aa r)]
def awr(h:Rn P L)(z8:Has P L 801 ER){p:Nat->Nat->Rat}(hS:S<=8)(hK:K<=3000)(kp:∀a b,a<S->b<S->Hq K (p a b))(hv:cF eJ v (gQ (dK p S S)))(hr:r<S):
  cZ P L [1,2,4,5,6,7,8] Kp (fun d st=>∃k,k+d=S/\st=⟨pJ v (bf (cX p S) (r*S+k)) (bf (cY p S) (r*S+k)) r++[(8,aa k)],[(1,lm),(0,jh C R S)],2,0⟩) (fun ex s'=>∃tm ct,s'=⟨tm,[(1,lm),(0,jh C R S)],ct,0⟩/\ex=.exit 2/\bm tm [1,2,4,5,6,7]=pJ v (bf (cX p S) ((r+1)*S)) (bf (cY p S) ((r+1)*S)) r):=by
 apply c6;rintro d st ⟨k,R6,rfl⟩;have hlen:(gQ (dK p S S)).length=S:=by rw[Gd,F5]
 by_cases hk:k<S
 .left
  have RW:r*S+k<S*S:=by
   have:=yI S (show r+1<=S from hr)
   rw[xH] at this;omega
  obtain⟨w,rest,hw,e0⟩:=hv.bq (i:=r) (by omega);rw[Ux] at hw;have e1:=hw.bq (i:=k) (by rw[yU,Jz];exact hk)
  rw[wB,T8] at e1;obtain⟨f1,f2⟩:=awq p (r:=r) hk;obtain⟨b1,b2⟩:=af7 hS hK kp (n:=r*S+k) (by omega);have e2:=ahQ (P:=P) (L:=L) h.toRm z8 (C:=C) (R:=R) (S:=S) (i:=k) hS (by omega);have e3:=ahQ (P:=P) (L:=L) h.toRm z8 (C:=C) (R:=R) (S:=S) (i:=r) hS (by omega);have e4:=GY h (GL hS (show k<=8 by omega)) (kp _ _ hk hr) (by omega);have e5:=GY h (GL hS (show r<=8 by omega)) (kp _ _ hk hr) (by omega);rw[<-f1] at e4;rw[<-f2] at e5;obtain⟨b3,b4⟩:=VO hS hK kp RW;have e6:=Ez h.toRp b1 b3 (by decide);have e7:=Ez h.toRp b2 b4 (by decide);have e8:bf (cX p S) (r*S+k)+cX p S (r*S+k)=bf (cX p S) (r*S+(k+1)):=rfl;have e9:bf (cY p S) (r*S+k)+cY p S (r*S+k)=bf (cY p S) (r*S+(k+1)):=rfl;rw[e8] at e6;rw[e9] at e7;have fz:=z7;unfold ab at e2 e3 e4 e5 e6 e7
  simp only[go_sem,ya,Kp,pJ,jh,lm,ym,yG,aT,yd,ye,yp,fj,fz,show (k:Int)<S by omega,e0,e1,e2,e3,e4,e5,e6,e7];refine⟨_,d-1,rfl,by omega,k+1,by omega,?_⟩;rw[wrap64 (by omega) (by omega)];simp only[go_sem,ya,yb,ap,az hv.pu,ym,yG]<;>rfl
 .right
  have FE:k=S:=by omega
  subst FE;simp only[go_sem,ya,Kp,pJ,jh,lm,ym,yG,aT,yd,ye,yp,show ¬(k:Int)<k by omega];refine⟨_,_,rfl,by simp,_,_,rfl,rfl,?_⟩;rw[xH,uR];simp only[go_sem,ya]<;>rfl
def aws(h:Rn P L)(z8:Has P L 801 ER){p:Nat->Nat->Rat}(hS:S<=8)(hK:K<=3000)(kp:∀a b,a<S->b<S->Hq K (p a b))(hv:cF eJ v (gQ (dK p S S))):
  cZ P L [1,2,4,5,6,7] Kq (fun d st=>∃r,r+d=S/\st=⟨pJ v (bf (cX p S) (r*S)) (bf (cY p S) (r*S)) r,[(1,lm),(0,jh C R S)],2,0⟩) (fun ex s'=>∃tm ct,s'=⟨tm,[(1,lm),(0,jh C R S)],ct,0⟩/\ex=.exit 0/\bm tm [1,4,5,6]=[(1,v),(4,.ptr 1 0),(5,.str (RT (bf (cX p S) (S*S)))),(6,.str (RT (bf (cY p S) (S*S))))]):=by
 apply c6;rintro d st ⟨r,fE,rfl⟩;by_cases hr:r<S
 .left
  have key:=awr (C:=C) (R:=R) h z8 hS hK kp hv hr;simp only[go_sem,ya,Kq,pJ,jh,lm,aT,yd,ye,yp,show (r:Int)<S by omega];generalize hq:D P L (.loop _ Kp) _=q;obtain⟨ex,st,rfl,tm,ct,rfl,rfl,iP⟩:=bH hq (key S) ⟨0,by omega,by simp only[go_sem,ya,yb,ap,pJ,jh,lm,az hv.pu,y5,ym,yG]<;>rfl⟩
  have hc:∀ct,bk [1,2,4,5,6,7] ⟨tm,[(1,lm),(0,jh C R S)],ct,0⟩=⟨pJ v (bf (cX p S) ((r+1)*S)) (bf (cY p S) ((r+1)*S)) r,[(1,lm),(0,jh C R S)],2,0⟩:=fun ct=>by
   refine ybj (Nk (c':=ct) (tm':=pJ v (bf (cX p S) ((r+1)*S)) (bf (cY p S) ((r+1)*S)) r) (by rw[iP];rfl)) ?_
   simp only[go_sem,ya,yb,ap,pJ,jh,lm,az hv.pu]<;>rfl
  simp only[go_sem,ya,hc,pJ];refine⟨_,d-1,rfl,by omega,r+1,by omega,?_⟩;rw[wrap64 (by omega) (by omega)];simp only[go_sem,ya,yb,ap,jh,lm,az hv.pu]<;>rfl
 .right
  have FF:r=S:=by omega
  subst FF;simp only[go_sem,ya,Kq,pJ,jh,lm,aT,yd,ye,yp,show ¬(r:Int)<r by omega];exact⟨_,_,rfl,by simp,_,_,rfl,rfl,by simp only[go_sem,ya]<;>rfl⟩
def aBq(h:Rx P L)(L3:Has P L 789 Ls)(Xz:Has P L 790 Qw)(E3:Has P L 800 Hf)(z8:Has P L 801 ER){p:Nat->Nat->Rat}(hS:S<=8)(hK:K<=3000)(kp:∀a b,a<S->b<S->Hq K (p a b))(hv:cF eJ v (gQ (dK p S S)))(h0:kE (dK p S S)≠0):
  ab P L 790 [.agg [aa C,aa R,aa S],v] (.agg [.str (RT (bf (cX p S) (S*S)/kE (dK p S S))),.str (RT (bf (cY p S) (S*S)/kE (dK p S S)))]):=by
 have key:=aws (C:=C) (R:=R) h.toRn z8 hS hK kp hv;have e1:=ayq h.toRp E3 L3 hv (by rw[F5];exact hS) (asu hS kp) (by omega)
 obtain⟨b1,b2⟩:=af7 hS hK kp (yu _);have e2:=af1 h b1 (af8 hS hK kp) (by decide) h0;have e3:=af1 h b2 (af8 hS hK kp) (by decide) h0;have hz:(AV.str [48])=.str (RT 0):=rfl;have E7:bf (cX p S) (0*S)=0:=by rw[wq];rfl
 have lf:bf (cY p S) (0*S)=0:=by rw[wq];rfl
 have oG:∀ct,lH ct 2 [.str [],.str []]=FL (.ptr ct 0,lm):=fun _=>rfl
 unfold ab at e1 e2 e3;unfold ab;rw[aE Xz];simp only[go_sem,yb,Qw,ib,oG,hz];generalize hq:D P L (.loop _ Kq) _=q;obtain⟨ex,st,rfl,tm,ct,rfl,rfl,iP⟩:=bH hq (key S) ⟨0,by omega,by
  simp only[go_sem,ya,yb,ap,pJ,jh,lm,az hv.pu,E7,lf]<;>rfl⟩
 have hc:∀ct,bk [1,4,5,6] ⟨tm,[(1,lm),(0,jh C R S)],ct,0⟩=⟨[(1,v),(4,.ptr 0 0),(5,.str (RT (bf (cX p S) (S*S)))),(6,.str (RT (bf (cY p S) (S*S))))],[(0,lm)],1,0⟩:=fun ct=>by
  refine ybj (Nk (c':=ct) (tm':=[(1,v),(4,.ptr 1 0),(5,.str (RT (bf (cX p S) (S*S)))),(6,.str (RT (bf (cY p S) (S*S))))]) (by rw[iP];rfl)) ?_
  simp only[go_sem,ya,yb,ap,jh,lm,az hv.pu]<;>rfl
 generalize RT (bf (cX p S) (S*S)/kE (dK p S S))=w1 at*
 generalize RT (bf (cY p S) (S*S)/kE (dK p S S))=w2 at*
 have bZ:∀(tm:Env) (a:List Nat) (r:List (Nat×Nat×X)),fS tm [.str [],.str []] 0 1 [.str a] r=fill tm [.str a,.str []] r:=fun tm a r=>by
  rw[mE (by simp) rfl];rfl
 have L4:∀(tm:Env) (a b:List Nat) (r:List (Nat×Nat×X)),fS tm [.str a,.str []] 1 1 [.str b] r=fill tm [.str a,.str b] r:=fun tm a b r=>by
  rw[mE (by simp) rfl];rfl
 have aM:∀(hp:Hp) (ct id:Nat) (a b:List Nat),fy hp ct id 0 2 [.str a,.str b] (FL (.cells ycZ ycZ ycZ 2 [.str [],.str []]))=FL (.aw [],aW hp id (.cells ycZ ycZ ycZ 2 [.str a,.str b]),ct):=fun _ _ _ _ _=>rfl
 simp only[go_sem,hc];simp only[lm];simp only[go_sem,ya,hv.ai,e1,e2,e3,bZ,L4,aM,ye,cI,cJ];rfl
end
section
variable {tm tm':Env}{H J:Hp}{T:List (List AV)}{F:List (List Nat)}{cs:List AV}{W live:List Nat}{B C R S ct r:Nat}
def oL(p:Nat->Nat->Rat)(S n r:Nat):List AV:=(iY p S n r).map fun x=>.str (RT x)
def adQ(p:Nat->Nat->Rat)(S n r:Nat):(oL p S n r).length=n:=by simp[oL,iY]
def apT(p:Nat->Nat->Rat)(S n r:Nat):oL p S (n+1) r=oL p S n r++[.str (RT (p n r))]:=by unfold oL;rw[Ti,xb];rfl
def awt(p:Nat->Nat->Rat)(S n r:Nat):aG (oL p S n r)=ycZ:=by
 unfold oL
 induction iY p S n r with
 | nil=>rfl
 | cons x l ih=>exact ih
def o9(B r:Nat):AV:=if r=0 then .ah else .ax (B+1) 0 r
def aBr(B:Nat):o9 B 0=.ah:=rfl
def XA(B r:Nat):o9 B (r+1)=.ax (B+1) 0 (r+1):=by unfold o9;rw[yt (by omega)]
def mS(v:AV)(B a b r:Nat):Env:=[(1,v),(3,.ptr B 0),(7,aa a),(8,aa b),(9,o9 B r),(10,aa r)]
structure eO(H J:Hp)(B C R S r:Nat)(W:List Nat)(T:List (List AV)):Prop where
 hJ:∀p,p∈J->B<=p.1
 bx:ak (J++H) B=FL (jh C R S)
 m:0<r->rU (J++H) (B+1) W T
 l:T.length=r
def OO(B r:Nat):refs (o9 B r)=rB B r:=by
 cases r with
 | zero=>rfl
 | succ r=>rw[XA,Xy];rfl
def Pc{f:Nat->Option Nat}(h:0<r->f (B+1)=FL (B+1)):br f (o9 B r)=o9 B r:=by
 cases r with
 | zero=>rfl
 | succ r=>rw[XA];simp[br,h (by omega)]
def PG{i:Nat}(h:i<r):i+1<zr r:=by
 unfold zr;rw[yt (by omega)];omega
def eO.mono{J2:Hp}(hM:eO H J B C R S r W T)(hJ:∀p,p∈J2->B<=p.1)(hg:∀j,j<B+1+zr r->ak (J2++H) j=ak (J++H) j):eO H J2 B C R S r W T:=
 ⟨hJ,by rw[hg B (by omega)];exact hM.bx,fun h0=>by
  have m:=hM.m h0;have h1:=PG h0;refine⟨m.l,by rw[hg _ (by omega)];exact m.m,fun i hi=>?_⟩
  have h2:=PG (r:=r) (i:=i) (by rw[<-hM.l];exact hi)
  rw[hg _ (by omega)];exact m.r i hi,hM.l⟩
def eO.cons{id:Nat}{o:Obj}(hM:eO H J B C R S r W T)(h:B+1+zr r<=id):eO H ((id,o)::J) B C R S r W T:=
 hM.mono (fun p hp=>by
  rcases xu.1 hp with rfl | hp
  .show B<=id;omega
  .exact hM.hJ p hp) fun j hj=>by rw[ym,eW _ _ (by omega)]
def eO.del{id:Nat}(hM:eO H J B C R S r W T)(ho:iB B B H)(h:B+1+zr r<=id):eO H (cT J id) B C R S r W T:=
 hM.mono (fun p hp=>hM.hJ p (acJ hp)) fun j hj=>by rw[<-Jy ho (by omega),DO,yt (by omega)]
def eO.row{x:Nat}(hM:eO H J B C R S r W T)(ho:iB B B H)(h0:(cQ B H).length<=50000)(hr:r<=900)(hx:ak (J++H) x=FL (.cells ycZ ycZ yda 1 cs))(I0:B+1+zr r<=x)(hE:dR (bm tm live)=B::(rB B r++[x]))(hT:∀S,bw B S B=FL B->(0<r->bw B S (B+1)=FL (B+1))->bw B S x=FL (B+1+zr r)->dS (bw B S) (bm tm live)=tm'):
  ∃J',bk live ⟨tm,J++H,ct,B⟩=⟨tm',J'++H,B+1+zr r+1,B⟩/\eO H J' B C R S r W T/\ak (J'++H) (B+1+zr r)=FL (.cells ycZ ycZ yda 1 cs):=by
 have hb:ak J B=FL (jh C R S):=by rw[<-nY ho (yu B)];exact hM.bx
 obtain⟨J',e,g1,g2,g3,g4⟩:=apS (ct:=ct) (tm':=tm') hM.hJ ho h0 ⟨_,_,_,_,hb⟩ hM.m hM.l hr (by rw[<-nY ho (by omega)];exact hx) I0 hE hT
 exact⟨J',e,⟨g1,g2 _ _ _ _ hb,g3,hM.l⟩,g4⟩
def eO.fin{x k e:Nat}{Q:Hp->Prop}(hM:eO H J B C R S r W T)(ho:iB B B H)(h0:(cQ B H).length<=50000)(hr:r<=900)(hx:ak (J++H) x=FL (.cells ycZ ycZ yda 1 cs))(I0:B+1+zr r<=x)(hk:k+1+e=S)(hE:dR (bm tm live)=B::(rB B r++[x]))(hT:∀S,bw B S B=FL B->(0<r->bw B S (B+1)=FL (B+1))->bw B S x=FL (B+1+zr r)->dS (bw B S) (bm tm live)=tm'):
  ∃J',k+1+e=S/\eO H J' B C R S r W T/\((k+1=0/\Q J')\/(0<k+1/\bk live ⟨tm,J++H,ct,B⟩=⟨tm',J'++H,B+1+zr r+1,B⟩/\ak (J'++H) (B+1+zr r)=FL (.cells ycZ ycZ yda 1 cs))):=by
 obtain⟨J',g1,g2,g3⟩:=hM.row (ct:=ct) (tm':=tm') ho h0 hr hx I0 hE hT;exact⟨J',hk,g2,.inr ⟨by omega,g1,g3⟩⟩
def eO.ahR(hM:eO H J B C R S r W T)(ho:iB B B H)(h0:(cQ B H).length<=50000)(hr:r<=900)(hE:dR (bm tm live)=B::rB B r)(hT:∀S,bw B S B=FL B->(0<r->bw B S (B+1)=FL (B+1))->dS (bw B S) (bm tm live)=tm'):
  ∃J',bk live ⟨tm,J++H,ct,B⟩=⟨tm',J'++H,B+1+zr r,B⟩/\eO H J' B C R S r W T:=by
 have hb:ak J B=FL (jh C R S):=by rw[<-nY ho (yu B)];exact hM.bx
 obtain⟨J',e,g1,g2,g3⟩:=anD (ct:=ct) (tm':=tm') hM.hJ ho h0 ⟨_,_,_,_,hb⟩ hM.m hM.l hr hE hT;exact⟨J',e,⟨g1,g2 _ _ _ _ hb,g3,hM.l⟩⟩
def asv(h:Fy P L){v:AV}{n m c:Nat}(hv:cF eY v F)(hF:nS F n m)(hc:c<m)(hr:r<n):∃w rest bits,jm 1 r v=FL (.bN (w::rest))/\(∃PH,jm 1 c w=FL (.bN (.av .f32 bits::PH)))/\ab P L 429 [.av .f32 bits] (.str (RT (lV F c r))):=by
 obtain⟨bh,kH,e,f1,f2⟩:=hF.at hr hc;obtain⟨w,rest,hw,e0⟩:=hv.bq bh;have hw:cz w (dO F[r]):=hw;have e1:=hw.bq (i:=c) (by simpa using kH);rw[Og kH] at e1;obtain⟨s,M,hb,eq⟩:=VL f2 f1
 have:=aAB h hb
 rw[<-eq,<-e] at this;exact⟨w,rest,_,e0,⟨_,e1⟩,this⟩
def awu(h:Fy P L){v:AV}{a b:Nat}(hv:cF eY v F)(hF:nS F (R*S) (C*S))(hC:C<=8)(hR:R<=8)(hS:S<=8)(nh:0<S)(ha:a<C)(hb:b<R)(hr:r<S)(ho:iB B B H)(h0:(cQ B H).length<=50000):
  cZ P L [1,3,7,8,9,10,11,12] GB (fun d st=>∃k J,k+d=S/\eO H J B C R S r W T/\((k=0/\st=⟨mS v B a b r++[(11,.ah),(12,aa k)],J++H,B+1+zr r,B⟩)\/(0<k/\st=⟨mS v B a b r++[(11,.ax (B+1+zr r) 0 k),(12,aa k)],J++H,B+1+zr r+1,B⟩/\ak (J++H) (B+1+zr r)=FL (.cells ycZ ycZ yda 1 (oL (fun k r=>lV F (a*S+k) (b*S+r)) S k r))))) (fun ex s'=>∃tm J ct,s'=⟨tm,J++H,ct,B⟩/\ex=.exit 2/\eO H J B C R S r W T/\ak (J++H) (B+1+zr r)=FL (.cells ycZ ycZ yda 1 (oL (fun k r=>lV F (a*S+k) (b*S+r)) S S r))/\bm tm [1,3,7,8,9,10,11]=mS v B a b r++[(11,.ax (B+1+zr r) 0 S)]):=by
 apply c6;rintro d st ⟨k,J,R6,hM,aM⟩;have DE:=hM.bx;simp only[jh] at DE;by_cases hk:k<S
 .left
  have hbS:b*S<=8*8:=xf (by omega) hS;have haS:a*S<=8*8:=xf (by omega) hS;obtain⟨w,rest,bits,e0,⟨PH,e1⟩,e2⟩:=asv h hv hF (pn ha hk) (pn hb hr);have q1:(b:Int)*(S:Int)=((b*S:Nat):Int):=by rw[xM]
  have q2:(a:Int)*(S:Int)=((a*S:Nat):Int):=by rw[xM]
  have q3:((b*S:Nat):Int)+(r:Int)=((b*S+r:Nat):Int):=by omega
  have q4:((a*S:Nat):Int)+(k:Int)=((a*S+k:Nat):Int):=by omega
  have w1:IntKind.wrap .i64 ((b*S:Nat):Int)=((b*S:Nat):Int):=wrap64 (by omega) (by omega);have w2:IntKind.wrap .i64 ((a*S:Nat):Int)=((a*S:Nat):Int):=wrap64 (by omega) (by omega);have w3:IntKind.wrap .i64 ((b*S+r:Nat):Int)=((b*S+r:Nat):Int):=wrap64 (by omega) (by omega);have w4:IntKind.wrap .i64 ((a*S+k:Nat):Int)=((a*S+k:Nat):Int):=wrap64 (by omega) (by omega);have w5:IntKind.wrap .i64 ((k:Int)+1)=((k+1:Nat):Int):=wrap64 (by omega) (by omega);have lf:(k:Int)<S:=by omega
  have Au:=apT (fun k r=>lV F (a*S+k) (b*S+r)) S k r;have aE8:∃rw ex z lM,ak J B=FL (.cells rw ycZ ex z lM):=⟨_,_,_,_,by rw[<-nY ho (yu B)];exact hM.bx⟩
  have ic:=awt (fun k r=>lV F (a*S+k) (b*S+r)) S k r;have R2:=adQ (fun k r=>lV F (a*S+k) (b*S+r)) S k r;unfold ab at e2;generalize RT (lV F (a*S+k) (b*S+r))=tx at*
  rcases aM with ⟨lU,rfl⟩ | ⟨lU,rfl,hx⟩
  .subst lU;simp only[go_sem,ya,xq,yz,yk,yi,GB,mS,ym,yG,DE,aT,yd,yp,ye,lf,q1,q2,q3,q4,w1,w2,w3,w4,e0,e1,nm,e2,gF,gV,w5];refine⟨_,d-1,rfl,by omega,0+1,?_⟩;rw[Au]
   refine eO.fin (J:=(B+1+zr r+1,.cells ycZ ycZ yda 1 [.str tx])::(B+1+zr r,.cells ycZ ycZ ycZ 1 [.str tx])::J) (x:=B+1+zr r+1) ((hM.cons (yu _)).cons (by omega)) ho h0 (by omega) (by rw[ym,ji];rfl) (by omega) (by omega) ?_ ?_
   .simp only [go_sem,ya,iw hv.pu,OO]
   .intro S' s1 s2 s3;simp only[go_sem,ya,yb,s1,s3,Pc s2,qu _ hv.pu]<;>rfl
  .generalize BC:oL (fun k r=>lV F (a*S+k) (b*S+r)) S k r=cs at*
   simp only[go_sem,ya,yk,yi,GB,mS,ym,yG,DE,aT,yd,yp,ye,lf,q1,q2,q3,q4,w1,w2,w3,w4,e0,e1,nm,e2,gF]
   rw[fP (sz:=1) (ex:=yda) (pu:=ycZ) (cs:=cs) (by rw[eW _ _ (by omega)];exact hx) (by rw[R2];omega) (by omega) (by omega) (by decide) (by simp only[go_sem])]
   simp only[go_sem,ya,w5];refine⟨_,d-1,rfl,by omega,k+1,?_⟩;rw[Au,Cb _ _ (by omega),Jy ho (by omega)]
   refine eO.fin (J:=(B+1+zr r+1+1,.cells ycZ ycZ yda 1 (cs++[.str tx]))::(B+1+zr r+1,.cells ycZ ycZ ycZ 1 [.str tx])::cT J (B+1+zr r)) (k:=k) (e:=d-1) (x:=B+1+zr r+1+1) (((hM.del ho (yu _)).cons (by omega)).cons (by omega)) ho h0 (by omega) (by rw[ym,ji]) (by omega) (by omega) ?_ ?_
   .simp only [go_sem,ya,iw hv.pu,OO]
   .intro S' s1 s2 s3;simp only[go_sem,ya,s1,s3,Pc s2,qu _ hv.pu]<;>rfl
 .right
  have FE:k=S:=by omega
  subst FE;rcases aM with ⟨lU,rfl⟩ | ⟨lU,rfl,hx⟩
  .omega
  .simp only [go_sem,ya,GB,mS,ym,yG,DE,aT,yd,yp,ye,show ¬(k:Int)<k by omega];exact⟨_,_,rfl,by simp,_,_,_,rfl,rfl,hM,hx,by simp only[go_sem,ya]<;>rfl⟩
end
section
variable {H:Hp}{T:List (List AV)}{cs:List AV}{W live:List Nat}{B C R S a r x:Nat}
def gR(p:Nat->Nat->Rat)(S n:Nat):List (List AV):=(xx n).map fun r=>oL p S S r
def Uy(p:Nat->Nat->Rat)(S n:Nat):(gR p S n).length=n:=by simp[gR]
def Oh(p:Nat->Nat->Rat)(S n:Nat):gR p S (n+1)=gR p S n++[oL p S S n]:=by unfold gR;rw[vd,xb];rfl
def acK(p:Nat->Nat->Rat)(S n:Nat):(gR p S (n+1)).map wb=(gR p S n).map wb++[S]:=by rw[Oh,xb,y7,wE,adQ]
def alS(hx:x=B+1+zr r)(ha:x<a):(B::a::(kD (B+1) r++[x])).Nodup:=by
 have ju:∀j,j∈kD (B+1) r->B+2<=j/\j<x:=fun j hj=>by
  have h1:=ue.1 hj;have h2:=PG (r:=r) (i:=r-1) (by omega);omega
 refine wj.2 ⟨fun h=>?_,wj.2 ⟨fun h=>?_,tc.2 ⟨uf,by simp,fun p hp q hq=>?_⟩⟩⟩
 .rcases xu.1 h with h | h
  .omega
  .rcases xJ.1 h with h | h
   .have:=ju _ h;omega
   .rw [xz] at h;omega
 .rcases xJ.1 h with h | h
  .have:=ju _ h;omega
  .rw [xz] at h;omega
 .have:=ju _ hp
  rw[xz] at hq;omega
def eO.add{J J2:Hp}{n ct:Nat}{tm tm':Env}(hM:eO H J B C R S r W T)(hW:W.length=r)(ho:iB B B H)(h0:(cQ B H).length<=50000)(hr:r<=900)(hx:x=B+1+zr r)(ha:x<a)(hJ:∀p,p∈J2->B<=p.1)(hg:∀j,B<=j->j<B+1+zr r->j≠B+1\/r=0->ak (J2++H) j=ak (J++H) j)(Ze:ak (J2++H) x=FL (.cells ycZ ycZ yda 1 cs))(hm:ak (J2++H) a=FL (.cells ycZ yda yda 1 (jg (kD (B+1) r) W++[.ax x 0 n])))(hE:dR (bm tm live)=[B,a])(hT:∀S,bw B S B=FL B->bw B S a=FL (B+1)->dS (bw B S) (bm tm live)=tm'):
  ∃J',bk live ⟨tm,J2++H,ct,B⟩=⟨tm',J'++H,B+1+zr (r+1),B⟩/\eO H J' B C R S (r+1) (W++[n]) (T++[cs]):=by
 have hb:ak J2 B=FL (jh C R S):=by rw[<-nY ho (yu B),hg B (yu B) (by omega) (.inl (by omega))];exact hM.bx
 have hl:=hM.l;obtain⟨J',e,g1,g2,g3,g4⟩:=ON (k:=1) (pre:=[B]) (post:=[]) (a:=a) (ids:=kD (B+1) r++[x]) (W:=W++[n]) (T:=T++[cs]) (tm':=tm') (ct:=ct) hJ ho h0 hE rfl (fun i hi=>by
  have cL:i=B:=by simpa using hi
  rw[cL];exact⟨yu _,_,_,_,_,hb⟩) (by omega) (by rw[<-nY ho (by omega),hm,acF (by rw[mD,hW])]) (by rw[yN,yN,mD,hl];rfl) (by rw[yN,yN,hW,hl];rfl) (fun i hi=>by
  rw[yN,mD] at hi;by_cases c:i<r
  .have h1:=PG c;have h2:=(hM.m (by omega)).r i (by omega);rw[wH (by rw[mD];exact c),F3]
   refine⟨by omega,?_⟩;rw[<-nY ho (by omega),hg _ (by omega) (by omega) (.inl (by omega)),h2,CP (by omega),CP (by simp;omega),wH (by omega)]
  .have cL:i=r:=by simp at hi;omega
   subst cL;rw[wg (by rw[mD];omega)];simp only[mD,Nat.sub_self,wG];refine⟨by omega,?_⟩;rw[<-nY ho (by omega),Ze,CP (by simp;omega),wg (by omega)]
   simp[hl]) (by simp;omega) (by rw[uo,xT];exact alS hx ha) (fun S _ h1 h2 _=>hT S (h1 0 (by simp)) h2)
 refine⟨J',by rw[e,Q1];simp;omega,g1,g3 0 (by simp) _ _ _ _ hb,fun _=>g2,by rw[yN,hl];rfl⟩
def eO.QS{J J2:Hp}{n ct N e:Nat}{tm tm':Env}(hM:eO H J B C R S r W T)(hW:W.length=r)(ho:iB B B H)(h0:(cQ B H).length<=50000)(hr:r<=900)(hx:x=B+1+zr r)(ha:x<a)(hJ:∀p,p∈J2->B<=p.1)(hg:∀j,B<=j->j<B+1+zr r->j≠B+1\/r=0->ak (J2++H) j=ak (J++H) j)(Ze:ak (J2++H) x=FL (.cells ycZ ycZ yda 1 cs))(hm:ak (J2++H) a=FL (.cells ycZ yda yda 1 (jg (kD (B+1) r) W++[.ax x 0 n])))(hN:r+1+e=N)(hE:dR (bm tm live)=[B,a])(hT:∀S,bw B S B=FL B->bw B S a=FL (B+1)->dS (bw B S) (bm tm live)=tm'):
  ∃J',r+1+e=N/\eO H J' B C R S (r+1) (W++[n]) (T++[cs])/\bk live ⟨tm,J2++H,ct,B⟩=⟨tm',J'++H,B+1+zr (r+1),B⟩:=by
 obtain⟨J',g1,g2⟩:=hM.add (ct:=ct) (tm':=tm') hW ho h0 hr hx ha hJ hg Ze hm hE hT;exact⟨J',hN,g2,g1⟩
def awv(h:Fy P L){v:AV}{F:List (List Nat)}{b:Nat}(hv:cF eY v F)(hF:nS F (R*S) (C*S))(hC:C<=8)(hR:R<=8)(hS:S<=8)(nh:0<S)(ha:a<C)(hb:b<R)(ho:iB B B H)(h0:(cQ B H).length<=50000){p:Nat->Nat->Rat}(hp:p=fun k r=>lV F (a*S+k) (b*S+r)):
  cZ P L [1,3,7,8,9,10] Ks (fun d st=>∃r J,r+d=S/\eO H J B C R S r ((gR p S r).map wb) (gR p S r)/\st=⟨mS v B a b r,J++H,B+1+zr r,B⟩) (fun ex s'=>∃tm J ct,s'=⟨tm,J++H,ct,B⟩/\ex=.exit 0/\eO H J B C R S S ((gR p S S).map wb) (gR p S S)/\aj tm 9=.ax (B+1) 0 S):=by
 apply c6;rintro d st ⟨r,J,fE,hM,rfl⟩;have DE:=hM.bx;simp only[jh] at DE;by_cases hr:r<S
 .left
  have key:=awu h (W:=(gR p S r).map wb) (T:=gR p S r) hv hF hC hR hS nh ha hb hr ho h0;rw[<-hp] at key;simp only[go_sem,ya,Ks,mS,DE,aT,yd,yp,ye,show (r:Int)<S by omega];obtain⟨J1,e1,IY⟩:=hM.ahR (live:=[1,3,7,8,9,10,11,12]) (ct:=B+1+zr r) (tm:=[(12,aa (0:Nat)),(11,.ah),(24,.bool ycZ),(23,aa S),(22,.ptr B 2),(21,aa r),(1,v),(3,.ptr B 0),(7,aa a),(8,aa b),(9,o9 B r),(10,aa r)]) (tm':=mS v B a b r++[(11,.ah),(12,aa (0:Nat))]) ho h0 (by omega) (by simp only[go_sem,ya,iw hv.pu,OO]<;>simp) (fun S' s1 s2=>by simp only[go_sem,ya,s1,Pc s2,qu _ hv.pu]<;>rfl)
  generalize hq:D P L (.loop _ GB) _=q;obtain⟨ex,st,rfl,tm,J2,ct,rfl,rfl,Zf,hx,iP⟩:=bH hq (key S) ⟨0,J1,by omega,IY,.inl ⟨rfl,e1⟩⟩;obtain⟨J3,e3,M4,hx3⟩:=Zf.row (live:=[1,3,7,8,9,10,11]) (ct:=ct) (tm:=tm) (x:=B+1+zr r) (tm':=mS v B a b r++[(11,.ax (B+1+zr r) 0 S)]) ho h0 (by omega) hx (yu _) (by rw[iP];simp only[go_sem,mS,ym,yG,iw hv.pu,OO]) (fun S' s1 s2 s3=>by rw[iP];simp only[go_sem,mS,ym,yG,s1,s3,Pc s2,qu _ hv.pu]<;>rfl)
  have w5:IntKind.wrap .i64 ((r:Int)+1)=((r+1:Nat):Int):=wrap64 (by omega) (by omega);have R8:((gR p S r).map wb).length=r:=by rw[yU,Uy]
  have ju:∀q,q∈J3->B<=q.1:=M4.hJ;simp only[go_sem,ya,e3];by_cases jU:r=0
  .subst jU;simp only[go_sem,ya,yb,xq,yz,yk,yi,mS,ym,yG,aBr,gF,gV,w5];refine⟨_,d-1,rfl,by omega,0+1,?_⟩;rw[acK,Oh]
   refine eO.QS (N:=S) (e:=d-1) (x:=B+1+zr 0) (a:=B+1+zr 0+1+1) (J2:=(B+1+zr 0+1+1,.cells ycZ yda yda 1 [.ax (B+1+zr 0) 0 S])::(B+1+zr 0+1,.cells ycZ yda ycZ 1 [.ax (B+1+zr 0) 0 S])::J3) M4 R8 ho h0 (by omega) rfl (by omega) (fun q hq=>?_) (fun j j1 j2 _=>?_) ?_ ?_ (by omega) ?_ ?_
   .rcases xu.1 hq with rfl | hq
    .show B<=B+1+zr 0+1+1;omega
    rcases xu.1 hq with rfl | hq
    .show B<=B+1+zr 0+1;omega
    exact ju q hq
   .rw [ym,ym,eW _ _ (by omega),eW _ _ (by omega)]
   .rw [ym,ym,eW _ _ (by omega),eW _ _ (by omega)];exact hx3
   .rw [ym,ji];rfl
   .simp only [go_sem,ya,iw hv.pu]
   .intro S' s1 s2;simp only[go_sem,ya,yb,s1,s2,qu _ hv.pu]<;>rfl
  .have L5:0<r:=by omega
   have hz:zr r=1+r:=by unfold zr;rw[yt jU]
   have hmm:=(M4.m L5).m;rw[M4.l] at hmm;have ho9:o9 B r=.ax (B+1) 0 r:=by unfold o9;rw[yt jU]
   simp only[go_sem,ya,yb,yk,yi,mS,ym,yG,ho9,gF]
   rw[fP (sz:=1) (ex:=yda) (pu:=yda) (cs:=jg (kD (B+1) r) ((gR p S r).map wb)) (by rw[eW _ _ (by omega)];exact hmm) (by rw[ass (by rw[mD,R8]),R8];omega) (by omega) (by omega) (by decide) (by simp only[go_sem])]
   simp only[go_sem,ya,w5];refine⟨_,d-1,rfl,by omega,r+1,?_⟩;rw[acK,Oh,Cb _ _ (by omega),Jy ho (by omega)]
   refine eO.QS (N:=S) (e:=d-1) (x:=B+1+zr r) (a:=B+1+zr r+1+1) (J2:=(B+1+zr r+1+1,.cells ycZ yda yda 1 (jg (kD (B+1) r) ((gR p S r).map wb)++[.ax (B+1+zr r) 0 S]))::(B+1+zr r+1,.cells ycZ yda ycZ 1 [.ax (B+1+zr r) 0 S])::cT J3 (B+1)) M4 R8 ho h0 (by omega) rfl (by omega) (fun q hq=>?_) (fun j j1 j2 j3=>?_) ?_ ?_ (by omega) ?_ ?_
   .rcases xu.1 hq with rfl | hq
    .show B<=B+1+zr r+1+1;omega
    rcases xu.1 hq with rfl | hq
    .show B<=B+1+zr r+1;omega
    exact ju q (acJ hq)
   .rw [ym,ym,eW _ _ (by omega),eW _ _ (by omega),<-Jy ho (by omega),DO,yt (by omega)]
   .rw [ym,ym,eW _ _ (by omega),eW _ _ (by omega),<-Jy ho (by omega),DO,yt (by omega)];exact hx3
   .rw [ym,ji]
   .simp only [go_sem,ya,iw hv.pu]
   .intro S' s1 s2;simp only[go_sem,ya,s1,s2,qu _ hv.pu]<;>rfl
 .right
  have FF:r=S:=by omega
  subst FF;obtain⟨r',rfl⟩:∃r',r=r'+1:=⟨r-1,by omega⟩;simp only[go_sem,ya,Ks,mS,DE,aT,yd,yp,ye,show ¬((r'+1:Nat):Int)<((r'+1:Nat):Int) by omega];exact⟨_,_,rfl,by simp,_,_,_,rfl,rfl,hM,by simp only[go_sem,ya,XA]⟩
end
section
variable {T:List (List AV)}{W:List Nat}
def eO.end_{H J:Hp}{B C R S ct:Nat}{live:List Nat}{tm tm':Env}(hM:eO H J B C R S S W T)(nh:0<S)(hS:S<=900)(ho:iB B B H)(h0:(cQ B H).length<=50000)(hE:dR (bm tm live)=[B+1])(hT:∀S,bw B S (B+1)=FL B->dS (bw B S) (bm tm live)=tm'):
  ∃J',bk live ⟨tm,J++H,ct,B⟩=⟨tm',J'++H,B+1+S,B⟩/\(∀p,p∈J'->B<=p.1)/\rU (J'++H) B W T:=by
 have hm:=hM.m nh;have hl:=hM.l;obtain⟨J',e,g1,g2,_⟩:=ON (k:=0) (pre:=[]) (post:=[]) (a:=B+1) (ids:=kD (B+1) S) (W:=W) (T:=T) (tm':=tm') (ct:=ct) hM.hJ ho h0 hE rfl (by simp) (by omega) (by rw[<-nY ho (by omega),hm.m,hl]) (by rw[mD,hl]) hm.l (fun i hi=>by
  rw[F3];rw[mD] at hi;refine⟨by omega,?_⟩;rw[<-nY ho (by omega)];exact hm.r i (by omega)) (by simp;omega) (by
  rw[yG,xT];refine wj.2 ⟨fun h=>?_,uf⟩
  have:=ue.1 h;omega) (fun S' _ _ h1 _=>hT S' h1)
 exact⟨J',by rw[e];simp;omega,g1,g2⟩
def rU.eA{hp:Hp}(h:rU hp 0 W T)(hw:∀i (h1:i<T.length) (h2:i<W.length),T[i].length=W[i])(hM:T.length<=900):result hp (.ax 0 0 T.length)=FL (.au yda T.length (vL (fun w r=>.au yda w r) W T)):=by
 obtain⟨ja,e3,_⟩:=h.ai hw hM (n:=997) (by decide);have hm:=h.m;have e2:qO deep hp (.ax 0 0 T.length)=freeze deep hp (.ax 0 0 T.length):=by simp only[qO,hm]
 simp only[result,e2];show (match freeze (997+3) hp (.ax 0 0 T.length) with | some (v',_)=>FL v' | none=>none)=_
 rw[e3]
def M5(p:Nat->Nat->Rat)(S n:Nat):List AV:=vL (fun w r=>AV.au yda w r) ((gR p S n).map wb) (gR p S n)
def zip_map:vL (fun w r=>AV.au yda w r) (T.map wb) T=T.map fun r=>.au yda r.length r:=by
 induction T with
 | nil=>rfl
 | cons a T ih=>rw[y7,yaK,ih];rfl
def adR(p:Nat->Nat->Rat)(S:Nat):∀n,jP eJ (M5 p S n) (gQ (dK p S n))
 | 0=>trivial
 | n+1=>by
  have ih:=adR p S n;unfold M5 at ih ⊢;unfold gQ at ih ⊢;rw[zip_map] at ih ⊢;rw[Oh,Tj,xb,xb];refine ih.snoc ?_;have e:oL p S S n=((iY p S S n).map RT).map AV.str:=by unfold oL;rw[ybs];rfl
  have:=JJ yda ((iY p S S n).map RT)
  rw[e];show eJ (.au yda (((iY p S S n).map RT).map AV.str).length (((iY p S S n).map RT).map AV.str)) _
  rw[yU];exact this
def aww(p:Nat->Nat->Rat)(S:Nat):cF eJ (.au yda S (M5 p S S)) (gQ (dK p S S)):=by
 have:=Of yda (adR p S S)
 rwa[Gd,F5] at this
def ayr(p:Nat->Nat->Rat)(S n:Nat):∀i (h1:i<(gR p S n).length) (h2:i<((gR p S n).map wb).length),(gR p S n)[i].length=((gR p S n).map wb)[i]:=fun i h1 h2=>by rw[wB]
def aBs(h:Fy P L){v:AV}{F:List (List Nat)}{C R S i B:Nat}{H:Hp}(hv:cF eY v F)(hF:nS F (R*S) (C*S))(hC:C<=8)(hR:R<=8)(hS:S<=8)(nh:0<S)(hi:i<C*R)(ho:iB B B H)(h0:(cQ B H).length<=50000){p:Nat->Nat->Rat}(hp:p=fun k r=>lV F (i%C*S+k) (i/C*S+r)):
  ∃J,D P L Lt.body ⟨fI 0 [.agg [aa C,aa R,aa S],v,aa i],H,B,B⟩=FL (.ret,⟨[(6,.ax B 0 S),(58,.ax B 0 S),(9,.ax B 0 S)],J++H,B+1+S,B⟩)/\(∀p,p∈J->B<=p.1)/\rU (J++H) B ((gR p S S).map wb) (gR p S S):=by
 obtain⟨l1,l2⟩:=OL hi;have key:=awv (P:=P) (L:=L) h hv hF hC hR hS nh l1 l2 ho h0 hp;have AE:C*R<=64:=xf hC hR;have h1:(i:Int).tmod (C:Int)=((i%C:Nat):Int):=(ycb i C).symm;have h2:(i:Int).tdiv (C:Int)=((i/C:Nat):Int):=(ycc i C).symm;generalize i%C=a at*
 generalize i/C=b at*
 have BV:(C:Int)≠0:=by omega
 have w1:IntKind.wrap .i64 (a:Int)=(a:Int):=wrap64 (by omega) (by omega);have w2:IntKind.wrap .i64 (b:Int)=(b:Int):=wrap64 (by omega) (by omega);have p7:eO H [(B,jh C R S)] B C R S 0 ((gR p S 0).map wb) (gR p S 0):=⟨fun q hq=>by rw[xz.1 hq];exact yu B,by rw[ym,ji],fun q=>by omega,rfl⟩
 obtain⟨J1,e1,IY⟩:=p7.ahR (live:=[1,3,7,8,9,10]) (ct:=B+1) (tm:=[(10,aa (0:Nat)),(9,.ah),(8,aa b),(7,aa a),(20,aa b),(19,aa C),(18,.ptr B 0),(17,aa i),(16,aa a),(15,aa C),(14,.ptr B 0),(13,aa i),(6,.ah),(3,.ptr B 0),(0,.agg [aa C,aa R,aa S]),(1,v),(2,aa i)]) (tm':=mS v B a b 0) ho h0 (by omega) (by simp only[go_sem,ya,iw hv.pu,Xx]<;>rfl) (fun S' s1 s2=>by simp only[go_sem,ya,s1,qu _ hv.pu]<;>rfl)
 simp only[go_sem,ya,yb,Lt,aQ,aT,yd,ye,fC _ _ _ BV,eK _ _ _ BV,h1,h2,w2];generalize hq:D P L (.loop _ Ks) _=q;obtain⟨ex,st,rfl,tm,J2,ct,rfl,rfl,Zf,t9⟩:=bH hq (key S) ⟨0,J1,by omega,IY,e1⟩;obtain⟨J3,e3,q1,q2⟩:=Zf.end_ (live:=[9]) (ct:=ct) (tm:=tm) (tm':=[(9,.ax B 0 S)]) nh (by omega) ho h0 (by simp only[go_sem,t9]) (fun S' s1=>by simp only[go_sem,t9,s1]);refine⟨J3,?_,q1,q2⟩;simp only[go_sem,e3]
section
variable (h:Fy P L)(Q2:Has P L 788 Lt){v:AV}{F:List (List Nat)}{C R S i:Nat}(hv:cF eY v F)(hF:nS F (R*S) (C*S))(hC:C<=8)(hR:R<=8)(hS:S<=8)(nh:0<S)(hi:i<C*R){p:Nat->Nat->Rat}(hp:p=fun k r=>lV F (i%C*S+k) (i/C*S+r))
include h Q2 hv hF hC hR hS nh hi hp
theorem aBt:ab P L 788 [.agg [aa C,aa R,aa S],v,aa i] (.au yda S (M5 p S S)):=by
 obtain⟨J,e,q1,q2⟩:=aBs h hv hF hC hR hS nh hi (H:=[]) (B:=0) trivial (by decide) hp;have hr:=q2.eA (ayr p S S) (by rw[Uy];omega);rw[Uy] at hr;unfold ab;rw[aE Q2,e];exact hr
end
end
def ahS(h:Rm P L)(L6:Has P L 769 He){s:List Nat}(hl:s.length<=1000000):ab P L 769 [.str s] (aa (jx s)):=by
 have e1:=aAq h (s:=s) (by omega);unfold ab at e1;unfold jx;by_cases c:ik s=0
 .rw [yD c];have e2:=PB h (OI c (yu 2400)) (by decide);rw[<-(Oe c).1] at e2;rw[c] at e1;unfold ab at e2;have hd:decide (bX (bl s).num<0)=decide (bl s<0):=vz.2 (FR _);unfold ab;rw[aE L6];by_cases c2:bl s<0
  .rw [y8 c2] at hd;rw[yD c2];simp only[go_sem,ya,He,e1,e2,hd]<;>rfl
  .rw [yQ c2] at hd;rw[yt c2];simp only[go_sem,ya,He,e1,e2,hd]<;>rfl
 .rw [yt c];unfold ab;rw[aE L6];simp only[go_sem,ya,He,e1,c]
def af9(h:Rp P L)(sH:Has P L 315 EO)(Hs:Has P L 449 Hc){a l:Rat}{K:Nat}(ka:Hq K a)(kl:Hq K l)(hK:K<=100000):ab P L 449 [.str [48],.str (RT (a-l))] (.str (RT (kO (a-l)))):=by
 have e:=aAz h sH Hs (a:=0) (b:=a-l) (K:=K+K+2) (Xc.mono (by omega)) ((ka.sub kl).mono (by omega)) (by omega)
 have:(if (0:Rat)<a-l then a-l else 0)=kO (a-l):=by
  unfold kO;by_cases c:a-l<0
  .rw [yD c,yt (by grind)]
  .rw [yt c];by_cases c2:(0:Rat)<a-l
   .rw [yD c2]
   .rw [yt c2];grind
 rw[this] at e;exact e
def U3{f g:Nat->Rat}:∀{n:Nat},(∀t,t<n->f t=g t)->bf f n=bf g n
 | 0,_=>rfl
 | n+1,h=>by
  show bf f n+f n=bf g n+g n
  rw[U3 fun t ht=>h t (by omega),h n (by omega)]
abbrev ahT:Ty:=.cat (.int .i64) (.cat (.int .i64) (.cat (.int .i64) .nil))
abbrev Q3:Ty:=.sl (.av .f32)
def apU{l:List AV}(h:nd ahT l):∃c r s:Int,l=[aa c,aa r,aa s]:=by
 obtain⟨_,_,rfl,⟨c,rfl,_⟩,_,_,rfl,⟨r,rfl,_⟩,_,_,rfl,⟨s,rfl,_⟩,rfl⟩:=h;exact⟨c,r,s,rfl⟩
def awx{b:Nat}(h:(Go.Lit.float yaB b).wf=ycZ):b<4294967296:=by
 simp only[Go.Lit.wf,vU] at h;exact h
def abD:∀{ps:List (List AV)},(∀p,p∈ps->nd (.av .f32) p)->∃l:List Nat,l.length=ps.length/\ps.flatten=dO l/\∀b,b∈l->b<4294967296
 | [],_=>⟨[],rfl,rfl,fun _ h=>by cases h⟩
 | p::ps,h=>by
  obtain⟨b,rfl,hb⟩:=h p wA;obtain⟨l,h1,h2,h3⟩:=abD (ps:=ps) (fun q hq=>h q (xR _ hq));refine⟨b::l,by simp[h1],by simp[h2,dO],fun q hq=>?_⟩;rcases xu.1 hq with rfl | hq
  .exact awx hb
  .exact h3 q hq
def apV{l:List AV}(h:nd Q3 l):∃(v:AV) (m:List Nat),l=[v]/\eY v m/\∀b,b∈m->b<4294967296:=by
 rcases h with rfl | ⟨x,ps,rfl,h⟩
 .exact ⟨_,[],rfl,zq,fun _ h=>by cases h⟩
 .obtain ⟨m,h1,h2,h3⟩:=abD h;refine⟨_,m,rfl,?_,h3⟩;rw[h2,<-h1]
  have:=Ga x (dO m)
  rwa[show (dO m).length=m.length by simp[dO]] at this
def acL:∀{ps:List (List AV)},(∀p,p∈ps->nd Q3 p)->∃M:List (List Nat),M.length=ps.length/\jP eY ps.flatten M/\∀r,r∈M->∀b,b∈r->b<4294967296
 | [],_=>⟨[],rfl,trivial,fun _ h=>by cases h⟩
 | p::ps,h=>by
  obtain⟨v,m,rfl,hv,hm⟩:=apV (h p wA);obtain⟨M,h1,h2,h3⟩:=acL (ps:=ps) (fun q hq=>h q (xR _ hq))
  exact⟨m::M,by simp[h1],⟨hv,h2⟩,fun q hq=>by
   rcases xu.1 hq with rfl | hq
   .exact hm
   .exact h3 q hq⟩
def asw{l:List AV}(h:nd (.sl Q3) l):∃(v:AV) (M:List (List Nat)),l=[v]/\cF eY v M/\∀r,r∈M->∀b,b∈r->b<4294967296:=by
 rcases h with rfl | ⟨x,ps,rfl,h⟩
 .exact ⟨_,[],rfl,abz,fun _ h=>by cases h⟩
 .obtain ⟨M,h1,h2,h3⟩:=acL h;refine⟨_,M,rfl,?_,h3⟩;rw[<-h1];exact Of x h2
section
variable {S n t:Nat}{c:Nat->Nat}
def FG(u:Bool)(T c:Nat)(l m:Rat):Rat:=if decide (c<T)=u then l else m
def lz(c:Nat->Nat)(l m:Nat->Rat)(u:Bool)(T t:Nat):Rat:=FG u T (c t) (l t) (m t)
def BW(c:Nat->Nat)(l m:Nat->Rat)(S:Nat)(u:Bool)(T t:Nat):Rat:=lz c l m u T t*By S (c t)
def aga{l m:Nat->Rat}{u:Bool}{T:Nat}(kl:Hq 3000 (l t))(km:Hq 3000 (m t)):Hq 3000 (lz c l m u T t):=by
 unfold lz FG;by_cases h:decide (c t<T)=u
 .rw [yD h];exact kl
 .rw [yt h];exact km
section
variable {c:Nat->Nat}{l m:Nat->Rat}{S n:Nat}(u:Bool)(T:Nat)(kl:∀t,t<n->Hq 3000 (l t))(km:∀t,t<n->Hq 3000 (m t))(hn:n<=64)(hS:S<=8)(hc:∀t,t<n->c t<S)
include kl km hn hS hc
theorem KS{i:Nat}(hi:i<=n):Hq 300000 (bf (lz c l m u T) i)/\Hq 300000 (bf (BW c l m S u T) i):=by
 refine⟨(EA (N:=n) (fun t ht=>aga (kl t ht) (km t ht)) hi).mono ?_,(EA (N:=n) (K:=3080) (fun t ht=>((aga (kl t ht) (km t ht)).mul (GL hS (by have:=hc t ht;omega)))) hi).mono ?_⟩
 .have:i*(3000+1)<=64*(3000+1):=yI _ (by omega)
  omega
 .have:i*(3080+1)<=64*(3080+1):=yI _ (by omega)
  omega
end
def jy(c:Nat->Nat)(l m:Nat->Rat)(S n:Nat)(u:Bool)(T:Nat):Rat:=bf (BW c l m S u T) n/bf (lz c l m u T) n
def dA(c:Nat->Nat)(l m:Nat->Rat)(S n:Nat)(u:Bool):Nat->Rat
 | 0=>jy c l m S n u 0
 | T+1=>if decide (dA c l m S n u T<jy c l m S n u (T+1))=u then jy c l m S n u (T+1) else dA c l m S n u T
def fO(S:Nat)(ro:Bool)(t:Nat):Nat:=if ro=ycZ then t/S else t%S
def cC(p:Nat->Nat->Rat)(e:Rat)(S t:Nat):Rat:=kO (p (t%S) (t/S)-e)
def gE(p:Nat->Nat->Rat)(e:Rat)(S t:Nat):Rat:=p (t%S) (t/S)+e
def Q4{p:Nat->Nat->Rat}{e:Rat}(kp:∀a b,a<S->b<S->Hq 429 (p a b))(ke:Hq 2400 e):(∀t,t<S*S->Hq 3000 (cC p e S t))/\∀t,t<S*S->Hq 3000 (gE p e S t):=by
 refine⟨fun t ht=>?_,fun t ht=>?_⟩
 .exact (VM ((kp _ _ (CO ht).1 (CO ht).2).sub ke)).mono (by decide)
 .exact ((kp _ _ (CO ht).1 (CO ht).2).add ke).mono (by decide)
def GM{ro:Bool}(ht:t<S*S):fO S ro t<S:=by
 unfold fO
 cases ro with
 | false=>exact (CO ht).1
 | true=>exact (CO ht).2
def gS(p:Nat->Nat->Rat)(S n:Nat):Bool:=(xx n).any fun t=>decide (p (t%S) (t/S)<0)
def acM{p:Nat->Nat->Rat}:gS p S (n+1)=(gS p S n||decide (p (n%S) (n/S)<0)):=by simp[gS,vd]
def apW{p:Nat->Nat->Rat}(h:gS p S n=ycZ):∀{m:Nat},n<=m->gS p S m=ycZ:=fun {m} hm=>by
 unfold gS at h ⊢;rw[ybC] at h ⊢;obtain⟨t,h1,h2⟩:=h
 exact⟨t,vW.2 (by have:=vW.1 h1;omega),h2⟩
def agb{p:Nat->Nat->Rat}(h:gS p S n=yda)(ht:t<n):0<=p (t%S) (t/S):=by
 unfold gS at h;rw[List.any_eq_false] at h
 have:=h t (vW.2 ht)
 exact tC.1 (by simpa using this)
structure Ext(P:aF)(L:Lib):Prop extends Fr' P L where
 QX:Has P L 725 Lr
 aBu:Has P L 693 Wj
def GN(va vl vm:AV)(fo:Bool)(z:Int)(n i:Nat):Env:=[(1,va),(2,vl),(3,vm),(4,.ptr 0 0),(8,.ptr 1 0),(9,.ptr 2 0),(10,.bool fo),(11,aa z),(12,.ptr 3 0),(13,.ptr 4 0),(35,va),(36,aa n),(37,aa i)]
def nA(va vl vm:AV)(fo:Bool)(z:Int):Env:=[(1,va),(2,vl),(3,vm),(4,.ptr 0 0),(8,.ptr 1 0),(9,.ptr 2 0),(10,.bool fo),(11,aa z)]
def bF(C R S:Int):Obj:=.cells ycZ ycZ ycZ 3 [aa C,aa R,aa S]
def og(C R S:Int)(lo hi M N:List AV):Hp:=[(4,.cells ycZ ycZ ycZ 12 N),(3,.cells ycZ ycZ ycZ 12 M),(2,.cells ycZ ycZ ycZ 4 hi),(1,.cells ycZ ycZ ycZ 4 lo),(0,bF C R S)]
def aeC(id:Nat)(cs:List AV):LF id (.bN cs)=ycZ:=rfl
def FH:List AV:=[.int .i64 0,.ah,.int .i64 0,.ah]
def awy(h:Ext P L){va vl vm:AV}{l m:Nat->Rat}{C R T:Nat}{fo:Bool}{lo hi:List AV}(ni:bi va ((xx n).map fun t=>((c t:Nat):Int)))(mY:jS vl ((xx n).map l))(nT:jS vm ((xx n).map m))(hn:n<=64)(hS:S<=8)(hT:T<=100)(hc:∀t,t<n->c t<S)(kl:∀t,t<n->Hq 3000 (l t))(km:∀t,t<n->Hq 3000 (m t)):
  cZ P L [1,2,3,4,8,9,10,11,12,13,35,36,37] Gx (fun d st=>∃i M N,i+d=n/\Mo M (bf (lz c l m ycZ T) i) (bf (BW c l m S ycZ T) i) 0/\Mo N (bf (lz c l m yda T) i) (bf (BW c l m S yda T) i) 0/\st=⟨GN va vl vm fo ((T:Int)-1) n i,og C R S lo hi M N,5,0⟩) (fun ex s'=>∃tm ct M N,s'=⟨tm,og C R S lo hi M N,ct,0⟩/\ex=.exit 2/\Mo M (bf (lz c l m ycZ T) n) (bf (BW c l m S ycZ T) n) 0/\Mo N (bf (lz c l m yda T) n) (bf (BW c l m S yda T) n) 0/\bm tm [1,2,3,4,8,9,10,11,12,13]=nA va vl vm fo ((T:Int)-1)++[(12,.ptr 3 0),(13,.ptr 4 0)]):=by
 apply c6;rintro d st ⟨i,M,N,hid,hM,hN,rfl⟩;have hlen:((xx n).map fun t=>((c t:Nat):Int)).length=n:=by simp
 by_cases cG:i<n
 .left
  have ea:=ni.bq (i:=i) (by simpa using cG);rw[wB,tW] at ea;obtain⟨x1,x2,x3,x4,xr,el,hx⟩:=mY.bq (i:=i) (by simpa using cG);rw[wB,tW] at hx;obtain⟨y1,y2,y3,y4,yr,em,hy⟩:=nT.bq (i:=i) (by simpa using cG);rw[wB,tW] at hy;have kc:=GL hS (show c i<=8 by have:=hc i cG;omega);obtain⟨k,ek,hk⟩:=aA7 h.toFr' h.QX (C:=C) (R:=R) (S:=S) (i:=c i) hS (by have:=hc i cG;omega);have PI:decide (((c i:Nat):Int)<=(T:Int)-1)=decide (c i<T):=vz.2 (by omega);have M3:(i:Int)<n:=by omega
  have fz:=z7;have gx:=hx.f4;have gy:=hy.f4;obtain⟨k1,k2,k3,k4,rfl,gk⟩:=hk.gen;have kM:=KS (i:=i) ycZ T kl km hn hS hc (by omega);have kN:=KS (i:=i) yda T kl km hn hS hc (by omega)
  suffices hh:∃s' M' N',_=FL (Ex.normal,s')/\Mo M' (bf (lz c l m ycZ T) (i+1)) (bf (BW c l m S ycZ T) (i+1)) 0/\Mo N' (bf (lz c l m yda T) (i+1)) (bf (BW c l m S yda T) (i+1)) 0/\bk [1,2,3,4,8,9,10,11,12,13,35,36,37] s'=⟨GN va vl vm fo ((T:Int)-1) n (i+1),og C R S lo hi M' N',5,0⟩ by
   obtain⟨s',M',N',q1,q2,q3,q4⟩:=hh;exact⟨s',d-1,q1,by omega,i+1,M',N',by omega,q2,q3,q4⟩
  simp only[bf,BW,lz,FG] at kM kN ⊢;obtain⟨a1,a2,a3,a4,a5,a6,a7,a8,a9,qg,qh,a12,rfl,hf,hg,h0⟩:=hM;obtain⟨b1,b2,b3,b4,b5,b6,b7,b8,b9,b10,R4,Y7,rfl,nK,AD,h0'⟩:=hN;have gf:=hf.f4;have gg:=hg.f4;have DF:=nK.f4;have DG:=AD.f4;unfold ab at ek;by_cases hcT:c i<T
  .have fw:decide (c i<T)=ycZ:=y8 hcT;rw[fw] at PI;simp only[fw,xA];obtain⟨s,e1,hs⟩:=zf h.toFr' hf hx (K:=300000) kM.1 ((kl i cG).mono (by omega)) (by decide);obtain⟨p,e2,hp⟩:=HU h.toFr' hx hk (K:=3000) (kl i cG) (kc.mono (by omega)) (by decide);obtain⟨s',e3,ze⟩:=zf h.toFr' hg hp (K:=300000) kM.2 (((kl i cG).mul kc).mono (by omega)) (by decide);obtain⟨r,e4,hr⟩:=zf h.toFr' nK hy (K:=300000) kN.1 ((km i cG).mono (by omega)) (by decide);obtain⟨p',e5,an⟩:=HU h.toFr' hy hk (K:=3000) (km i cG) (kc.mono (by omega)) (by decide);obtain⟨r',e6,bh⟩:=zf h.toFr' AD an (K:=300000) kN.2 (((km i cG).mul kc).mono (by omega)) (by decide);have pM:=hs;have XB:=ze;have jU:=hr;have L5:=bh;obtain⟨s1,s2,s3,s4,rfl,gs⟩:=hs.gen;obtain⟨p1,p2,p3,p4,rfl,gp⟩:=hp.gen;obtain⟨t1,t2,t3,t4,rfl,gt⟩:=ze.gen;obtain⟨r1,r2,r3,r4,rfl,gr⟩:=hr.gen
   obtain⟨q1,q2,q3,q4,rfl,gq⟩:=an.gen;obtain⟨u1,u2,u3,u4,rfl,gu⟩:=bh.gen;unfold ab at e1 e2 e3 e4 e5 e6;simp only[go_sem,ya,yb,Gx,GN,og,bF,M3,ea,el,em,PI,aQ,GG,GH,Gb,F1,wL,aeC,aT,yd,ye,yp,Hr,iC,fj,fz,gx.st,gy.st,gk.st,ek,bz,gf.ai,gx.ai,e1,gk.ai,e2,gg.ai,gp.ai,e3,gs.sX,gt.R7,DF.ai,gy.ai,e4,e5,DG.ai,gq.ai,e6,gr.sX,gu.R7];refine⟨_,_,_,rfl,⟨_,_,_,_,_,_,_,_,_,_,_,_,rfl,pM,XB,h0⟩,⟨_,_,_,_,_,_,_,_,_,_,_,_,rfl,jU,L5,h0'⟩,?_⟩;rw[wrap64 (by omega) (by omega)];simp only[go_sem,ya,yb,ap,az ni.pu,az mY.pu,az nT.pu]<;>rfl
  .have fw:decide (c i<T)=yda:=yQ hcT;rw[fw] at PI;simp only[fw,xA];obtain⟨s,e1,hs⟩:=zf h.toFr' hf hy (K:=300000) kM.1 ((km i cG).mono (by omega)) (by decide);obtain⟨p,e2,hp⟩:=HU h.toFr' hy hk (K:=3000) (km i cG) (kc.mono (by omega)) (by decide);obtain⟨s',e3,ze⟩:=zf h.toFr' hg hp (K:=300000) kM.2 (((km i cG).mul kc).mono (by omega)) (by decide);obtain⟨r,e4,hr⟩:=zf h.toFr' nK hx (K:=300000) kN.1 ((kl i cG).mono (by omega)) (by decide);obtain⟨p',e5,an⟩:=HU h.toFr' hx hk (K:=3000) (kl i cG) (kc.mono (by omega)) (by decide);obtain⟨r',e6,bh⟩:=zf h.toFr' AD an (K:=300000) kN.2 (((kl i cG).mul kc).mono (by omega)) (by decide);have pM:=hs;have XB:=ze;have jU:=hr;have L5:=bh;obtain⟨s1,s2,s3,s4,rfl,gs⟩:=hs.gen;obtain⟨p1,p2,p3,p4,rfl,gp⟩:=hp.gen;obtain⟨t1,t2,t3,t4,rfl,gt⟩:=ze.gen;obtain⟨r1,r2,r3,r4,rfl,gr⟩:=hr.gen
   obtain⟨q1,q2,q3,q4,rfl,gq⟩:=an.gen;obtain⟨u1,u2,u3,u4,rfl,gu⟩:=bh.gen;unfold ab at e1 e2 e3 e4 e5 e6;simp only[go_sem,ya,yb,Gx,GN,og,bF,M3,ea,el,em,PI,aQ,GG,GH,Gb,F1,wL,aeC,aT,yd,ye,yp,Hr,iC,fj,fz,gx.st,gy.st,gk.st,ek,bz,gf.ai,gy.ai,e1,gk.ai,e2,gg.ai,gp.ai,e3,gs.sX,gt.R7,DF.ai,gx.ai,e4,e5,DG.ai,gq.ai,e6,gr.sX,gu.R7];refine⟨_,_,_,rfl,⟨_,_,_,_,_,_,_,_,_,_,_,_,rfl,pM,XB,h0⟩,⟨_,_,_,_,_,_,_,_,_,_,_,_,rfl,jU,L5,h0'⟩,?_⟩;rw[wrap64 (by omega) (by omega)];simp only[go_sem,ya,yb,ap,az ni.pu,az mY.pu,az nT.pu]<;>rfl
 .right
  have sW:i=n:=by omega
  subst sW;simp only[go_sem,ya,Gx,GN,show ¬(i:Int)<i by omega];exact⟨_,_,rfl,by simp,_,_,M,N,rfl,rfl,hM,hN,by simp only[go_sem,ya,nA,ym,yG]<;>rfl⟩
end
section
variable {v:AV}{gr ro:Bool}{C R:Int}{b:List Nat}{S T r:Nat}{e:Rat}
def wP(p:Nat->Nat->Rat)(e:Rat)(ro gr:Bool)(T k r:Nat):Rat:=FG gr T (if ro=ycZ then r else k) (kO (p k r-e)) (p k r+e)
def aBv{p:Nat->Nat->Rat}{k:Nat}(kp:Hq 429 (p k r))(ke:Hq 2400 e):Hq 3000 (wP p e ro gr T k r):=by
 unfold wP FG;by_cases h:decide ((if ro=ycZ then r else k)<T)=gr
 .rw [yD h];exact (VM (kp.sub ke)).mono (by decide)
 .rw [yt h];exact (kp.add ke).mono (by decide)
def ays{p:Nat->Nat->Rat}:(if ro=ycZ then bf (cY (wP p e ro gr T) S) (S*S) else bf (cX (wP p e ro gr T) S) (S*S))/kE (dK (wP p e ro gr T) S S)=jy (fO S ro) (cC p e S) (gE p e S) S (S*S) gr T:=by
 rw[<-Pb];unfold jy;have e1:bf (fun t=>wP p e ro gr T (t%S) (t/S)) (S*S)=bf (lz (fO S ro) (cC p e S) (gE p e S) gr T) (S*S):=rfl;rw[e1]
 cases ro with
 | false=>rw[yt (by decide)];exact congrArg (·/_) (U3 fun t _=>yaz _ _)
 | true=>rw[yD rfl];exact congrArg (·/_) (U3 fun t _=>yaz _ _)
noncomputable def wR(p:Nat->Nat->Rat)(e:Rat)(ro gr:Bool)(T S r n:Nat):List AV:=((iY (wP p e ro gr T) S n r).map RT).map AV.str
def aeD{p:Nat->Nat->Rat}{n:Nat}:(wR p e ro gr T S r n).length=n:=by simp[wR,iY]
def asx{p:Nat->Nat->Rat}{n:Nat}:wR p e ro gr T S r (n+1)=wR p e ro gr T S r n++[.str (RT (wP p e ro gr T n r))]:=by
 unfold wR;rw[Ti,xb,xb];rfl
def iU(v:AV)(s:List Nat)(ro gr:Bool)(b:List Nat)(z:Int)(Cv:AV)(r:Nat)(Rv:AV)(k:Nat):Env:=[(1,v),(2,.str s),(3,.bool ro),(4,.bool gr),(5,.ptr 0 0),(11,.str b),(12,aa z),(13,Cv),(14,aa r),(15,Rv),(16,aa k)]
def Ge(v:AV)(s:List Nat)(ro gr:Bool)(b:List Nat)(z:Int)(Cv:AV)(r:Nat)(Rv:AV):Env:=[(1,v),(2,.str s),(3,.bool ro),(4,.bool gr),(5,.ptr 0 0),(11,.str b),(12,aa z),(13,Cv),(14,aa r),(15,Rv)]
structure Zg(C R S:Int)(v:AV)(s:List Nat)(ro gr:Bool)(b:List Nat)(z:Int)(Cv:AV)(r:Nat)(F:Hp)(f:Nat):Prop where
 g0:∀ws,ak (rh f F ws) 0=FL (bF C R S)
 l0:∀ws k,Xm [1,2,3,4,5,11,12,13,14,15,16] (iU v s ro gr b z Cv r (rr f ws) k) (rh f F ws) (rc f ws)
 l1:∀ws,Xm [1,2,3,4,5,11,12,13,14,15] (Ge v s ro gr b z Cv r (rr f ws)) (rh f F ws) (rc f ws)
 nw:∀k o1 ws c,bk [1,2,3,4,5,11,12,13,14,15,16] ⟨iU v s ro gr b z Cv r (.ax (f+1) 0 1) k,(f+1,.cells ycZ ycZ yda 1 [ws])::(f,o1)::F,c,0⟩=⟨iU v s ro gr b z Cv r (.ax f 0 1) k,(f,.cells ycZ ycZ yda 1 [ws])::F,f+1,0⟩
 mr:∀k m o1 ws c,bk [1,2,3,4,5,11,12,13,14,15,16] ⟨iU v s ro gr b z Cv r (.ax (f+2) 0 m) k,(f+2,.cells ycZ ycZ yda 1 ws)::(f+1,o1)::cT F f,c,0⟩=⟨iU v s ro gr b z Cv r (.ax f 0 m) k,(f,.cells ycZ ycZ yda 1 ws)::F,f+1,0⟩
def fr9{S:Int}(pv:aX v=ycZ)(s:List Nat)(ro gr:Bool)(b:List Nat)(z:Int)(r:Nat)(W:List AV):Zg C R S v s ro gr b z (rr 1 W) r (rh 1 [(0,bF C R S)] W) (rc 1 W)/\(rc 1 W=1\/rc 1 W=2):=by
 refine⟨?_,by cases W<;>simp[rc]⟩
 cases W with
 | nil=>
  refine⟨fun ws=>by cases ws<;>rfl,fun ws k=>⟨rfl,fun c=>?_⟩,fun ws=>⟨rfl,fun c=>?_⟩,fun k o1 ws c=>?_,fun k m o1 ws c=>?_⟩
  .cases ws<;>simp only[go_sem,ya,yb,ap,iU,rr,rh,rc,bF,az pv]<;>rfl
  .cases ws<;>simp only[go_sem,ya,yb,ap,Ge,rr,rh,rc,bF,az pv]<;>rfl
  .simp only [go_sem,ya,yb,ap,iU,rr,rh,rc,bF,az pv]<;>rfl
  .simp only [go_sem,ya,yb,ap,iU,rr,rh,rc,bF,az pv]<;>rfl
 | cons w W=>
  refine⟨fun ws=>by cases ws<;>rfl,fun ws k=>⟨rfl,fun c=>?_⟩,fun ws=>⟨rfl,fun c=>?_⟩,fun k o1 ws c=>?_,fun k m o1 ws c=>?_⟩
  .cases ws<;>simp only[go_sem,ya,yb,ap,iU,rr,rh,rc,bF,az pv]<;>rfl
  .cases ws<;>simp only[go_sem,ya,yb,ap,Ge,rr,rh,rc,bF,az pv]<;>rfl
  .simp only [go_sem,ya,yb,ap,iU,rr,rh,rc,bF,az pv]<;>rfl
  .simp only [go_sem,ya,yb,ap,iU,rr,rh,rc,bF,az pv]<;>rfl
structure AF(P:aF)(L:Lib):Prop extends Rx P L,Fy P L where
 sH:Has P L 315 EO
 Xq:Has P L 355 Qg
 Hs:Has P L 449 Hc
 iZ:Has P L 774 Wn
 Q2:Has P L 788 Lt
 L3:Has P L 789 Ls
 Xz:Has P L 790 Qw
 aBw:Has P L 792 Wo
 E3:Has P L 800 Hf
 z8:Has P L 801 ER
def awz(h:AF P L){p:Nat->Nat->Rat}{k:Nat}{Cv:AV}{F:Hp}{f:Nat}(hv:cF eJ v (gQ (dK p S S)))(kp:∀a b,a<S->b<S->Hq 429 (p a b))(ke:Hq 2400 e)(hS:S<=8)(hr:r<S)(hk:k<S)(hT:T<=100)(fr:Zg C R S v (RT e) ro gr b ((T:Int)-1) Cv r F f)(hf:f=1\/f=2){ws:List AV}(p8:ws.length=k):
  ∃s',D P L od ⟨iU v (RT e) ro gr b ((T:Int)-1) Cv r (rr f ws) k,rh f F ws,rc f ws,0⟩=FL (Ex.normal,s')/\bk [1,2,3,4,5,11,12,13,14,15,16] s'=⟨iU v (RT e) ro gr b ((T:Int)-1) Cv r (rr f (ws++[.str (RT (wP p e ro gr T k r))])) (k+1),rh f F (ws++[.str (RT (wP p e ro gr T k r))]),rc f (ws++[.str (RT (wP p e ro gr T k r))]),0⟩:=by
 obtain⟨w,rest,hw,e0⟩:=hv.bq (i:=r) (by rw[Gd,F5];exact hr)
 rw[Ux] at hw;have e1:=hw.bq (i:=k) (by rw[yU,Jz];exact hk)
 rw[wB,T8] at e1;have g0:=fr.g0 ws;have kp:=kp k r hk hr;have e2:=VH h.toRp kp ke (by decide);have e3:=af9 h.toRp h.sH h.Hs (K:=2400) (kp.mono (by decide)) ke (by decide);have e4:=Ez h.toRp kp ke (by decide);have qj:∀a b:Bool,jr .b (.bool a) (.bool b)=FL (a==b):=fun _ _=>rfl
 have jC:∀a:Bool,Bo yda (FL a)=FL (.bool a):=fun a=>by cases a<;>rfl
 unfold ab at e2 e3 e4;have mk:∀(q:Env) (y:List Nat) (z:AV),fS q [z] 0 1 [AV.str y] []=FL [.str y]:=fun q y z=>by rw[mE (by simp) rfl];rfl
 have zi:(k:Int)<S:=by omega
 unfold wP FG
 cases ro with
 | false=>
  have BX:decide ((T:Int)-1<((k:Nat):Int))= !decide (k<T):=by
   rw[<-decide_not];exact vz.2 (by omega)
  simp only[yC,xm];by_cases hd:decide (k<T)=gr
  .have hc:((!decide (k<T))==gr)=yda:=by rw[hd];cases gr<;>rfl
   rw[yD hd];generalize RT (kO (p k r-e))=y at*
   generalize RT (p k r+e)=y' at*
   generalize RT (p k r-e)=Zh at*
   generalize RT (p k r)=y3 at*
   cases ws with
   | nil=>
    rcases hf with rfl | rfl<;>
    .simp only [rh] at g0;simp only[go_sem,ya,yb,xq,yz,yk,yi,od,iU,rr,rh,rc,g0,bF,aT,yd,ye,yp,zi,e0,e1,e2,e3,BX,qj,jC,hc,mk,gF,gV];refine⟨_,rfl,?_⟩;rw[wrap64 (by omega) (by omega)];exact Cn (by simp only[go_sem,ya,yb]<;>rfl) rfl (fr.nw (k+1) _ _ _)
   | cons x ws=>
    simp only[yy] at p8;rcases hf with rfl | rfl<;>
    .simp only [rh] at g0;simp only[go_sem,ya,yb,yi,od,iU,rr,rh,rc,g0,bF,aT,yd,ye,yp,zi,e0,e1,e2,e3,BX,qj,jC,hc,mk,gF]
     rw[fP (ex:=yda) (pu:=ycZ) (sz:=1) (by simp only[go_sem,ya]<;>rfl) (by simp) (by omega) (by omega) (by decide) rfl]
     simp only[go_sem,ya,yb];refine⟨_,rfl,?_⟩;rw[wrap64 (by omega) (by omega)];rw[show ws.length+1+1=(ws++[AV.str y]).length+1 by simp];exact Cn (by simp only[go_sem,ya,yb]<;>rfl) rfl (fr.mr (k+1) _ _ _ _)
  .have hc:((!decide (k<T))==gr)=ycZ:=by cases hx:decide (k<T)<;>cases hy:gr<;>simp_all
   rw[yt hd];generalize RT (kO (p k r-e))=y at*
   generalize RT (p k r+e)=y' at*
   generalize RT (p k r-e)=Zh at*
   generalize RT (p k r)=y3 at*
   cases ws with
   | nil=>
    rcases hf with rfl | rfl<;>
    .simp only [rh] at g0;simp only[go_sem,ya,yb,xq,yz,yk,yi,od,iU,rr,rh,rc,g0,bF,aT,yd,ye,yp,zi,e0,e1,e2,e3,e4,BX,qj,jC,hc,mk,gF,gV];refine⟨_,rfl,?_⟩;rw[wrap64 (by omega) (by omega)];exact Cn (by simp only[go_sem,ya,yb]<;>rfl) rfl (fr.nw (k+1) _ _ _)
   | cons x ws=>
    simp only[yy] at p8;rcases hf with rfl | rfl<;>
    .simp only [rh] at g0;simp only[go_sem,ya,yb,yi,od,iU,rr,rh,rc,g0,bF,aT,yd,ye,yp,zi,e0,e1,e2,e3,e4,BX,qj,jC,hc,mk,gF]
     rw[fP (ex:=yda) (pu:=ycZ) (sz:=1) (by simp only[go_sem,ya]<;>rfl) (by simp) (by omega) (by omega) (by decide) rfl]
     simp only[go_sem,ya,yb];refine⟨_,rfl,?_⟩;rw[wrap64 (by omega) (by omega)];rw[show ws.length+1+1=(ws++[AV.str y']).length+1 by simp];exact Cn (by simp only[go_sem,ya,yb]<;>rfl) rfl (fr.mr (k+1) _ _ _ _)
 | true=>
  have BX:decide ((T:Int)-1<((r:Nat):Int))= !decide (r<T):=by
   rw[<-decide_not];exact vz.2 (by omega)
  simp only[xA];by_cases hd:decide (r<T)=gr
  .have hc:((!decide (r<T))==gr)=yda:=by rw[hd];cases gr<;>rfl
   rw[yD hd];generalize RT (kO (p k r-e))=y at*
   generalize RT (p k r+e)=y' at*
   generalize RT (p k r-e)=Zh at*
   generalize RT (p k r)=y3 at*
   cases ws with
   | nil=>
    rcases hf with rfl | rfl<;>
    .simp only [rh] at g0;simp only[go_sem,ya,yb,xq,yz,yk,yi,od,iU,rr,rh,rc,g0,bF,aT,yd,ye,yp,zi,e0,e1,e2,e3,BX,qj,jC,hc,mk,gF,gV];refine⟨_,rfl,?_⟩;rw[wrap64 (by omega) (by omega)];exact Cn (by simp only[go_sem,ya,yb]<;>rfl) rfl (fr.nw (k+1) _ _ _)
   | cons x ws=>
    simp only[yy] at p8;rcases hf with rfl | rfl<;>
    .simp only [rh] at g0;simp only[go_sem,ya,yb,yi,od,iU,rr,rh,rc,g0,bF,aT,yd,ye,yp,zi,e0,e1,e2,e3,BX,qj,jC,hc,mk,gF]
     rw[fP (ex:=yda) (pu:=ycZ) (sz:=1) (by simp only[go_sem,ya]<;>rfl) (by simp) (by omega) (by omega) (by decide) rfl]
     simp only[go_sem,ya,yb];refine⟨_,rfl,?_⟩;rw[wrap64 (by omega) (by omega)];rw[show ws.length+1+1=(ws++[AV.str y]).length+1 by simp];exact Cn (by simp only[go_sem,ya,yb]<;>rfl) rfl (fr.mr (k+1) _ _ _ _)
  .have hc:((!decide (r<T))==gr)=ycZ:=by cases hx:decide (r<T)<;>cases hy:gr<;>simp_all
   rw[yt hd];generalize RT (kO (p k r-e))=y at*
   generalize RT (p k r+e)=y' at*
   generalize RT (p k r-e)=Zh at*
   generalize RT (p k r)=y3 at*
   cases ws with
   | nil=>
    rcases hf with rfl | rfl<;>
    .simp only [rh] at g0;simp only[go_sem,ya,yb,xq,yz,yk,yi,od,iU,rr,rh,rc,g0,bF,aT,yd,ye,yp,zi,e0,e1,e2,e3,e4,BX,qj,jC,hc,mk,gF,gV];refine⟨_,rfl,?_⟩;rw[wrap64 (by omega) (by omega)];exact Cn (by simp only[go_sem,ya,yb]<;>rfl) rfl (fr.nw (k+1) _ _ _)
   | cons x ws=>
    simp only[yy] at p8;rcases hf with rfl | rfl<;>
    .simp only [rh] at g0;simp only[go_sem,ya,yb,yi,od,iU,rr,rh,rc,g0,bF,aT,yd,ye,yp,zi,e0,e1,e2,e3,e4,BX,qj,jC,hc,mk,gF]
     rw[fP (ex:=yda) (pu:=ycZ) (sz:=1) (by simp only[go_sem,ya]<;>rfl) (by simp) (by omega) (by omega) (by decide) rfl]
     simp only[go_sem,ya,yb];refine⟨_,rfl,?_⟩;rw[wrap64 (by omega) (by omega)];rw[show ws.length+1+1=(ws++[AV.str y']).length+1 by simp];exact Cn (by simp only[go_sem,ya,yb]<;>rfl) rfl (fr.mr (k+1) _ _ _ _)
def awA(h:AF P L){p:Nat->Nat->Rat}{Cv:AV}{F:Hp}{f:Nat}(hv:cF eJ v (gQ (dK p S S)))(kp:∀a b,a<S->b<S->Hq 429 (p a b))(ke:Hq 2400 e)(hS:S<=8)(hr:r<S)(hT:T<=100)(fr:Zg C R S v (RT e) ro gr b ((T:Int)-1) Cv r F f)(hf:f=1\/f=2):
  cZ P L [1,2,3,4,5,11,12,13,14,15,16] od (fun d st=>∃k,k+d=S/\st=⟨iU v (RT e) ro gr b ((T:Int)-1) Cv r (rr f (wR p e ro gr T S r k)) k,rh f F (wR p e ro gr T S r k),rc f (wR p e ro gr T S r k),0⟩) (fun ex s'=>∃tm ct,s'=⟨tm,rh f F (wR p e ro gr T S r S),ct,0⟩/\ex=.exit 4/\bm tm [1,2,3,4,5,11,12,13,14,15]=Ge v (RT e) ro gr b ((T:Int)-1) Cv r (rr f (wR p e ro gr T S r S))):=by
 apply c6;rintro d st ⟨k,R6,rfl⟩;by_cases hk:k<S
 .left
  obtain⟨s',q1,q2⟩:=awz h hv kp ke hS hr hk hT fr hf (ws:=wR p e ro gr T S r k) aeD;rw[<-asx] at q2;exact⟨s',d-1,q1,by omega,k+1,by omega,q2⟩
 .right
  have FE:k=S:=by omega
  subst FE;have g0:=fr.g0 (wR p e ro gr T k r k);simp only[go_sem,ya,od,iU,g0,bF,aT,yd,ye,yp,show ¬(k:Int)<k by omega];exact⟨_,_,rfl,by simp,_,_,rfl,rfl,by simp only[go_sem,ya]<;>rfl⟩
end
section
variable {S n:Nat}{c:Nat->Nat}
def Zi(c:Nat->Nat)(l m:Nat->Rat)(S n:Nat):Nat->List AV->List AV->Prop
 | 0,lo,hi=>lo=FH/\hi=FH
 | T+1,lo,hi=>∃a1 a2 a3 a4 b1 b2 b3 b4,lo=[a1,a2,a3,a4]/\hi=[b1,b2,b3,b4]/\bM (.agg lo) (dA c l m S n yda T)/\bM (.agg hi) (dA c l m S n ycZ T)
def asy{l m:Nat->Rat}{T:Nat}:dA c l m S n yda (T+1)=if jy c l m S n yda (T+1)<dA c l m S n yda T then jy c l m S n yda (T+1) else dA c l m S n yda T:=by
 rw[dA];by_cases h:dA c l m S n yda T<jy c l m S n yda (T+1)
 .rw [yt (by simp[h]),yt (tC.2 (Rat.le_of_lt h))]
 .rw [yD (by simp[h])];by_cases h2:jy c l m S n yda (T+1)<dA c l m S n yda T
  .rw [yD h2]
  .rw [yt h2];exact Rat.le_antisymm (tC.1 h) (tC.1 h2)
def asz{l m:Nat->Rat}{T:Nat}:dA c l m S n ycZ (T+1)=if dA c l m S n ycZ T<jy c l m S n ycZ (T+1) then jy c l m S n ycZ (T+1) else dA c l m S n ycZ T:=by
 rw[dA];by_cases h:dA c l m S n ycZ T<jy c l m S n ycZ (T+1)
 .rw [yD (by simp[h]),yD h]
 .rw [yt (by simp[h]),yt h]
section
variable {c:Nat->Nat}{l m:Nat->Rat}{S n:Nat}(u:Bool)(kl:∀t,t<n->Hq 3000 (l t))(km:∀t,t<n->Hq 3000 (m t))(hn:n<=64)(hS:S<=8)(hc:∀t,t<n->c t<S)
include kl km hn hS hc
theorem Ky(T:Nat):Hq 600000 (jy c l m S n u T):=by
 obtain⟨k1,k2⟩:=KS u T kl km hn hS hc (yu n);exact (k2.div k1).mono (by decide)
theorem GO:∀T,Hq 600000 (dA c l m S n u T)
 | 0=>Ky u kl km hn hS hc 0
 | T+1=>by
  rw[dA];by_cases h:decide (dA c l m S n u T<jy c l m S n u (T+1))=u
  .rw [yD h];exact Ky u kl km hn hS hc _
  .rw [yt h];exact GO T
end
def awB{a1 a2 a3 a4 b1 b2 b3 b4:AV}(g:F4 a1 a2 a3 a4)(k:F4 b1 b2 b3 b4)(hp:Hp):result hp (.aw [.agg [a1,a2,a3,a4],.agg [b1,b2,b3,b4]])=FL (.aw [.agg [a1,a2,a3,a4],.agg [b1,b2,b3,b4]]):=by
 have e1:=g.ai 980 hp;have e2:=k.ai 980 hp;simp only[yb] at e1 e2;simp only[result,OP,g.pu,k.pu,yx,DS,qO,deep,e1,e2]
def Cz(C R S:Int)(lo hi:List AV):Hp:=[(2,.cells ycZ ycZ ycZ 4 hi),(1,.cells ycZ ycZ ycZ 4 lo),(0,bF C R S)]
def awC(h:Ext P L){va vl vm:AV}{l m:Nat->Rat}{C R:Nat}(ni:bi va ((xx n).map fun t=>((c t:Nat):Int)))(mY:jS vl ((xx n).map l))(nT:jS vm ((xx n).map m))(hn:n<=64)(hS:S<=8)(hc:∀t,t<n->c t<S)(kl:∀t,t<n->Hq 3000 (l t))(km:∀t,t<n->Hq 3000 (m t))(h0:∀u T,T<=S->bf (lz c l m u T) n≠0):
  cZ P L [1,2,3,4,8,9,10,11] Kj (fun d st=>∃T lo hi,T+d=S+1/\Zi c l m S n T lo hi/\st=⟨nA va vl vm (decide (0<T)) ((T:Int)-1),Cz C R S lo hi,3,0⟩) (fun ex s'=>∃tm ct lo hi,s'=⟨tm,Cz C R S lo hi,ct,0⟩/\ex=.exit 0/\Zi c l m S n (S+1) lo hi/\bm tm [8,9]=[(8,.ptr 1 0),(9,.ptr 2 0)]):=by
 apply c6;rintro d st ⟨T,lo,hi,hid,hB,rfl⟩;have hlen:((xx n).map fun t=>((c t:Nat):Int)).length=n:=by simp
 by_cases hT:T<S+1
 .left
  have Zj:(T:Int)-1<S:=by omega
  obtain⟨z,e0,hz⟩:=Fu h.toFr' (z:=0) (by omega) (by omega);have dc:=hz;obtain⟨z1,z2,z3,z4,rfl,gz⟩:=hz.gen;have p7:Mo [z1,z2,z3,z4,z1,z2,z3,z4,z1,z2,z3,z4] 0 0 0:=⟨_,_,_,_,_,_,_,_,_,_,_,_,rfl,dc,dc,dc⟩;have aBx:=fun hp ct id (N:List AV) (hN:N.length=12)=>aA8 p7 hp ct id hN
  have aZ:cd [z1,z2,z3,z4]=ycZ:=gz.o;have hp0:cd [AV.int .i64 0,.ah,.int .i64 0,.ah,.int .i64 0,.ah,.int .i64 0,.ah,.int .i64 0,.ah,.int .i64 0,.ah]=ycZ:=rfl;have aBy:aG [AV.int .i64 0,.ah,.int .i64 0,.ah,.int .i64 0,.ah,.int .i64 0,.ah,.int .i64 0,.ah,.int .i64 0,.ah]=ycZ:=rfl;have key:=fun fo lo hi=>awy (C:=C) (R:=R) (T:=T) (fo:=fo) (lo:=lo) (hi:=hi) h ni mY nT hn hS (by omega) hc kl km
  unfold ab at e0
  suffices hh:∃s' lj cL,_=FL (Ex.normal,s')/\Zi c l m S n (T+1) lj cL/\bk [1,2,3,4,8,9,10,11] s'=⟨nA va vl vm ycZ ((T+1:Nat)-1:Int),Cz C R S lj cL,3,0⟩ by
   obtain⟨s',lj,cL,q1,q2,q3⟩:=hh;refine⟨s',d-1,q1,by omega,T+1,lj,cL,by omega,q2,?_⟩;rw[q3,y8 (show 0<T+1 by omega)]
  simp only[go_sem,ya,yb,yk,Kj,nA,Cz,bF,aT,yd,ye,yp,Zj,aQ,hp0,aBy,aZ,List.take_zero,yG,List.take_succ_cons,ym,e0,bz,qJ,over,aBx,ni.len,hlen];generalize hq:D P L (.loop _ Gx) _=q;obtain⟨ex,st,rfl,tm,ct,M,N,rfl,rfl,hM,hN,iP⟩:=bH hq (key (decide (0<T)) lo hi n) ⟨0,_,_,by omega,p7,p7,by
   simp only[go_sem,ya,yb,ap,GN,og,bF,az ni.pu,az mY.pu,az nT.pu]<;>rfl⟩
  have cO:∀ct,bk [1,2,3,4,8,9,10,11,12,13] ⟨tm,og C R S lo hi M N,ct,0⟩=⟨nA va vl vm (decide (0<T)) ((T:Int)-1)++[(12,.ptr 3 0),(13,.ptr 4 0)],og C R S lo hi M N,5,0⟩:=fun ct=>by
   refine ybj (Nk (c':=ct) (tm':=nA va vl vm (decide (0<T)) ((T:Int)-1)++[(12,.ptr 3 0),(13,.ptr 4 0)]) (by rw[iP];rfl)) ?_
   simp only[go_sem,ya,yb,ap,nA,og,bF,ym,yG,az ni.pu,az mY.pu,az nT.pu]<;>rfl
  obtain⟨a1,a2,a3,a4,a5,a6,a7,a8,a9,qg,qh,a12,rfl,hf,hg,_⟩:=hM;obtain⟨b1,b2,b3,b4,b5,b6,b7,b8,b9,b10,R4,Y7,rfl,nK,AD,_⟩:=hN;have gf:=hf.f4;have gg:=hg.f4;have DF:=nK.f4;have DG:=AD.f4;have kM:=KS (i:=n) ycZ T kl km hn hS hc (by omega);have kN:=KS (i:=n) yda T kl km hn hS hc (by omega);obtain⟨x,e1,hx⟩:=YQ h.toFr' hg hf (h0 ycZ T (by omega)) kM.2 kM.1 (by decide);obtain⟨y,e2,hy⟩:=YQ h.toFr' AD nK (h0 yda T (by omega)) kN.2 kN.1 (by decide);have hx:bM x (jy c l m S n ycZ T):=hx;have hy:bM y (jy c l m S n yda T):=hy;have kx:=Ky ycZ kl km hn hS hc T;have ky:=Ky yda kl km hn hS hc T;have mZ:=hx;have fV:=hy;obtain⟨x1,x2,x3,x4,rfl,gx⟩:=hx.gen;obtain⟨y1,y2,y3,y4,rfl,gy⟩:=hy.gen;have gz0:cd FH=ycZ:=rfl;unfold ab at e1 e2;have wT:IntKind.wrap .i64 ((T:Int)-1+1)=((T+1:Nat)-1:Int):=by rw[wrap64 (by omega) (by omega)];omega
  cases T with
  | zero=>
   obtain⟨rfl,rfl⟩:=hB;have hd:decide (0<0)=yda:=rfl;rw[hd] at cO;simp only[go_sem,yb,cO];simp only[go_sem,ya,yb,nA,og,bF,FH,aT,yd,ye,yp,ym,yG,iC,gg.ai,gf.ai,e1,bz,DG.ai,DF.ai,e2,aQ,gx.st,gy.st,wT];refine⟨_,_,_,rfl,⟨_,_,_,_,_,_,_,_,rfl,rfl,fV,mZ⟩,?_⟩;simp only[go_sem,ya,yb,ap,az ni.pu,az mY.pu,az nT.pu]<;>rfl
  | succ T=>
   obtain⟨l1,l2,l3,l4,m1,m2,m3,m4,rfl,rfl,bc,eU⟩:=hB;have hd:decide (0<T+1)=ycZ:=y8 (by omega);have kh:=GO ycZ kl km hn hS hc T;have ko:=GO yda kl km hn hS hc T;have e3:=m71 h.toFr' mZ eU kx kh (by decide);have e4:=m71 h.toFr' fV bc ky ko (by decide);have c3:=adD (jy c l m S n ycZ (T+1)) (dA c l m S n ycZ T);have c4:=ar5 (jy c l m S n yda (T+1)) (dA c l m S n yda T);have gl:=bc.f4;have gm:=eU.f4;unfold ab at e3 e4;rw[hd] at cO;have q1:=asz (c:=c) (l:=l) (m:=m) (S:=S) (n:=n) (T:=T);have q2:=asy (c:=c) (l:=l) (m:=m) (S:=S) (n:=n) (T:=T);by_cases d1:dA c l m S n ycZ T<jy c l m S n ycZ (T+1)<;>by_cases d2:jy c l m S n yda (T+1)<dA c l m S n yda T
   .rw [y8 d1] at c3;rw[y8 d2] at c4;rw[yD d1] at q1;rw[yD d2] at q2;simp only[go_sem,cO];simp only[go_sem,ya,yb,nA,og,bF,aT,yd,ye,yp,ym,yG,iC,gg.ai,gf.ai,e1,bz,DG.ai,DF.ai,e2,aQ,gx.st,gy.st,gx.ai,gy.ai,gl.ai,gm.ai,e3,e4,c3,c4,wT];refine⟨_,_,_,rfl,⟨_,_,_,_,_,_,_,_,rfl,rfl,by rw[q2];exact fV,by rw[q1];exact mZ⟩,?_⟩
    simp only[go_sem,ya,yb,ap,az ni.pu,az mY.pu,az nT.pu]<;>rfl
   .rw [y8 d1] at c3;rw[yQ d2] at c4;rw[yD d1] at q1;rw[yt d2] at q2;simp only[go_sem,cO];simp only[go_sem,ya,yb,nA,og,bF,aT,yd,ye,yp,ym,yG,iC,gg.ai,gf.ai,e1,bz,DG.ai,DF.ai,e2,aQ,gx.st,gy.st,gx.ai,gy.ai,gl.ai,gm.ai,e3,e4,c3,c4,wT];refine⟨_,_,_,rfl,⟨_,_,_,_,_,_,_,_,rfl,rfl,by rw[q2];exact bc,by rw[q1];exact mZ⟩,?_⟩
    simp only[go_sem,ya,yb,ap,az ni.pu,az mY.pu,az nT.pu]<;>rfl
   .rw [yQ d1] at c3;rw[y8 d2] at c4;rw[yt d1] at q1;rw[yD d2] at q2;simp only[go_sem,cO];simp only[go_sem,ya,yb,nA,og,bF,aT,yd,ye,yp,ym,yG,iC,gg.ai,gf.ai,e1,bz,DG.ai,DF.ai,e2,aQ,gx.st,gy.st,gx.ai,gy.ai,gl.ai,gm.ai,e3,e4,c3,c4,wT];refine⟨_,_,_,rfl,⟨_,_,_,_,_,_,_,_,rfl,rfl,by rw[q2];exact fV,by rw[q1];exact eU⟩,?_⟩
    simp only[go_sem,ya,yb,ap,az ni.pu,az mY.pu,az nT.pu]<;>rfl
   .rw [yQ d1] at c3;rw[yQ d2] at c4;rw[yt d1] at q1;rw[yt d2] at q2;simp only[go_sem,cO];simp only[go_sem,ya,yb,nA,og,bF,aT,yd,ye,yp,ym,yG,iC,gg.ai,gf.ai,e1,bz,DG.ai,DF.ai,e2,aQ,gx.st,gy.st,gx.ai,gy.ai,gl.ai,gm.ai,e3,e4,c3,c4,wT];refine⟨_,_,_,rfl,⟨_,_,_,_,_,_,_,_,rfl,rfl,by rw[q2];exact bc,by rw[q1];exact eU⟩,?_⟩
    simp only[go_sem,ya,yb,ap,az ni.pu,az mY.pu,az nT.pu]<;>rfl
 .right
  have Zk:T=S+1:=by omega
  subst Zk;simp only[go_sem,ya,Kj,nA,Cz,bF,aT,yd,ye,yp,show ¬((S+1:Nat):Int)-1<S by omega];exact⟨_,_,rfl,by simp,_,_,lo,hi,rfl,rfl,hB,by simp only[go_sem,ya]<;>rfl⟩
def ahU(h:Ext P L){va vl vm:AV}{l m:Nat->Rat}{C R:Nat}(ni:bi va ((xx n).map fun t=>((c t:Nat):Int)))(mY:jS vl ((xx n).map l))(nT:jS vm ((xx n).map m))(hn:n<=64)(hS:S<=8)(hc:∀t,t<n->c t<S)(kl:∀t,t<n->Hq 3000 (l t))(km:∀t,t<n->Hq 3000 (m t))(h0:∀u T,T<=S->bf (lz c l m u T) n≠0):
  ∃x y,ab P L 693 [.agg [aa C,aa R,aa S],va,vl,vm] (.aw [x,y])/\bM x (dA c l m S n yda S)/\bM y (dA c l m S n ycZ S):=by
 have key:=awC (C:=C) (R:=R) h ni mY nT hn hS hc kl km h0;have oM:∀ct,lH ct 4 [AV.int .i64 0,.ah,.int .i64 0,.ah]=FL (.ptr ct 0,.cells ycZ ycZ ycZ 4 FH):=fun _=>rfl
 suffices hh:∃a1 a2 a3 a4 b1 b2 b3 b4,ab P L 693 [.agg [aa C,aa R,aa S],va,vl,vm] (.aw [.agg [a1,a2,a3,a4],.agg [b1,b2,b3,b4]])/\bM (.agg [a1,a2,a3,a4]) (dA c l m S n yda S)/\bM (.agg [b1,b2,b3,b4]) (dA c l m S n ycZ S) by
  obtain⟨_,_,_,_,_,_,_,_,q1,q2,q3⟩:=hh;exact⟨_,_,q1,q2,q3⟩
 unfold ab;rw[aE h.aBu];simp only[go_sem,yb,Wj,ib,oM];generalize hq:D P L (.loop _ Kj) _=q;obtain⟨ex,st,rfl,tm,ct,lo,hi,rfl,rfl,hB,iP⟩:=bH hq (key (S+1)) ⟨0,FH,FH,by omega,⟨rfl,rfl⟩,by
  simp only[go_sem,ya,yb,yz,ap,nA,Cz,bF,az ni.pu,az mY.pu,az nT.pu]<;>rfl⟩
 obtain⟨a1,a2,a3,a4,b1,b2,b3,b4,rfl,rfl,bc,eU⟩:=hB;have cO:∀ct,bk [8,9] ⟨tm,Cz C R S [a1,a2,a3,a4] [b1,b2,b3,b4],ct,0⟩=⟨[(8,.ptr 0 0),(9,.ptr 1 0)],[(1,.cells ycZ ycZ ycZ 4 [b1,b2,b3,b4]),(0,.cells ycZ ycZ ycZ 4 [a1,a2,a3,a4])],2,0⟩:=fun ct=>by
  refine ybj (Nk (c':=ct) (tm':=[(8,.ptr 1 0),(9,.ptr 2 0)]) (by rw[iP];rfl)) ?_
  simp only[go_sem,ya,yb,ap,Cz,bF]<;>rfl
 have gl:=bc.f4;have gm:=eU.f4;refine⟨a1,a2,a3,a4,b1,b2,b3,b4,?_,bc,eU⟩;simp only[go_sem,ya,cO,GG,GH,Gb,F1,wL,O2 (show 1≠0 by decide),ye,iC,gl.st,gm.st,cI,cJ,awB gl gm]
end
section
variable {v:AV}{gr ro:Bool}{b:List Nat}{S T:Nat}{e:Rat}
noncomputable def FI(p:Nat->Nat->Rat)(e:Rat)(ro gr:Bool)(T S r:Nat):AV:=.au yda S (wR p e ro gr T S r S)
noncomputable def wW(p:Nat->Nat->Rat)(e:Rat)(ro gr:Bool)(T S n:Nat):List AV:=(xx n).map fun r=>FI p e ro gr T S r
def aeE{p:Nat->Nat->Rat}{n:Nat}:(wW p e ro gr T S n).length=n:=by simp[wW]
def adS{p:Nat->Nat->Rat}{n:Nat}:wW p e ro gr T S (n+1)=wW p e ro gr T S n++[FI p e ro gr T S n]:=by simp[wW,vd]
def awD{p:Nat->Nat->Rat}{r:Nat}:eJ (FI p e ro gr T S r) ((iY (wP p e ro gr T) S S r).map RT):=by
 have h:=JJ yda ((iY (wP p e ro gr T) S S r).map RT)
 rwa[yU,Jz] at h
def aeF{p:Nat->Nat->Rat}{e:Rat}{ro gr:Bool}{T S:Nat}:∀n,jP eJ (wW p e ro gr T S n) (gQ (dK (wP p e ro gr T) S n))
 | 0=>trivial
 | n+1=>by
  have ih:=aeF (p:=p) (e:=e) (ro:=ro) (gr:=gr) (T:=T) (S:=S) n;rw[adS];unfold gQ at ih ⊢;rw[Tj,xb];exact ih.snoc awD
def ayt{p:Nat->Nat->Rat}:cF eJ (.au yda S (wW p e ro gr T S S)) (gQ (dK (wP p e ro gr T) S S)):=by
 have:=Of yda (aeF (p:=p) (e:=e) (ro:=ro) (gr:=gr) (T:=T) (S:=S) S)
 rwa[Gd,F5] at this
def A2(v:AV)(s:List Nat)(ro gr:Bool)(b:List Nat)(z:Int)(Cv:AV)(r:Nat):Env:=[(1,v),(2,.str s),(3,.bool ro),(4,.bool gr),(5,.ptr 0 0),(11,.str b),(12,aa z),(13,Cv),(14,aa r)]
def AU(v:AV)(s:List Nat)(ro gr:Bool)(b:List Nat)(z:Int)(Cv:AV):Env:=[(1,v),(2,.str s),(3,.bool ro),(4,.bool gr),(5,.ptr 0 0),(11,.str b),(12,aa z),(13,Cv)]
def GP(v:AV)(s:List Nat)(ro gr:Bool)(b:List Nat)(z:Int):Env:=[(1,v),(2,.str s),(3,.bool ro),(4,.bool gr),(5,.ptr 0 0),(11,.str b),(12,aa z)]
def awE(h:AF P L){p:Nat->Nat->Rat}{C R:Int}{r:Nat}{W:List AV}(hv:cF eJ v (gQ (dK p S S)))(kp:∀a b,a<S->b<S->Hq 429 (p a b))(ke:Hq 2400 e)(hS:S<=8)(hr:r<S)(hT:T<=100)(hW:W.length=r):
  ∃s',D P L Ee ⟨A2 v (RT e) ro gr b ((T:Int)-1) (rr 1 W) r,rh 1 [(0,bF C R S)] W,rc 1 W,0⟩=FL (.normal,s')/\bk [1,2,3,4,5,11,12,13,14] s'=⟨A2 v (RT e) ro gr b ((T:Int)-1) (rr 1 (W++[FI p e ro gr T S r])) (r+1),rh 1 [(0,bF C R S)] (W++[FI p e ro gr T S r]),rc 1 (W++[FI p e ro gr T S r]),0⟩:=by
 obtain⟨fr,hf⟩:=fr9 (C:=C) (R:=R) (S:=S) hv.pu (RT e) ro gr b ((T:Int)-1) r W;have key:=awA h hv kp ke hS hr hT fr hf;have hz:=(fr.l0 [] 0);have pv:=hv.pu;have mX:(r:Int)<S:=by omega
 have hl:=aeD (p:=p) (e:=e) (ro:=ro) (gr:=gr) (T:=T) (S:=S) (r:=r) (n:=S);have lU:wR p e ro gr T S r 0=[]:=rfl;unfold FI
 cases W with
 | nil=>
  simp only[rr,rh,rc] at key hz fr;simp only[A2,rr,rh,rc,bF];simp only[go_sem,ya,yb,Ee,aT,yd,ye,yp,mX];generalize hq:D P L (.loop _ od) _=q;obtain⟨ex,st,rfl,tm,ct,rfl,rfl,iP⟩:=bH hq (key S) ⟨0,by omega,by
   rw[lU];exact OK (by simp only[go_sem,ya]<;>rfl) hz⟩
  have cO:=fun c=>OK (c:=c) iP (fr.l1 (wR p e ro gr T S r S))
  generalize wR p e ro gr T S r S=A at*
  cases A with
  | nil=>simp only[yJ] at hl;omega
  | cons a A=>
   have fA:=fun hp=>kR (hp:=hp) (sz:=1) (k:=S) yda (show (a::A).length=S*1 by omega) (by decide)
   simp only[yy] at hl;simp only[rh,rc,hl,bF,Ge] at cO;simp only[go_sem,ya,yb,xq,yz,yk,yi,cO,bF,fA,mE,gF,gV];refine⟨_,rfl,?_⟩;rw[wrap64 (by omega) (by omega)];simp only[go_sem,ya,yb,ap,yG,az pv]<;>rfl
 | cons w W=>
  simp only[yy] at hW;simp only[rr,rh,rc] at key hz fr;simp only[A2,rr,rh,rc,bF];simp only[go_sem,ya,yb,Ee,aT,yd,ye,yp,mX];generalize hq:D P L (.loop _ od) _=q;obtain⟨ex,st,rfl,tm,ct,rfl,rfl,iP⟩:=bH hq (key S) ⟨0,by omega,by
   rw[lU];exact OK (by simp only[go_sem,ya]<;>rfl) hz⟩
  have cO:=fun c=>OK (c:=c) iP (fr.l1 (wR p e ro gr T S r S))
  generalize wR p e ro gr T S r S=A at*
  cases A with
  | nil=>simp only[yJ] at hl;omega
  | cons a A=>
   have fA:=fun hp=>kR (hp:=hp) (sz:=1) (k:=S) yda (show (a::A).length=S*1 by omega) (by decide)
   simp only[yy] at hl;simp only[rh,rc,hl,bF,Ge] at cO;simp only[go_sem,ya,yb,yk,yi,cO,bF,fA,mE,gF]
   rw[fP (ex:=yda) (pu:=ycZ) (sz:=1) (by simp only[go_sem,ya]<;>rfl) (by simp) (by omega) (by omega) (by decide) rfl]
   simp only[go_sem,ya,yb];refine⟨_,rfl,?_⟩;rw[wrap64 (by omega) (by omega)];simp only[go_sem,ya,yb,ap,ym,yN,az pv]<;>rfl
def awF(h:AF P L){p:Nat->Nat->Rat}{C R:Int}(hv:cF eJ v (gQ (dK p S S)))(kp:∀a b,a<S->b<S->Hq 429 (p a b))(ke:Hq 2400 e)(hS:S<=8)(hT:T<=100):
  cZ P L [1,2,3,4,5,11,12,13,14] Ee (fun d st=>∃r,r+d=S/\st=⟨A2 v (RT e) ro gr b ((T:Int)-1) (rr 1 (wW p e ro gr T S r)) r,rh 1 [(0,bF C R S)] (wW p e ro gr T S r),rc 1 (wW p e ro gr T S r),0⟩) (fun ex s'=>∃tm ct,s'=⟨tm,rh 1 [(0,bF C R S)] (wW p e ro gr T S S),ct,0⟩/\ex=.exit 2/\bm tm [1,2,3,4,5,11,12,13]=AU v (RT e) ro gr b ((T:Int)-1) (rr 1 (wW p e ro gr T S S))):=by
 apply c6;rintro d st ⟨r,fE,rfl⟩;by_cases hr:r<S
 .left
  obtain⟨s',q1,q2⟩:=awE h (C:=C) (R:=R) (b:=b) (ro:=ro) (gr:=gr) hv kp ke hS hr hT (W:=wW p e ro gr T S r) aeE;rw[<-adS] at q2;exact⟨s',d-1,q1,by omega,r+1,by omega,q2⟩
 .right
  have FF:r=S:=by omega
  subst FF;have g0:ak (rh 1 [(0,bF C R r)] (wW p e ro gr T r r)) 0=FL (bF C R r):=by cases wW p e ro gr T r r<;>rfl
  generalize rh 1 [(0,bF C R r)] (wW p e ro gr T r r)=H at*
  simp only[go_sem,ya,Ee,A2,g0,bF,aT,yd,ye,yp,show ¬(r:Int)<r by omega];exact⟨_,_,rfl,by simp,_,_,rfl,rfl,by simp only[go_sem,ya]<;>rfl⟩
noncomputable def zj(p:Nat->Nat->Rat)(e:Rat)(S:Nat)(ro gr:Bool):Nat->List Nat
 | 0=>[]
 | T+1=>RT (dA (fO S ro) (cC p e S) (gE p e S) S (S*S) gr T)
def awG(h:AF P L){p:Nat->Nat->Rat}{C R:Nat}(hv:cF eJ v (gQ (dK p S S)))(kp:∀a b,a<S->b<S->Hq 429 (p a b))(ke:Hq 2400 e)(hS:S<=8)(nh:0<S)(hT:T<S+1)(h0:kE (dK (wP p e ro gr T) S S)≠0):
  ∃s',D P L GA ⟨GP v (RT e) ro gr (zj p e S ro gr T) ((T:Int)-1),[(0,bF C R S)],1,0⟩=FL (.normal,s')/\bk [1,2,3,4,5,11,12] s'=⟨GP v (RT e) ro gr (zj p e S ro gr (T+1)) (((T+1:Nat):Int)-1),[(0,bF C R S)],1,0⟩:=by
 have key:=awF h (C:=C) (R:=R) (T:=T) (b:=zj p e S ro gr T) (ro:=ro) (gr:=gr) hv kp ke hS (by omega);have lU:wW p e ro gr T S 0=[]:=rfl;have hl:=aeE (p:=p) (e:=e) (ro:=ro) (gr:=gr) (T:=T) (S:=S) (n:=S);have hwi:=ayt (p:=p) (e:=e) (ro:=ro) (gr:=gr) (T:=T) (S:=S);have kw:∀a b,a<S->b<S->Hq 3000 (wP p e ro gr T a b):=fun a b ha hb=>aBv (kp a b ha hb) ke
 have e1:=aBq h.toRx h.L3 h.Xz h.E3 h.z8 (C:=C) (R:=R) hS (yu 3000) kw hwi h0;have hex:=ays (p:=p) (e:=e) (ro:=ro) (gr:=gr) (S:=S) (T:=T);obtain⟨kl,km⟩:=Q4 kp ke;have AG:S*S<=64:=xf hS hS;have kx:=Ky gr kl km AG hS (fun t ht=>GM (ro:=ro) ht) T;have pv:=hv.pu;have fz:=z7;have Zj:(T:Int)-1<S:=by omega
 have wT:IntKind.wrap .i64 ((T:Int)-1+1)=((T+1:Nat):Int)-1:=by rw[wrap64 (by omega) (by omega)];omega
 have qj:∀a b:Bool,jr .b (.bool a) (.bool b)=FL (a==b):=fun _ _=>rfl
 have jC:∀a:Bool,Bo yda (FL a)=FL (.bool a):=fun a=>by cases a<;>rfl
 have aBz:∀(tm:Env) (c:Nat),bm tm [1,2,3,4,5,11,12,13,14]=A2 v (RT e) ro gr (zj p e S ro gr T) ((T:Int)-1) .ah 0->bk [1,2,3,4,5,11,12,13,14] ⟨tm,[(0,bF C R S)],c,0⟩=⟨A2 v (RT e) ro gr (zj p e S ro gr T) ((T:Int)-1) .ah 0,[(0,bF C R S)],1,0⟩:=fun tm c hk=>by
  rw[ap,hk];simp only[go_sem,yb,A2,bF,az pv]<;>rfl
 simp only[GP,bF];simp only[go_sem,ya,GA,aT,yd,ye,yp,Zj];generalize hq:D P L (.loop _ Ee) _=q;obtain⟨ex,st,rfl,tm,ct,rfl,rfl,iP⟩:=bH hq (key S) ⟨0,by omega,by
  rw[lU];exact aBz _ _ (by simp only[go_sem,ya]<;>rfl)⟩
 have fW:=fun hp=>kR (hp:=hp) (sz:=1) (k:=S) yda (show (wW p e ro gr T S S).length=S*1 by omega) (by decide)
 generalize wW p e ro gr T S S=W at*
 cases W with
 | nil=>simp only[yJ] at hl;omega
 | cons w W=>
  simp only[yy] at hl;have cO:∀c,bk [1,2,3,4,5,11,12,13] ⟨tm,rh 1 [(0,bF C R S)] (w::W),c,0⟩=⟨AU v (RT e) ro gr (zj p e S ro gr T) ((T:Int)-1) (.ax 1 0 S),[(1,.cells ycZ ycZ yda 1 (w::W)),(0,bF C R S)],2,0⟩:=fun c=>by
   rw[ap,iP];simp only[rr,rh,hl];simp only[go_sem,ya,yb,AU,bF,az pv]<;>rfl
  unfold ab at e1;have Hw:∀a b:AV,GR 2 1 yda 0 (.agg [a,b])=FL a:=fun _ _=>rfl
  have XC:∀a b:AV,GR 2 1 yda 1 (.agg [a,b])=FL b:=fun _ _=>rfl
  cases T with
  | zero=>
   have jf:zj p e S ro gr (0+1)=RT (jy (fO S ro) (cC p e S) (gE p e S) S (S*S) gr 0):=rfl;rw[jf,<-hex];have hd:decide (((0:Nat):Int)-1= -1)=ycZ:=rfl
   cases ro with
   | false=>
    rw[yt (show ¬(yda=ycZ) by decide)];simp only[go_sem,yb,cO];simp only[go_sem,ya,yb,AU,bF,ye,fj,fz,fW,e1,hd,Hw,wT];refine⟨_,rfl,?_⟩;simp only[go_sem,ya,yb,ap,az pv]<;>rfl
   | true=>
    rw[yD rfl];simp only[go_sem,yb,cO];simp only[go_sem,ya,yb,AU,bF,ye,fj,fz,fW,e1,hd,Hw,XC,wT];refine⟨_,rfl,?_⟩;simp only[go_sem,ya,yb,ap,az pv]<;>rfl
  | succ T=>
   have hd:decide (((T+1:Nat):Int)-1= -1)=yda:=yQ (by omega);have ko:=GO gr kl km AG hS (fun t ht=>GM (ro:=ro) ht) T;have e2:=af4 h.toRp h.sH kx ko (by decide);have c2:=adD (jy (fO S ro) (cC p e S) (gE p e S) S (S*S) gr (T+1)) (dA (fO S ro) (cC p e S) (gE p e S) S (S*S) gr T);have dC:zj p e S ro gr (T+1)=RT (dA (fO S ro) (cC p e S) (gE p e S) S (S*S) gr T):=rfl;have jf:zj p e S ro gr (T+1+1)=RT (dA (fO S ro) (cC p e S) (gE p e S) S (S*S) gr (T+1)):=rfl;rw[dC] at cO;rw[jf,dA];unfold ab at e2;rw[<-hex] at e2 c2 ⊢
   cases ro with
   | false=>
    rw[yt (show ¬(yda=ycZ) by decide)] at e2 c2 ⊢;by_cases fB:decide (dA (fO S yda) (cC p e S) (gE p e S) S (S*S) gr T<bf (cX (wP p e yda gr (T+1)) S) (S*S)/kE (dK (wP p e yda gr (T+1)) S S))=gr
    .have hc:(decide (dA (fO S yda) (cC p e S) (gE p e S) S (S*S) gr T<bf (cX (wP p e yda gr (T+1)) S) (S*S)/kE (dK (wP p e yda gr (T+1)) S S))==gr)=ycZ:=by rw[fB];cases gr<;>rfl
     rw[yD fB];simp only[go_sem,cO];simp only[go_sem,ya,AU,bF,ye,fj,fz,fW,e1,hd,Hw,e2,c2,qj,jC,hc,wT];refine⟨_,rfl,?_⟩;simp only[go_sem,ya,yb,ap,az pv]<;>rfl
    .have hc:(decide (dA (fO S yda) (cC p e S) (gE p e S) S (S*S) gr T<bf (cX (wP p e yda gr (T+1)) S) (S*S)/kE (dK (wP p e yda gr (T+1)) S S))==gr)=yda:=by simpa using fB
     rw[yt fB];simp only[go_sem,cO];simp only[go_sem,ya,AU,bF,ye,fj,fz,fW,e1,hd,Hw,e2,c2,qj,jC,hc,wT];refine⟨_,rfl,?_⟩;simp only[go_sem,ya,yb,ap,az pv]<;>rfl
   | true=>
    rw[yD (show ycZ=ycZ from rfl)] at e2 c2 ⊢;by_cases fB:decide (dA (fO S ycZ) (cC p e S) (gE p e S) S (S*S) gr T<bf (cY (wP p e ycZ gr (T+1)) S) (S*S)/kE (dK (wP p e ycZ gr (T+1)) S S))=gr
    .have hc:(decide (dA (fO S ycZ) (cC p e S) (gE p e S) S (S*S) gr T<bf (cY (wP p e ycZ gr (T+1)) S) (S*S)/kE (dK (wP p e ycZ gr (T+1)) S S))==gr)=ycZ:=by rw[fB];cases gr<;>rfl
     rw[yD fB];simp only[go_sem,cO];simp only[go_sem,ya,AU,bF,ye,fj,fz,fW,e1,hd,Hw,XC,e2,c2,qj,jC,hc,wT];refine⟨_,rfl,?_⟩;simp only[go_sem,ya,yb,ap,az pv]<;>rfl
    .have hc:(decide (dA (fO S ycZ) (cC p e S) (gE p e S) S (S*S) gr T<bf (cY (wP p e ycZ gr (T+1)) S) (S*S)/kE (dK (wP p e ycZ gr (T+1)) S S))==gr)=yda:=by simpa using fB
     rw[yt fB];simp only[go_sem,cO];simp only[go_sem,ya,AU,bF,ye,fj,fz,fW,e1,hd,Hw,XC,e2,c2,qj,jC,hc,wT];refine⟨_,rfl,?_⟩;simp only[go_sem,ya,yb,ap,az pv]<;>rfl
def aBA(h:AF P L){p:Nat->Nat->Rat}{C R:Nat}(hv:cF eJ v (gQ (dK p S S)))(kp:∀a b,a<S->b<S->Hq 429 (p a b))(ke:Hq 2400 e)(hS:S<=8)(nh:0<S)(h0:∀T,T<=S->kE (dK (wP p e ro gr T) S S)≠0):
  ab P L 792 [.agg [aa C,aa R,aa S],v,.str (RT e),.bool ro,.bool gr] (.str (RT (dA (fO S ro) (cC p e S) (gE p e S) S (S*S) gr S))):=by
 have pv:=hv.pu;have key:=iA P L [1,2,3,4,5,11,12] GA
  (fun d st=>∃T:Nat,T+d=S+1/\st=⟨GP v (RT e) ro gr (zj p e S ro gr T) ((T:Int)-1),[(0,bF C R S)],1,0⟩)
  (fun ex st=>∃tm ct,st=⟨tm,[(0,bF C R S)],ct,0⟩/\ex=.exit 0/\aj tm 11=.str (zj p e S ro gr (S+1))) ?_
 .unfold ab;rw[aE h.aBw];simp only[go_sem,yb,Wo,ib];generalize hq:D P L (.loop _ GA) _=q;obtain⟨ex,st,rfl,tm,ct,rfl,rfl,t11⟩:=bH hq (key (S+1)) ⟨0,by omega,by simp only[go_sem,ya,yb,ap,GP,bF,az pv]<;>rfl⟩
  simp only[go_sem,ap,bF,t11];rfl
 .rintro d st ⟨T,hTd,rfl⟩;by_cases hT:T<S+1
  .left
   obtain⟨s',q1,q2⟩:=awG h (C:=C) (R:=R) hv kp ke hS nh hT (h0 T (by omega));exact⟨s',d-1,q1,by omega,T+1,by omega,q2⟩
  .right
   have Zk:T=S+1:=by omega
   subst Zk;simp only[go_sem,ya,GA,GP,bF,aT,yd,ye,yp,show ¬((S+1:Nat):Int)-1<S by omega];exact⟨_,_,rfl,by simp,_,_,rfl,rfl,by simp only[go_sem,ya]⟩
end
section
variable {b1 b2 b3 b4 v:AV}{ng:Bool}{s:List Nat}{C R S a b i:Nat}
def my(C R S a b i:Nat)(v:AV)(s:List Nat)(b1 b2 b3 b4:AV):Env:=[(63,.fn (.f 719) [] [iR C R S,kK a b]),(62,.agg [aa a,aa b]),(61,aa b),(60,aa C),(59,.ptr 0 0),(58,aa i),(57,aa a),(56,aa C),(55,.ptr 0 0),(54,aa i),(53,.agg [aa C,aa R,aa S]),(17,.ptr 9 0),(16,.ptr 8 0),(15,.ptr 7 0),(14,.ptr 6 0),(13,.ptr 5 0),(12,.ptr 4 0),(52,.agg [b1,b2,b3,b4]),(51,.str s),(48,.bool yda),(47,aa 0),(11,aa 0),(46,aa 0),(45,.ax 3 0 2),(44,aa 0),(43,.str s),(42,aa 0),(41,aa (((C*R:Nat):Int)-1)),(40,aa ((C*R:Nat):Int)),(39,aa R),(38,.ptr 0 1),(37,aa C),(36,.ptr 0 0),(35,aa i),(32,.bool yda),(31,aa 0),(10,aa 0),(30,aa 0),(29,v),(28,.agg [aa C,aa R,aa S]),(9,aa 0),(8,.ptr 2 0),(5,.ptr 1 0),(4,.ptr 0 0),(0,.agg [aa C,aa R,aa S]),(1,v),(2,aa i),(3,.str s)]
def zk(C R S:Int)(v b1 b2 b3 b4:AV)(ng:Bool)(q5 q6 q7 q8:AV)(pu:Bool):Hp:=[(9,.cells ycZ ycZ ycZ 1 [.bool ng]),(8,.cells ycZ pu ycZ 1 [q8]),(7,.cells ycZ pu ycZ 1 [q7]),(6,.cells ycZ pu ycZ 1 [q6]),(5,.cells ycZ pu ycZ 1 [q5]),(4,.cells ycZ ycZ ycZ 4 [b1,b2,b3,b4]),(3,.cells yda ycZ ycZ 1 [aa 0,aa 0]),(2,.cells ycZ ycZ ycZ 4 [.str [],.str [],.str [],.str []]),(1,.cells ycZ ycZ ycZ 1 [v]),(0,.cells ycZ ycZ ycZ 3 [aa C,aa R,aa S])]
def iq(A B:VC)(TM:Env)(C R S:Int)(v b1 b2 b3 b4:AV)(ng:Bool):Nat->List AV->List AV->List AV->List AV->Nat->Hp
 | 0,_,_,_,_,st=>(10,.lp TM [64,65] A B st .none)::zk C R S v b1 b2 b3 b4 ng .ah .ah .ah .ah ycZ
 | n+1,cs,rs,ls,ms,st=>[(14,.cells ycZ ycZ yda 1 cs),(13,.cells ycZ ycZ yda 1 rs),(12,.cells ycZ ycZ yda 4 ls),(11,.cells ycZ ycZ yda 4 ms),(10,.lp TM [64,65] A B st .none)]++zk C R S v b1 b2 b3 b4 ng (.ax 14 0 (n+1)) (.ax 13 0 (n+1)) (.ax 12 0 (n+1)) (.ax 11 0 (n+1)) yda
def DH:Nat->Nat
 | 0=>11
 | _+1=>15
def agc{A B:VC}(pv:aX v=ycZ)(g:F4 b1 b2 b3 b4)(n:Nat)(cs rs ls ms:List AV):sJ 11 10 (iq A B (my C R S a b i v s b1 b2 b3 b4) C R S v b1 b2 b3 b4 ng n cs rs ls ms 0)=(iq A B (my C R S a b i v s b1 b2 b3 b4) C R S v b1 b2 b3 b4 ng n cs rs ls ms 0,DH n):=by
 obtain⟨p1,p2,p3,p4⟩:=g.R5;cases n<;>simp only[go_sem,ya,yb,yz,yk,JK,iq,zk,DH,my,iR,kK,ym,yG,az pv,az p1,az p2,az p3,az p4]
def ayu{A B:VC}(pv:aX v=ycZ)(g:F4 b1 b2 b3 b4)(n:Nat)(cs rs ls ms:List AV)(tm:Env)(ct:Nat):bk [] ⟨tm,iq A B (my C R S a b i v s b1 b2 b3 b4) C R S v b1 b2 b3 b4 ng n cs rs ls ms 0,ct,11⟩=⟨[],iq A B (my C R S a b i v s b1 b2 b3 b4) C R S v b1 b2 b3 b4 ng n cs rs ls ms 0,DH n,11⟩:=by
 obtain⟨p1,p2,p3,p4⟩:=g.R5;cases n<;>simp only[go_sem,ya,yb,yz,yk,apO,ayl,iq,zk,DH,my,iR,kK,ym,yG,az pv,az p1,az p2,az p3,az p4]
def CA{a b c d:AV}(h:aG [a,b,c,d]=ycZ):LZ 1 4 (FL [a,b,c,d])=FL (.au ycZ 1 [a,b,c,d]):=by
 have e:yO 0 4=ycZ:=rfl;simp only[LZ,h,e];rfl
def PJ(hp:Hp)(e:Bool)(a b c d:AV):lX hp 4 (.au e 1 [a,b,c,d])=FL (1,[a,b,c,d]):=rfl
structure M6(P:aF)(L:Lib):Prop extends Ctd P L,Ext P L where
 L7:Has P L 656 EP
 Xn:Has P L 674 Qp
 LV:Has P L 720 Lq
def aBB(h:M6 P L){c r k j n f:Nat}{w x1 x2 x3 x4:AV}{rest PH:List AV}{cs rs ls ms:List AV}{x e:Rat}(hv:aX v=ycZ)(hvz:∀(n:Nat) (hp:Hp),freeze (n+1) hp v=FL (v,hp))(hb:bM (.agg [b1,b2,b3,b4]) e)(kx:Hq 429 x)(ke:Hq 2400 e)(l1:cs.length=n)(l2:rs.length=n)(l3:ls.length=n*4)(l4:ms.length=n*4)(hn:n<=64)(e0:jm 1 r v=FL (.bN (w::rest)))(e1:jm 1 c w=FL (.bN (.av .f32 f::PH)))(e2:ab P L 685 [.av .f32 f] (.agg [x1,x2,x3,x4]))(hx:bM (.agg [x1,x2,x3,x4]) x):
  ∃hp aU y1 y2 y3 y4 z1 z2 z3 z4,lA (D P L) (iq mH lC (my C R S a b i v s b1 b2 b3 b4) C R S v b1 b2 b3 b4 ng n cs rs ls ms 0) (DH n) 10 [.agg [aa j,aa k],.agg [aa c,aa r]]=FL (.bool ycZ,hp,aU)/\sJ 11 10 hp=(iq mH lC (my C R S a b i v s b1 b2 b3 b4) C R S v b1 b2 b3 b4 (ng||decide (x<0)) (n+1) (cs++[aa j]) (rs++[aa k]) (ls++[y1,y2,y3,y4]) (ms++[z1,z2,z3,z4]) 0,15)/\bM (.agg [y1,y2,y3,y4]) (kO (x-e))/\bM (.agg [z1,z2,z3,z4]) (x+e):=by
 have e3:=QI h.toCtd.toCen.toMom.toFr' hx;have nc:decide (bX x.num<0)=decide (x<0):=vz.2 (FR _);obtain⟨d,e4,hd⟩:=m50 h.toCtd.toCen.toMom.toFr' hx hb (K:=2400) (kx.mono (by decide)) ke (by decide);obtain⟨y,e5,hy⟩:=aBc h.toCtd.toCen.toMom.toFr' h.QY hd;obtain⟨z,e6,hz⟩:=zf h.toCtd.toCen.toMom.toFr' hx hb (K:=2400) (kx.mono (by decide)) ke (by decide);have fV:=hy;have jX:=hz;obtain⟨d1,d2,d3,d4,rfl,gd⟩:=hd.gen;obtain⟨y1,y2,y3,y4,rfl,gy⟩:=hy.gen;obtain⟨z1,z2,z3,z4,rfl,gz⟩:=hz.gen;have gx:=hx.f4;have gb:=hb.f4;have py:=gy.p;have pz:=gz.p;obtain⟨p1,p2,p3,p4⟩:=gb.R5;have R9:dH (aa c)=FL c:=rfl;have Sa:dH (aa r)=FL r:=rfl;unfold ab at e2 e3 e4 e5 e6;have agd:∀(tm:Env) (u1 u2 u3 u4 a b c d:AV),cd [a,b,c,d]=ycZ->fS tm [u1,u2,u3,u4] 0 4 [a,b,c,d] []=FL [a,b,c,d]:=fun tm u1 u2 u3 u4 a b c d ho=>by
  rw[qJ (by rfl) (by simp) ho];rfl
 have Sb:=fun tm u1 u2 u3 u4=>agd tm u1 u2 u3 u4 y1 y2 y3 y4 gy.o
 have kF:=fun tm u1 u2 u3 u4=>agd tm u1 u2 u3 u4 z1 z2 z3 z4 gz.o
 generalize hTM:my C R S a b i v s b1 b2 b3 b4=TM;have BT:∀(tm:Env) (z:Int),fS tm [AV.int .i64 0] 0 1 [aa z] []=FL [aa z]:=fun tm z=>by rw[mE (by simp) rfl];rfl
 match n,l1,l2,l3,l4 with
 | 0,l1,l2,l3,l4=>
  have l1:cs=[]:=vH.1 l1;have l2:rs=[]:=vH.1 l2;have l3:ls=[]:=vH.1 (by simpa using l3);have l4:ms=[]:=vH.1 (by simpa using l4);subst l1 l2 l3 l4;have jf:∀Ac Bc,D P L mH ⟨(65,.agg [aa c,aa r])::(64,.agg [aa j,aa k])::TM,iq Ac Bc TM C R S v b1 b2 b3 b4 ng 0 [] [] [] [] 0,11,11⟩=FL (.normal,⟨(19,.ptr 12 0)::(18,.ptr 11 0)::(65,.agg [aa c,aa r])::(64,.agg [aa j,aa k])::TM,(12,.cells ycZ ycZ ycZ 2 [aa c,aa r])::(11,.cells ycZ ycZ ycZ 2 [aa j,aa k])::iq Ac Bc TM C R S v b1 b2 b3 b4 ng 0 [] [] [] [] 0,13,11⟩):=by
   intro Ac Bc;unfold iq zk;simp only[go_sem,ya,yb,mH,Xp,ahL]
  have oG:∀Ac Bc,∃tm hp ct,D P L lC ⟨(19,.ptr 12 0)::(18,.ptr 11 0)::(65,.agg [aa c,aa r])::(64,.agg [aa j,aa k])::TM,(12,.cells ycZ ycZ ycZ 2 [aa c,aa r])::(11,.cells ycZ ycZ ycZ 2 [aa j,aa k])::iq Ac Bc TM C R S v b1 b2 b3 b4 ng 0 [] [] [] [] 1,13,13⟩=FL (.normal,⟨tm,hp,ct,13⟩)/\ak hp 10=FL (.lp TM [64,65] Ac Bc 1 .none)/\sJ 11 10 (aW hp 10 (.lp TM [64,65] Ac Bc 0 .none))=(iq Ac Bc TM C R S v b1 b2 b3 b4 (ng||decide (x<0)) (0+1) ([]++[aa j]) ([]++[aa k]) ([]++[y1,y2,y3,y4]) ([]++[z1,z2,z3,z4]) 0,15):=by
   intro Ac Bc;subst hTM;unfold iq zk;simp only[my]
   cases ng with
   | true=>
    simp only[go_sem,ya,yb,xq,yz,yk,lC,ym,yG,aT,yd,ye,yp,iC,Sa,R9,e0,e1,nm,e2,bz,aQ,gx.st,Lv,BT,O7,O9,Jl,Pa,PF,O6,gV,aeA,gx.ai,gb.ai,e4,gd.ai,e5,Sb,CA py,PJ,e6,kF,CA pz,py,pz,wL];refine⟨_,_,_,rfl,?_,?_⟩
    .simp only [go_sem,ya]
    .simp only [go_sem,ya,yb,yz,yk,JK,iR,kK,az hv,az p1,az p2,az p3,az p4,vN]
   | false=>
    simp only[go_sem,ya,yb,xq,yz,yk,lC,ym,yG,aT,yd,ye,yp,iC,Sa,R9,e0,e1,nm,e2,bz,aQ,gx.st,Lv,BT,O7,O9,Jl,Pa,PF,O6,gV,aeA,gx.ai,e3,nc,gb.ai,e4,gd.ai,e5,Sb,CA py,PJ,e6,kF,CA pz,py,pz,wL];refine⟨_,_,_,rfl,?_,?_⟩
    .simp only [go_sem,ya]
    .simp only [go_sem,ya,yb,yz,yk,JK,iR,kK,az hv,az p1,az p2,az p3,az p4,vh]
  obtain⟨tm,hp,ct,oG,hg,M2⟩:=oG mH lC
  exact⟨_,_,y1,y2,y3,y4,z1,z2,z3,z4,acm (P:=P) (L:=L) (hp:=iq mH lC TM C R S v b1 b2 b3 b4 ng 0 [] [] [] [] 0) (ct:=11) (l:=10) (xs:=[.agg [aa j,aa k],.agg [aa c,aa r]]) rfl rfl (jf _ _) rfl oG hg,M2,fV,jX⟩
 | n+1,l1,l2,l3,l4=>
  have jf:∀Ac Bc,D P L mH ⟨(65,.agg [aa c,aa r])::(64,.agg [aa j,aa k])::TM,iq Ac Bc TM C R S v b1 b2 b3 b4 ng (n+1) cs rs ls ms 0,15,15⟩=FL (.normal,⟨(19,.ptr 16 0)::(18,.ptr 15 0)::(65,.agg [aa c,aa r])::(64,.agg [aa j,aa k])::TM,(16,.cells ycZ ycZ ycZ 2 [aa c,aa r])::(15,.cells ycZ ycZ ycZ 2 [aa j,aa k])::iq Ac Bc TM C R S v b1 b2 b3 b4 ng (n+1) cs rs ls ms 0,17,15⟩):=by
   intro Ac Bc;unfold iq zk;simp only[go_sem,ya,yb,mH,Xp,ahL,ym,yG]
  have a1:=fun (hp:Hp) (ct:Nat) (z:Int) (hg:ak hp 14=FL (.cells ycZ ycZ yda 1 cs))=>fP (ct:=ct) (by':=8) (new:=[aa z]) (m:=1) (n:=n+1) hg (by omega) (by omega) (by omega) (by decide) rfl
  have a2:=fun (hp:Hp) (ct:Nat) (z:Int) (hg:ak hp 13=FL (.cells ycZ ycZ yda 1 rs))=>fP (ct:=ct) (by':=8) (new:=[aa z]) (m:=1) (n:=n+1) hg (by omega) (by omega) (by omega) (by decide) rfl
  have a3:=fun (hp:Hp) (ct:Nat) (hg:ak hp 12=FL (.cells ycZ ycZ yda 4 ls))=>fP (ct:=ct) (by':=64) (new:=[y1,y2,y3,y4]) (m:=1) (n:=n+1) hg l3 (by omega) (by omega) (by decide) gy.o
  have a4:=fun (hp:Hp) (ct:Nat) (hg:ak hp 11=FL (.cells ycZ ycZ yda 4 ms))=>fP (ct:=ct) (by':=64) (new:=[z1,z2,z3,z4]) (m:=1) (n:=n+1) hg l4 (by omega) (by omega) (by decide) gz.o
  have oG:∀Ac Bc,∃tm hp ct,D P L lC ⟨(19,.ptr 16 0)::(18,.ptr 15 0)::(65,.agg [aa c,aa r])::(64,.agg [aa j,aa k])::TM,(16,.cells ycZ ycZ ycZ 2 [aa c,aa r])::(15,.cells ycZ ycZ ycZ 2 [aa j,aa k])::iq Ac Bc TM C R S v b1 b2 b3 b4 ng (n+1) cs rs ls ms 1,17,17⟩=FL (.normal,⟨tm,hp,ct,17⟩)/\ak hp 10=FL (.lp TM [64,65] Ac Bc 1 .none)/\sJ 11 10 (aW hp 10 (.lp TM [64,65] Ac Bc 0 .none))=(iq Ac Bc TM C R S v b1 b2 b3 b4 (ng||decide (x<0)) (n+1+1) (cs++[aa j]) (rs++[aa k]) (ls++[y1,y2,y3,y4]) (ms++[z1,z2,z3,z4]) 0,15):=by
   intro Ac Bc;subst hTM;unfold iq zk;simp only[my]
   cases ng with
   | true=>
    simp only[go_sem,ya,yb,lC,ym,yG,aT,yd,ye,yp,iC,Sa,R9,e0,e1,nm,e2,bz,aQ,gx.st,Lv,BT,O7,O9,Jl,Pa,PF,O6,a1,a2,a3,a4,TS,acH,acI,abB,aez,gx.ai,gb.ai,e4,gd.ai,e5,Sb,CA py,PJ,e6,kF,CA pz,py,pz,wL];refine⟨_,_,_,rfl,?_,?_⟩
    .simp only [go_sem,ya]
    .simp only [go_sem,ya,yb,yz,yk,JK,iR,kK,az hv,az p1,az p2,az p3,az p4,vN]
   | false=>
    simp only[go_sem,ya,yb,lC,ym,yG,aT,yd,ye,yp,iC,Sa,R9,e0,e1,nm,e2,bz,aQ,gx.st,Lv,BT,O7,O9,Jl,Pa,PF,O6,a1,a2,a3,a4,TS,acH,acI,abB,aez,gx.ai,e3,nc,gb.ai,e4,gd.ai,e5,Sb,CA py,PJ,e6,kF,CA pz,py,pz,wL];refine⟨_,_,_,rfl,?_,?_⟩
    .simp only [go_sem,ya]
    .simp only [go_sem,ya,yb,yz,yk,JK,iR,kK,az hv,az p1,az p2,az p3,az p4,vh]
  obtain⟨tm,hp,ct,oG,hg,M2⟩:=oG mH lC
  exact⟨_,_,y1,y2,y3,y4,z1,z2,z3,z4,acm (P:=P) (L:=L) (hp:=iq mH lC TM C R S v b1 b2 b3 b4 ng (n+1) cs rs ls ms 0) (ct:=15) (l:=10) (xs:=[.agg [aa j,aa k],.agg [aa c,aa r]]) rfl rfl (jf _ _) rfl oG hg,M2,fV,jX⟩
end
section
variable {ro:Bool}{S n:Nat}
def nU(S:Nat)(ro:Bool)(n:Nat):List AV:=(xx n).map fun t=>aa ((fO S ro t:Nat):Int)
def JL:(nU S ro n).length=n:=by simp[nU]
def acN:nU S ro (n+1)=nU S ro n++[aa ((fO S ro n:Nat):Int)]:=by simp[nU,vd]
def aeG:bi (.au yda n (nU S ro n)) ((xx n).map fun t=>((fO S ro t:Nat):Int)):=by
 have h:=Ga yda (nU S ro n);rw[JL] at h;unfold bi;rw[ybs];exact h
def jD(p:Nat->Nat->Rat)(e:Rat)(S:Nat):Int:=if gS p S (S*S)=ycZ then 3 else if bf (cC p e S) (S*S)=0 then 6 else 0
def cA(p:Nat->Nat->Rat)(e:Rat)(S:Nat)(ro gr:Bool):Rat:=dA (fO S ro) (cC p e S) (gE p e S) S (S*S) gr S
noncomputable def I1(p:Nat->Nat->Rat)(e:Rat)(S:Nat):List AV:=[.str (RT (cA p e S yda yda)),.str (RT (cA p e S yda ycZ)),.str (RT (cA p e S ycZ yda)),.str (RT (cA p e S ycZ ycZ))]
def kP:List AV:=[.str [],.str [],.str [],.str []]
def M7(p:Nat->Nat->Rat)(e:Rat)(S:Nat):Bool:=[cA p e S yda yda,cA p e S yda ycZ,cA p e S ycZ yda,cA p e S ycZ ycZ].any LG
noncomputable def rV(C R S:Int)(F:List (List Nat))(i:Int)(s:List Nat)(p:Nat->Nat->Rat):Int:=
 if kL C R S F=0 then (if bS [ff i 0 (C*R-1),jx s]=0 then (if jD p (bl s) S.toNat=0 then (if M7 p (bl s) S.toNat=ycZ then 4 else 0) else jD p (bl s) S.toNat) else bS [ff i 0 (C*R-1),jx s]) else kL C R S F
noncomputable def BY(C R S:Int)(F:List (List Nat))(i:Int)(s:List Nat)(p:Nat->Nat->Rat):List AV:=if rV C R S F i s p=0 then I1 p (bl s) S.toNat else kP
noncomputable def dP(F:List (List Nat))(C S i:Nat)(k r:Nat):Rat:=lV F (i%C*S+k) (i/C*S+r)
def aBC(h:M6 P L){C R a b i bs:Nat}{v b1 b2 b3 b4:AV}{s:List Nat}{F:List (List Nat)}{p:Nat->Nat->Rat}{e:Rat}(hv:cF eY v F)(hF:nS F (R*S) (C*S))(hC:C<=8)(hR:R<=8)(hS:S<=8)(ha:a<C)(hb:b<R)(hp:p=fun k r=>lV F (a*S+k) (b*S+r))(AA:bM (.agg [b1,b2,b3,b4]) e)(ke:Hq 2400 e):
  ∃ls ms,QL ls ((xx (S*S)).map (cC p e S))/\QL ms ((xx (S*S)).map (gE p e S))/\
   D P L (.rf (.t 63) [64,65] mH lC) ⟨my C R S a b i v s b1 b2 b3 b4,zk C R S v b1 b2 b3 b4 yda .ah .ah .ah .ah ycZ,10,bs⟩=FL (.normal,⟨my C R S a b i v s b1 b2 b3 b4,cT (iq mH lC (my C R S a b i v s b1 b2 b3 b4) C R S v b1 b2 b3 b4 (gS p S (S*S)) (S*S) (nU S yda (S*S)) (nU S ycZ (S*S)) ls ms 0) 10,DH (S*S),bs⟩):=by
 have AG:S*S<=64:=xf hS hS;have gb:=AA.f4;obtain⟨H,c,⟨ls,ms,rfl,rfl,q1,q2⟩,e9⟩:=ayf (P:=P) (L:=L) h.QT (f:=.t 63) (ps:=[64,65]) (as_:=mH) (body:=lC) (s:=⟨my C R S a b i v s b1 b2 b3 b4,zk C R S v b1 b2 b3 b4 yda .ah .ah .ah .ah ycZ,10,bs⟩) (C:=C) (R:=R) (a:=a) (b:=b) hS (by omega) (by omega) rfl
  (Inv:=fun j H c=>∃ls ms,H=iq mH lC (my C R S a b i v s b1 b2 b3 b4) C R S v b1 b2 b3 b4 (gS p S j) j (nU S yda j) (nU S ycZ j) ls ms 0/\c=DH j/\QL ls ((xx j).map (cC p e S))/\QL ms ((xx j).map (gE p e S)))
  ⟨by rintro j H c ⟨ls,ms,rfl,rfl,_⟩;exact agc hv.pu gb _ _ _ _ _,by rintro j H c ⟨ls,ms,rfl,rfl,_⟩ tm ct;exact ayu hv.pu gb _ _ _ _ _ _ _,by rintro j H c ⟨ls,ms,rfl,rfl,_⟩;cases j<;>exact⟨_,_,_,_,rfl⟩⟩
  ⟨_,_,agc (A:=mH) (B:=lC) (C:=C) (R:=R) (S:=S) (a:=a) (b:=b) (i:=i) (s:=s) (ng:=yda) hv.pu gb 0 [] [] [] [],[],[],rfl,rfl,trivial,trivial⟩ (by
   rintro k j H c hk hj ⟨ls,ms,rfl,rfl,q1,q2⟩;obtain⟨bh,kH,e3,f1,f2⟩:=hF.at (pn hb hk) (pn ha hj);obtain⟨w,rest,hw,e0⟩:=hv.bq bh;have hw:cz w (dO F[b*S+k]):=hw;have e1:=hw.bq (i:=a*S+j) (by simpa using kH);rw[Og kH] at e1;obtain⟨x,e2,hx⟩:=ayk h.toCtd.toExc f2 f1;rw[<-e3] at hx;have kx:=hF.H (pn hb hk) (pn ha hj);have zh:=hx;obtain⟨x1,x2,x3,x4,rfl,_⟩:=hx.gen;have hkj:k*S+j<S*S:=by
    have:=pn (S:=S) hk hj
    omega
   have ql:=q1.len;have qm:=q2.len;rw[yU,th] at ql qm;have hpk:p j k=lV F (a*S+j) (b*S+k):=by rw[hp]
   obtain⟨an,aU,y1,y2,y3,y4,z1,z2,z3,z4,e4,e5,e6,e7⟩:=aBB h (C:=C) (R:=R) (S:=S) (a:=a) (b:=b) (i:=i) (k:=k) (j:=j) (s:=s) (ng:=gS p S (k*S+j)) (n:=k*S+j) (cs:=nU S yda (k*S+j)) (rs:=nU S ycZ (k*S+j)) (ls:=ls) (ms:=ms) hv.pu (fun n hp=>hv.ai n) AA kx ke JL JL ql qm (by omega) e0 e1 e2 zh;have c1:fO S yda (k*S+j)=j:=Cx hj;have c2:fO S ycZ (k*S+j)=k:=Cy hj;rw[<-hpk] at e5 e6 e7;refine⟨an,aU,_,_,e4,e5,ls++[y1,y2,y3,y4],ms++[z1,z2,z3,z4],?_,rfl,?_,?_⟩
   .rw [acM,acN,acN,c1,c2,Cx hj,Cy hj]
   .rw [vd,xb];refine q1.snoc ?_;unfold cC;rw[Cx hj,Cy hj];exact e6
   .rw [vd,xb];refine q2.snoc ?_;unfold gE
    rw[Cx hj,Cy hj];exact e7)
 exact⟨ls,ms,q1,q2,e9⟩
end
section
variable {S:Nat}{e:Rat}
def U4{f g:Nat->Rat}:∀{n:Nat},(∀t,t<n->f t<=g t)->bf f n<=bf g n
 | 0,_=>ybf
 | n+1,h=>by
  have h1:=U4 (f:=f) (g:=g) (n:=n) (fun t ht=>h t (by omega));have h2:=h n (by omega);show bf f n+f n<=bf g n+g n
  grind
def age:∀n,bf (fun _=>(0:Rat)) n=0
 | 0=>rfl
 | n+1=>by
  show bf (fun _=>(0:Rat)) n+0=0
  rw[age n,ycD]
def awH(a:Rat):0<=kO a:=by
 unfold kO;by_cases h:a<0
 .rw [yD h];exact ybf
 .rw [yt h];exact tC.1 h
def awI{x:Rat}(hx:0<=x)(he:0<=e):kO (x-e)<=x+e:=by
 unfold kO;by_cases h:x-e<0
 .rw [yD h];grind
 .rw [yt h];grind
section
variable {p:Nat->Nat->Rat}{e:Rat}{S:Nat}(hp:∀t,t<S*S->0<=p (t%S) (t/S))(he:0<=e)(h:bf (cC p e S) (S*S)≠0)
include hp he h
theorem adT(c:Nat->Nat)(u:Bool)(T:Nat):0<bf (lz c (cC p e S) (gE p e S) u T) (S*S):=by
 have h1:bf (fun _=>(0:Rat)) (S*S)<=bf (cC p e S) (S*S):=U4 fun t _=>awH _
 rw[age] at h1;have h2:bf (cC p e S) (S*S)<=bf (lz c (cC p e S) (gE p e S) u T) (S*S):=U4 fun t ht=>by
  unfold lz FG;by_cases hc:decide (c t<T)=u
  .rw [yD hc];exact ybf
  .rw [yt hc];exact awI (hp t ht) he
 have h3:0<bf (cC p e S) (S*S):=Rat.lt_of_le_of_ne h1 (Ne.symm h)
 grind
theorem awJ(ro gr:Bool)(T:Nat):kE (dK (wP p e ro gr T) S S)≠0:=by
 rw[<-Pb];intro q
 have:=adT hp he h (fO S ro) gr T
 have e1:bf (fun t=>wP p e ro gr T (t%S) (t/S)) (S*S)=bf (lz (fO S ro) (cC p e S) (gE p e S) gr T) (S*S):=rfl;rw[<-e1,q] at this;exact absurd this (by decide)
end
noncomputable def M8(p:Nat->Nat->Rat)(e:Rat)(S:Nat):List AV:=if jD p e S=0 then I1 p e S else kP
def Kz(s:List Nat)(w:AV)(u:List Nat)(r k:Nat):Env:=[(3,.str s),(4,.ptr 0 0),(8,.ptr 1 0),(10,w),(11,.str u),(12,aa r),(13,aa k)]
def A3(s:List Nat)(w:AV)(u:List Nat)(r:Nat):Env:=[(3,.str s),(4,.ptr 0 0),(8,.ptr 1 0),(10,w),(11,.str u),(12,aa r)]
def iZ(C R S:Int):Hp:=[(1,.cells ycZ ycZ ycZ 4 kP),(0,bF C R S)]
def aBD{p:Nat->Nat->Rat}(kp:∀a b,a<S->b<S->Hq 429 (p a b))(ke:Hq 2400 e)(hS:S<=8){n:Nat}(hn:n<=S*S):Hq 300000 (bf (cC p e S) n):=by
 have AG:S*S<=64:=xf hS hS
 refine (EA (N:=S*S) (Q4 kp ke).1 hn).mono ?_
 have:n*(3000+1)<=64*(3000+1):=yI _ (by omega)
 omega
def awK(h:AF P L){w:AV}{p:Nat->Nat->Rat}{C R:Int}{r:Nat}(hw:cF eJ w (gQ (dK p S S)))(kp:∀a b,a<S->b<S->Hq 429 (p a b))(ke:Hq 2400 e)(hS:S<=8)(hr:r<S):
  cZ P L [3,4,8,10,11,12,13] Gz (fun d st=>∃k,k+d=S/\gS p S (r*S+k)=yda/\st=⟨Kz (RT e) w (RT (bf (cC p e S) (r*S+k))) r k,iZ C R S,2,0⟩) (fun ex s'=>∃tm ct,s'=⟨tm,iZ C R S,ct,0⟩/\((ex=.ret/\gS p S (S*S)=ycZ/\aj tm 8=.ptr 1 0/\aj tm 9=aa 3)\/(ex=.exit 2/\gS p S ((r+1)*S)=yda/\bm tm [3,4,8,10,11,12]=A3 (RT e) w (RT (bf (cC p e S) ((r+1)*S))) r))):=by
 apply c6;rintro d st ⟨k,R6,hN,rfl⟩;by_cases hk:k<S
 .have RW:r*S+k<S*S:=by
   have:=yI S (show r+1<=S from hr)
   rw[xH] at this;omega
  obtain⟨wr,rest,hwr,e0⟩:=hw.bq (i:=r) (by rw[Gd,F5];exact hr)
  rw[Ux] at hwr;have e1:=hwr.bq (i:=k) (by rw[yU,Jz];exact hk)
  rw[wB,T8] at e1;have Sc:=kp k r hk hr;have e2:=PB h.toRm Sc (by decide);have nc:decide (bX (p k r).num<0)=decide (p k r<0):=vz.2 (FR _);have e3:=VH h.toRp Sc ke (by decide);have e4:=af9 h.toRp h.sH h.Hs (K:=2400) (Sc.mono (by decide)) ke (by decide);have e5:=Ez h.toRp (aBD kp ke hS (show r*S+k<=S*S by omega)) ((VM (Sc.sub ke))) (by decide);have Q9:bf (cC p e S) (r*S+k)+kO (p k r-e)=bf (cC p e S) (r*S+(k+1)):=by
   show _=bf (cC p e S) (r*S+k)+cC p e S (r*S+k)
   unfold cC;rw[Cx hk,Cy hk]
  rw[Q9] at e5;have rW:gS p S (r*S+(k+1))=decide (p k r<0):=by
   rw[<-uI,acM,hN,Cx hk,Cy hk,vh]
  unfold ab at e2 e3 e4 e5;have zi:(k:Int)<S:=by omega
  by_cases hd:p k r<0
  .right
   rw[y8 hd] at nc rW;simp only[go_sem,ya,Gz,Kz,iZ,bF,aT,yd,ye,yp,zi,e0,e1,e2,nc,kP];have aM:∀(hp:Hp) (ct id:Nat),fy hp ct id 0 4 [AV.str [],.str [],.str [],.str []] (FL (.cells ycZ ycZ ycZ 4 [AV.str [],.str [],.str [],.str []]))=FL (.aw [],aW hp id (.cells ycZ ycZ ycZ 4 [AV.str [],.str [],.str [],.str []]),ct):=fun _ _ _=>rfl
   simp only[go_sem,aM];exact⟨_,_,rfl,by simp,_,_,rfl,.inl ⟨rfl,apW rW (by omega),by simp only[go_sem,ya],by simp only[go_sem]⟩⟩
  .left
   rw[yQ hd] at nc rW;generalize RT (bf (cC p e S) (r*S+k))=u at*
   generalize RT (kO (p k r-e))=u1 at*
   generalize RT (p k r-e)=u2 at*
   simp only[go_sem,ya,Gz,Kz,iZ,bF,aT,yd,ye,yp,zi,e0,e1,e2,nc,e3,e4,e5];refine⟨_,d-1,rfl,by omega,k+1,by omega,rW,?_⟩;rw[wrap64 (by omega) (by omega)];simp only[go_sem,ya,yb,ap,az hw.pu]<;>rfl
 .right
  have FE:k=S:=by omega
  subst FE;simp only[go_sem,ya,Gz,Kz,iZ,bF,aT,yd,ye,yp,show ¬(k:Int)<k by omega];refine⟨_,_,rfl,by simp,_,_,rfl,.inr ⟨rfl,?_,?_⟩⟩
  .rw [xH,uR];exact hN
  .rw [xH,uR];simp only[go_sem,ya,A3]<;>rfl
def awL(h:AF P L){w:AV}{p:Nat->Nat->Rat}{C R:Int}(hw:cF eJ w (gQ (dK p S S)))(kp:∀a b,a<S->b<S->Hq 429 (p a b))(ke:Hq 2400 e)(hS:S<=8):
  cZ P L [3,4,8,10,11,12] Kn (fun d st=>∃r,r+d=S/\gS p S (r*S)=yda/\st=⟨A3 (RT e) w (RT (bf (cC p e S) (r*S))) r,iZ C R S,2,0⟩) (fun ex s'=>∃tm ct,s'=⟨tm,iZ C R S,ct,0⟩/\((ex=.ret/\gS p S (S*S)=ycZ/\aj tm 8=.ptr 1 0/\aj tm 9=aa 3)\/(ex=.exit 0/\gS p S (S*S)=yda/\bm tm [3,4,8,10,11]=[(3,.str (RT e)),(4,.ptr 0 0),(8,.ptr 1 0),(10,w),(11,.str (RT (bf (cC p e S) (S*S))))]))):=by
 apply c6;rintro d st ⟨r,fE,hN,rfl⟩;by_cases hr:r<S
 .have key:=awK h (C:=C) (R:=R) hw kp ke hS hr;have mX:(r:Int)<S:=by omega
  simp only[A3,iZ,bF];simp only[go_sem,ya,Kn,aT,yd,ye,yp,mX];generalize hq:D P L (.loop _ Gz) _=q;obtain⟨ex,st,rfl,tm,ct,rfl,hh⟩:=bH hq (key S) ⟨0,by omega,hN,by simp only[go_sem,ya,yb,ap,Kz,iZ,bF,az hw.pu,y5]<;>rfl⟩
  rcases hh with ⟨rfl,g1,g2,g3⟩ | ⟨rfl,g1,iP⟩
  .right
   simp only[go_sem];exact⟨_,_,rfl,by simp,_,_,rfl,.inl ⟨rfl,g1,g2,g3⟩⟩
  .left
   have cO:∀ct,bk [3,4,8,10,11,12] ⟨tm,iZ C R S,ct,0⟩=⟨A3 (RT e) w (RT (bf (cC p e S) ((r+1)*S))) r,iZ C R S,2,0⟩:=fun ct=>by
    rw[ap,iP];simp only[go_sem,ya,yb,A3,iZ,bF,az hw.pu]<;>rfl
   simp only[go_sem,ya,cO,A3];refine⟨_,d-1,rfl,by omega,r+1,by omega,g1,?_⟩;rw[wrap64 (by omega) (by omega)];simp only[go_sem,ya,yb,ap,iZ,bF,az hw.pu]<;>rfl
 .right
  have FF:r=S:=by omega
  subst FF;simp only[go_sem,ya,Kn,A3,iZ,bF,aT,yd,ye,yp,show ¬(r:Int)<r by omega];exact⟨_,_,rfl,by simp,_,_,rfl,.inr ⟨rfl,hN,by simp only[go_sem,ya]<;>rfl⟩⟩
def aBE(h:AF P L){v:AV}{F:List (List Nat)}{C R i:Nat}(hv:cF eY v F)(hF:nS F (R*S) (C*S))(hC:C<=8)(hR:R<=8)(hS:S<=8)(nh:0<S)(hi:i<C*R){p:Nat->Nat->Rat}(hp:p=fun k r=>lV F (i%C*S+k) (i/C*S+r))(ke:Hq 2400 e)(he:0<=e):
  ab P L 774 [.agg [aa C,aa R,aa S],v,aa i,.str (RT e)] (.aw [.agg (M8 p e S),aa (jD p e S)]):=by
 have e1:=aBt h.toFy h.Q2 hv hF hC hR hS nh hi hp;obtain⟨l1,l2⟩:=OL hi;have kp:∀a b,a<S->b<S->Hq 429 (p a b):=fun a b ha hb=>by
  rw[hp];exact hF.H (pn l2 hb) (pn l1 ha)
 have hw:=aww p S;generalize hwv:AV.au yda S (M5 p S S)=w at*
 have key:=awL h (C:=C) (R:=R) (e:=e) hw kp ke hS;have pw:=hw.pu;have hz:(AV.str [48])=.str (RT 0):=rfl;have fz:=z7;have k0:bf (cC p e S) (0*S)=0:=by rw[wq];rfl
 have oM:∀ct,lH ct 4 [AV.str [],.str [],.str [],.str []]=FL (.ptr ct 0,.cells ycZ ycZ ycZ 4 kP):=fun _=>rfl
 have ahV:∀(hp:Hp) (ct id:Nat) (a b c d:List Nat),fy hp ct id 0 4 [AV.str a,.str b,.str c,.str d] (FL (.cells ycZ ycZ ycZ 4 [AV.str [],.str [],.str [],.str []]))=FL (.aw [],aW hp id (.cells ycZ ycZ ycZ 4 [AV.str a,.str b,.str c,.str d]),ct):=fun _ _ _ _ _ _ _=>rfl
 unfold ab at e1;unfold ab;rw[aE h.iZ];simp only[go_sem,ya,yb,Wn,ib,oM,ye,fj,fz,hv.ai,e1,hw.shut];rw[hz];generalize hq:D P L (.loop _ Kn) _=q;obtain⟨ex,st,rfl,tm,ct,rfl,hh⟩:=bH hq (key S) ⟨0,by omega,by rw[wq];rfl,by rw[k0];simp only[go_sem,ya,yb,ap,A3,iZ,bF,az pw]<;>rfl⟩
 rcases hh with ⟨rfl,g1,g2,g3⟩ | ⟨rfl,g1,iP⟩
 .have hE:jD p e S=3:=by unfold jD;rw[yD g1]
  unfold M8;rw[hE,yt (by decide)];simp only[go_sem,g2,g3,iZ,bF,kP,ye,cI,cJ];rfl
 .have cO:∀ct,bk [3,4,8,10,11] ⟨tm,iZ C R S,ct,0⟩=⟨[(3,.str (RT e)),(4,.ptr 0 0),(8,.ptr 1 0),(10,w),(11,.str (RT (bf (cC p e S) (S*S))))],iZ C R S,2,0⟩:=fun ct=>by
   rw[ap,iP];simp only[go_sem,ya,yb,iZ,bF,az pw]<;>rfl
  have e2:=aBe (P:=P) (L:=L) h.Xq (bf (cC p e S) (S*S));unfold ab at e2;have rW:¬(gS p S (S*S)=ycZ):=by rw[g1];decide
  by_cases h0:bf (cC p e S) (S*S)=0
  .have hE:jD p e S=6:=by unfold jD;rw[yt rW,yD h0]
   unfold M8;rw[hE,yt (by decide)];rw[y8 h0] at e2;simp only[go_sem,ya,cO];simp only[go_sem,ya,iZ,bF,kP,ye,e2,ahV,cI,cJ];rfl
  .have hE:jD p e S=0:=by unfold jD;rw[yt rW,yt h0]
   unfold M8;rw[hE,yD rfl];rw[yQ h0] at e2;have key:=fun ro gr=>aBA h (C:=C) (R:=R) (ro:=ro) (gr:=gr) hw kp ke hS nh (fun T _=>awJ (fun t ht=>agb g1 ht) he h0 ro gr T)
   have e3:=key yda yda;have e4:=key yda ycZ;have e5:=key ycZ yda;have e6:=key ycZ ycZ;unfold I1 cA;generalize RT (dA (fO S yda) (cC p e S) (gE p e S) S (S*S) yda S)=x1 at*
   generalize RT (dA (fO S yda) (cC p e S) (gE p e S) S (S*S) ycZ S)=x2 at*
   generalize RT (dA (fO S ycZ) (cC p e S) (gE p e S) S (S*S) yda S)=x3 at*
   generalize RT (dA (fO S ycZ) (cC p e S) (gE p e S) S (S*S) ycZ S)=x4 at*
   generalize RT (bf (cC p e S) (S*S))=x5 at*
   unfold ab at e3 e4 e5 e6;have bZ:∀(tm:Env) (a:List Nat) (r:List (Nat×Nat×X)),fS tm [.str [],.str []] 0 1 [.str a] r=fill tm [.str a,.str []] r:=fun tm a r=>by
    rw[mE (by simp) rfl];rfl
   have L4:∀(tm:Env) (a b:List Nat) (r:List (Nat×Nat×X)),fS tm [.str a,.str []] 1 1 [.str b] r=fill tm [.str a,.str b] r:=fun tm a b r=>by
    rw[mE (by simp) rfl];rfl
   have aM:∀(hp:Hp) (ct id:Nat) (a b:List Nat),fy hp ct id 0 2 [.str a,.str b] (FL (.cells ycZ ycZ ycZ 2 [.str [],.str []]))=FL (.aw [],aW hp id (.cells ycZ ycZ ycZ 2 [.str a,.str b]),ct):=fun _ _ _ _ _=>rfl
   have oG:∀ct,lH ct 2 [AV.str [],.str []]=FL (.ptr ct 0,.cells ycZ ycZ ycZ 2 [.str [],.str []]):=fun _=>rfl
   have sM:∀a b:List Nat,fT 2 ycZ [AV.str a,.str b]=FL (.agg [.str a,.str b]):=fun _ _=>rfl
   have Zl:∀(tm:Env) (a b:List Nat) (r:List (Nat×Nat×X)),fS tm [AV.str [],.str [],.str [],.str []] 0 2 [.str a,.str b] r=fill tm [.str a,.str b,.str [],.str []] r:=fun tm a b r=>by
    rw[qJ (by rfl) (by simp) rfl];rfl
   have Zm:∀(tm:Env) (a b c d:List Nat) (r:List (Nat×Nat×X)),fS tm [AV.str a,.str b,.str [],.str []] 2 2 [.str c,.str d] r=fill tm [.str a,.str b,.str c,.str d] r:=fun tm a b c d r=>by
    rw[qJ (by rfl) (by simp) rfl];rfl
   simp only[go_sem,ya,cO];simp only[go_sem,ya,yb,iZ,bF,kP,ye,fj,fz,hw.ai,e2,e3,e4,e5,e6,bZ,L4,aM,oG,sM,Zl,Zm,ahV,cI,cJ];rfl
end
def awM{tm:Env}{a1 a2 a3 a4 b1 b2 b3 b4 c1 c2 c3 c4 d1 d2 d3 d4 x1 x2 x3 x4 x5 x6 x7 x8 x9 x10 x11 x12 x13 x14 x15 x16:AV}{r:List (Nat×Nat×X)}(ha:cd [a1,a2,a3,a4]=ycZ)(hb:cd [b1,b2,b3,b4]=ycZ)(hc:cd [c1,c2,c3,c4]=ycZ)(hd:cd [d1,d2,d3,d4]=ycZ):
  (fS tm [x1,x2,x3,x4,x5,x6,x7,x8,x9,x10,x11,x12,x13,x14,x15,x16] 0 4 [a1,a2,a3,a4] r=fill tm [a1,a2,a3,a4,x5,x6,x7,x8,x9,x10,x11,x12,x13,x14,x15,x16] r)/\
  (fS tm [a1,a2,a3,a4,x5,x6,x7,x8,x9,x10,x11,x12,x13,x14,x15,x16] 4 4 [b1,b2,b3,b4] r=fill tm [a1,a2,a3,a4,b1,b2,b3,b4,x9,x10,x11,x12,x13,x14,x15,x16] r)/\
  (fS tm [a1,a2,a3,a4,b1,b2,b3,b4,x9,x10,x11,x12,x13,x14,x15,x16] 8 4 [c1,c2,c3,c4] r=fill tm [a1,a2,a3,a4,b1,b2,b3,b4,c1,c2,c3,c4,x13,x14,x15,x16] r)/\
  (fS tm [a1,a2,a3,a4,b1,b2,b3,b4,c1,c2,c3,c4,x13,x14,x15,x16] 12 4 [d1,d2,d3,d4] r=fill tm [a1,a2,a3,a4,b1,b2,b3,b4,c1,c2,c3,c4,d1,d2,d3,d4] r):=
 ⟨by rw[qJ (by rfl) (by simp) ha];rfl,by rw[qJ (by rfl) (by simp) hb];rfl,by rw[qJ (by rfl) (by simp) hc];rfl,by rw[qJ (by rfl) (by simp) hd];rfl⟩
def apX(h:M6 P L){v:AV}{F:List (List Nat)}{C R S i:Int}{s:List Nat}{p:Nat->Nat->Rat}(hv:cF eY v F)(hl:F.length<=1000000)(hr:∀r,r∈F->r.length<=1000000)(hs:s.length<=1000000)(AE:kL C R S F=0-> -9000<=C*R/\C*R<=9000)(iW:kL C R S F≠0\/bS [ff i 0 (C*R-1),jx s]≠0):ab P L 656 [.agg [aa C,aa R,aa S],v,aa i,.str s] (.aw [.agg (BY C R S F i s p),aa (rV C R S F i s p)]):=by
 have e1:=ahK h.toCtd.toFrc hv hl hr (C:=C) (R:=R) (S:=S);have e2:=LS (P:=P) (L:=L) h.LW h.mj i 0 (C*R-1);have e3:=ahN h.toCtd.toCk h.mj h.LY (s:=s) hs;have e4:=LR (P:=P) (L:=L) h.LX (kz ycZ [ff i 0 (C*R-1),jx s]) (by simp);simp only[yy,yJ,yd,yb,y7,wE] at e4;have fz:=z7;have aM:∀(hp:Hp) (ct id:Nat),fy hp ct id 0 4 [AV.str [],.str [],.str [],.str []] (FL (.cells ycZ ycZ ycZ 4 [AV.str [],.str [],.str [],.str []]))=FL (.aw [],aW hp id (.cells ycZ ycZ ycZ 4 [AV.str [],.str [],.str [],.str []]),ct):=fun _ _ _=>rfl
 have oM:∀ct,lH ct 4 [AV.str [],.str [],.str [],.str []]=FL (.ptr ct 0,.cells ycZ ycZ ycZ 4 [AV.str [],.str [],.str [],.str []]):=fun _=>rfl
 have nV:∀a b c d:List Nat,fT 4 ycZ [AV.str a,.str b,.str c,.str d]=FL (.agg [.str a,.str b,.str c,.str d]):=fun _ _ _ _=>rfl
 have bZ:∀(tm:Env) (hp:Hp),bg tm hp (.qR [AV.str [],.str [],.str [],.str []] [])=FL (.agg [AV.str [],.str [],.str [],.str []]):=fun _ _=>rfl
 unfold BY rV;by_cases c:kL C R S F=0
 .obtain ⟨b1,b2⟩:=AE c;have iW:=iW.resolve_left (fun q=>q c);rw[yD c,yt iW,yt iW];rw[c] at e1;unfold ff at e4 iW ⊢;generalize bS [if i<0\/C*R-1<i then (3:Int) else 0,jx s]=z at*
  unfold ab at e1 e2 e3 e4;unfold ab;rw[aE h.L7]
  simp only[go_sem,ya,yb,yz,yk,yi,EP,aQ,aT,yd,ye,yp,fj,fz,hv.pu,hv.ai,hv.one,hv.cells,e1,wrap64 (n:=C*R) (by omega) (by omega),wrap64 (n:=C*R-1) (by omega) (by omega),e2,e3,gF,e4,iW,aM,cI,cJ,nV,kP];rfl
 .rw [yt c,yt c];unfold ab at e1;unfold ab;rw[aE h.L7];simp only[go_sem,ya,yb,EP,aQ,yd,ye,fj,fz,hv.pu,hv.ai,hv.one,hv.cells,e1,c,aM,cI,cJ,nV,kP];rfl
def aeH{n:Nat}(h:n<=9000):IntKind.wrap .i64 (n:Int)=(n:Int):=wrap64 (by omega) (by omega)
def asA(h:M6 P L){v:AV}{F:List (List Nat)}{C R S i:Nat}{s:List Nat}(hv:cF eY v F)(hl:F.length<=1000000)(hr:∀r,r∈F->r.length<=1000000)(hs:s.length<=1000000)(hF:nS F (R*S) (C*S))(hC:C<=8)(hR:R<=8)(hS:S<=8)(Sd:2<=S)(hi:i<C*R)(fU:kL C R S F=0)(hz:jx s=0):ab P L 656 [.agg [aa C,aa R,aa S],v,aa i,.str s] (.aw [.agg (BY C R S F i s (dP F C S i)),aa (rV C R S F i s (dP F C S i))]):=by
 have e1:=ahK h.toCtd.toFrc hv hl hr (C:=C) (R:=R) (S:=S);have e2:=LS (P:=P) (L:=L) h.LW h.mj i 0 ((C*R:Nat)-1:Int);have e3:=ahN h.toCtd.toCk h.mj h.LY (s:=s) hs;have AE:C*R<=64:=xf hC hR;have AG:S*S<=64:=xf hS hS;have aE9:2*2<=S*S:=xf Sd Sd;obtain⟨l1,l2⟩:=OL hi;rw[yt (by omega)] at e2;obtain⟨ck,fD⟩:=adI hz;have ke:=OI ck (yu 2400);obtain⟨bv,e5,hb⟩:=ahH h.toCtd.toCk ck;have dC:=hb;obtain⟨b1,b2,b3,b4,rfl,gb⟩:=hb.gen;have e4:=LR (P:=P) (L:=L) h.LX (kz ycZ [0,0]) (by simp);simp only[yy,yJ,yd,yb,y7,wE,show bS [0,0]=0 from rfl] at e4;have e6:ab P L 673 [.agg [aa C,aa R,aa S],.agg [aa ((i%C:Nat):Int),aa ((i/C:Nat):Int)]] (.fn (.f 719) [] [iR C R S,kK (i%C) (i/C)]):=by
  unfold ab;rw[aE h.aA9];simp only[go_sem,ya,yb,Wi,ib,Xp]
  first | done | rfl
 have h1:(i:Int).tmod (C:Int)=((i%C:Nat):Int):=(ycb i C).symm;have h2:(i:Int).tdiv (C:Int)=((i/C:Nat):Int):=(ycc i C).symm;have BV:(C:Int)≠0:=by omega
 have BZ:(C:Int)*(R:Int)=((C*R:Nat):Int):=by rw[xM]
 have wi1:=aeH (n:=i%C) (by omega);have Zn:=aeH (n:=i/C) (by omega);have pY:i/C<=64:=xi (Nat.div_le_self _ _) (by omega);obtain⟨ls,ms,q1,q2,e9⟩:=aBC h (C:=C) (R:=R) (S:=S) (a:=i%C) (b:=i/C) (i:=i) (bs:=0) (s:=s) (p:=dP F C S i) hv hF hC hR hS l1 l2 rfl dC ke;generalize Mk:dP F C S i=p at*
 have kp:∀a b,a<S->b<S->Hq 429 (p a b):=fun a b ha hb=>by
  rw[<-Mk];exact hF.H (pn l2 hb) (pn l1 ha)
 obtain⟨kl,km⟩:=Q4 kp ke;have ql:=q1.len;have qm:=q2.len;have il:=TR yda q1;have im:=TR yda q2;rw[yU,th] at ql qm il im;obtain⟨r,AB,bh⟩:=aAP h.toCtd.toCen.toMom.toFr' h.LV h.Xn il (K:=3000) (fun x hx=>by
  obtain⟨t,ht,rfl⟩:=ud.1 hx
  exact kl t (vW.1 ht)) (by rw[yU,th];omega) (by rw[yU,th];omega)
 rw[adJ] at bh;have DI:=QI h.toCtd.toCen.toMom.toFr' bh;have I2:=aBd (bf (cC p (bl s) S) (S*S));obtain⟨r1,r2,r3,r4,rfl,gr⟩:=bh.gen;have oJ:=C5 (P:=P) (L:=L) h.mj (gS p S (S*S)) 3;have AH:=C5 (P:=P) (L:=L) h.mj (decide (bf (cC p (bl s) S) (S*S)=0)) 6;have oN:=LR (P:=P) (L:=L) h.LX (kz ycZ [if gS p S (S*S)=ycZ then 3 else 0,if decide (bf (cC p (bl s) S) (S*S)=0)=ycZ then 6 else 0]) (by simp);simp only[yy,yJ,yd,yb,y7,wE] at oN;have Y9:bS [if gS p S (S*S)=ycZ then 3 else 0,if decide (bf (cC p (bl s) S) (S*S)=0)=ycZ then 6 else 0]=jD p (bl s) S:=by
  unfold jD
  cases gS p S (S*S) with
  | true=>rfl
  | false=>by_cases c:bf (cC p (bl s) S) (S*S)=0<;>simp[bS,c]
 rw[Y9] at oN;have fz:=z7;have Zo:=aBa;have aM:∀(hp:Hp) (ct id:Nat) (a b c d:List Nat),fy hp ct id 0 4 [AV.str a,.str b,.str c,.str d] (FL (.cells ycZ ycZ ycZ 4 [AV.str [],.str [],.str [],.str []]))=FL (.aw [],aW hp id (.cells ycZ ycZ ycZ 4 [AV.str a,.str b,.str c,.str d]),ct):=fun _ _ _ _ _ _ _=>rfl
 have oM:∀ct,lH ct 4 [AV.str [],.str [],.str [],.str []]=FL (.ptr ct 0,.cells ycZ ycZ ycZ 4 [AV.str [],.str [],.str [],.str []]):=fun _=>rfl
 have hz4:∀ct,lH ct 4 [AV.int .i64 0,.ah,.int .i64 0,.ah]=FL (.ptr ct 0,.cells ycZ ycZ ycZ 4 [AV.int .i64 0,.ah,.int .i64 0,.ah]):=fun _=>rfl
 have nV:∀a b c d:List Nat,fT 4 ycZ [AV.str a,.str b,.str c,.str d]=FL (.agg [.str a,.str b,.str c,.str d]):=fun _ _ _ _=>rfl
 have bZ:∀(tm:Env) (hp:Hp),bg tm hp (.qR [AV.str [],.str [],.str [],.str []] [])=FL (.agg [AV.str [],.str [],.str [],.str []]):=fun _ _=>rfl
 have Zp:ff i 0 ((C:Int)*R-1)=0:=by unfold ff;rw[yt (by rw[BZ];omega)]
 have Zq:rV C R S F i s p=if jD p (bl s) S=0 then (if M7 p (bl s) S=ycZ then 4 else 0) else jD p (bl s) S:=by
  unfold rV;rw[yD fU,Zp,hz,yD (show bS [0,0]=0 from rfl),xV]
 unfold BY;rw[Zq,xV];rw[hz] at e3;rw[fU] at e1;obtain⟨m,hm⟩:∃m,S*S=m+1:=⟨S*S-1,by omega⟩;rw[hm] at e9 ql qm;simp only[my,zk,iq,DH,ym,yG] at e9;have fl:=fun (hp:Hp)=>kR (hp:=hp) (sz:=4) (k:=m+1) (cs:=ls) yda ql (by decide)
 have fm:=fun (hp:Hp)=>kR (hp:=hp) (sz:=4) (k:=m+1) (cs:=ms) yda qm (by decide)
 have fc:=fun (hp:Hp)=>kR (hp:=hp) (sz:=1) (k:=m+1) (cs:=nU S yda (m+1)) yda (by rw[JL,yi]) (by decide)
 have fr:=fun (hp:Hp)=>kR (hp:=hp) (sz:=1) (k:=m+1) (cs:=nU S ycZ (m+1)) yda (by rw[JL,yi]) (by decide)
 have kF:∀(hp:Hp) (n:Nat) (a b:Int),freeze (n+20) hp (.au ycZ 2 [aa a,aa b])=FL (.au ycZ 2 [aa a,aa b],hp):=fun hp n a b=>(kz ycZ [a,b]).ai (n+19)
 by_cases hd:jD p (bl s) S=0
 .have rW:gS p S (S*S)=yda:=by
   cases c:gS p S (S*S) with
   | false=>rfl
   | true=>unfold jD at hd;rw[yD c] at hd;exact absurd hd (by decide)
  have pQ:bf (cC p (bl s) S) (S*S)≠0:=fun c=>by
   unfold jD at hd;rw[yt (by rw[rW];decide),yD c] at hd;exact absurd hd (by decide)
  have je:0<=bl s:=fD;have eh:=fun (ro u:Bool) (T:Nat) (_:T<=S)=>Rat.ne_of_gt (adT (fun t ht=>agb rW ht) je pQ (fO S ro) u T)
  obtain⟨x,y,M9,hx,hy⟩:=ahU h.toExt (C:=C) (R:=R) (S:=S) (aeG (S:=S) (ro:=yda)) il im AG hS (fun t ht=>GM ht) kl km (eh yda);obtain⟨z,w,Na,dc,hw⟩:=ahU h.toExt (C:=C) (R:=R) (S:=S) (aeG (S:=S) (ro:=ycZ)) il im AG hS (fun t ht=>GM ht) kl km (eh ycZ);have kx:=fun (ro gr:Bool)=>GO gr kl km AG hS (fun t ht=>GM (ro:=ro) ht) S
  have mZ:=hx;have fV:=hy;have jX:=dc;have As:=hw;obtain⟨x1,x2,x3,x4,rfl,gx⟩:=hx.gen;obtain⟨y1,y2,y3,y4,rfl,gy⟩:=hy.gen;obtain⟨z1,z2,z3,z4,rfl,gz⟩:=dc.gen;obtain⟨w1,w2,w3,w4,rfl,gw⟩:=hw.gen;have hQL:QL [x1,x2,x3,x4,y1,y2,y3,y4,z1,z2,z3,z4,w1,w2,w3,w4] [cA p (bl s) S yda yda,cA p (bl s) S yda ycZ,cA p (bl s) S ycZ yda,cA p (bl s) S ycZ ycZ]:=QL.cons mZ (QL.cons fV (QL.cons jX (QL.cons As QL.nil)));have AI:=aAL h.QW h.Xi h.Xj h.LQ h.toCtd.toCen.toTx (TR ycZ hQL) (show 4<=1000000 by decide) (K:=600000) (fun u hu=>by
   simp only[xu,ybD,or_false] at hu
   rcases hu with rfl | rfl | rfl | rfl<;>exact kx _ _) (by decide)
  have pl:=hQL.pu;have Ak:=fun (tm:Env) (u1 u2 u3 u4 u5 u6 u7 u8 u9 rR FJ FK B0 B1 B2 u16:AV) (r:List (Nat×Nat×X))=>awM (tm:=tm) (x1:=u1) (x2:=u2) (x3:=u3) (x4:=u4) (x5:=u5) (x6:=u6) (x7:=u7) (x8:=u8) (x9:=u9) (x10:=rR) (x11:=FJ) (x12:=FK) (x13:=B0) (x14:=B1) (x15:=B2) (x16:=u16) (r:=r) gx.o gy.o gz.o gw.o
  have rJ:=fun tm u1 u2 u3 u4 u5 u6 u7 u8 u9 rR FJ FK B0 B1 B2 u16 r=>(Ak tm u1 u2 u3 u4 u5 u6 u7 u8 u9 rR FJ FK B0 B1 B2 u16 r).1
  have iO:=fun tm u5 u6 u7 u8 u9 rR FJ FK B0 B1 B2 u16 r=>(Ak tm .ah .ah .ah .ah u5 u6 u7 u8 u9 rR FJ FK B0 B1 B2 u16 r).2.1
  have Nb:=fun tm u9 rR FJ FK B0 B1 B2 u16 r=>(Ak tm .ah .ah .ah .ah .ah .ah .ah .ah u9 rR FJ FK B0 B1 B2 u16 r).2.2.1
  have Nc:=fun tm B0 B1 B2 u16 r=>(Ak tm .ah .ah .ah .ah .ah .ah .ah .ah .ah .ah .ah .ah B0 B1 B2 u16 r).2.2.2
  rw[yD hd];rw[hd] at oN;rw[hm] at oJ AB DI AH oN M9 Na I2 rW;rw[rW] at oJ e9 oN;have kG:¬bf (cC p (bl s) S) (m+1)=0:=by rw[<-hm];exact pQ
  rw[yQ kG] at AH oN I2;simp only[yC,xm] at oJ AH oN;rw[show M7 p (bl s) S=[cA p (bl s) S yda yda,cA p (bl s) S yda ycZ,cA p (bl s) S ycZ yda,cA p (bl s) S ycZ ycZ].any LG from rfl]
  cases hL:[cA p (bl s) S yda yda,cA p (bl s) S yda ycZ,cA p (bl s) S ycZ yda,cA p (bl s) S ycZ ycZ].any LG with
  | true=>
   have AI:=AI.1 hL;simp only[xA,show ¬((4:Int)=0) by decide,xm];simp only[yy,yJ,yd,yb] at AI;unfold ab at e1 e2 e3 e4 e5 e6 oJ AB DI AH oN M9 Na AI;unfold ab;rw[aE h.L7]
   simp only[go_sem,ya,yb,yz,yk,yi,EP,aQ,aT,yd,ye,yp,fj,fz,Zo,hv.pu,hv.ai,hv.one,hv.cells,e1,BZ,wrap64 (n:=((C*R:Nat):Int)) (by omega) (by omega),wrap64 (n:=((C*R:Nat):Int)-1) (by omega) (by omega),e2,e3,gF,e4,e5,bz,gb.st,fC _ _ _ BV,eK _ _ _ BV,h1,h2,Zn,e6];simp only[go_sem,ya,yb,xq,yz,yk,yi,e9,ye,oJ,fl,fm,fc,fr,AB,bz,gr.ai,DI,I2,AH,gF,oN,fj,fz,M9,hz4,gx.st,gy.st,Na,gz.st,gw.st,iC,rJ,iO,Nb,Nc,pl,AI,show ¬(4:Int)=0 by decide,yH,aM,cI,cJ,nV,kP];rfl
  | false=>
   obtain⟨rs,sY,AI⟩:=AI.2 hL;simp only[yC,xm,xA];have sY:eJ rs [RT (cA p (bl s) S yda yda),RT (cA p (bl s) S yda ycZ),RT (cA p (bl s) S ycZ yda),RT (cA p (bl s) S ycZ ycZ)]:=sY;have i0:=sY.bq (i:=0) (show 0<4 by decide);have i1:=sY.bq (i:=1) (show 1<4 by decide);have i2:=sY.bq (i:=2) (show 2<4 by decide);have i3:=sY.bq (i:=3) (show 3<4 by decide);simp only[wG,wV] at i0 i1 i2 i3;simp only[yy,yJ,yd,yb] at AI;unfold I1;generalize RT (cA p (bl s) S yda yda)=t1 at*
   generalize RT (cA p (bl s) S yda ycZ)=t2 at*
   generalize RT (cA p (bl s) S ycZ yda)=t3 at*
   generalize RT (cA p (bl s) S ycZ ycZ)=t4 at*
   have V2:∀(tm:Env) (a:List Nat) (r:List (Nat×Nat×X)),fS tm [.str [],.str []] 0 1 [.str a] r=fill tm [.str a,.str []] r:=fun tm a r=>by
    rw[mE (by simp) rfl];rfl
   have L4:∀(tm:Env) (a b:List Nat) (r:List (Nat×Nat×X)),fS tm [.str a,.str []] 1 1 [.str b] r=fill tm [.str a,.str b] r:=fun tm a b r=>by
    rw[mE (by simp) rfl];rfl
   have Zl:∀(tm:Env) (a b:List Nat) (r:List (Nat×Nat×X)),fS tm [AV.str [],.str [],.str [],.str []] 0 2 [.str a,.str b] r=fill tm [.str a,.str b,.str [],.str []] r:=fun tm a b r=>by
    rw[qJ (by rfl) (by simp) rfl];rfl
   have Zm:∀(tm:Env) (a b c d:List Nat) (r:List (Nat×Nat×X)),fS tm [AV.str a,.str b,.str [],.str []] 2 2 [.str c,.str d] r=fill tm [.str a,.str b,.str c,.str d] r:=fun tm a b c d r=>by
    rw[qJ (by rfl) (by simp) rfl];rfl
   unfold ab at e1 e2 e3 e4 e5 e6 oJ AB DI AH oN M9 Na AI;unfold ab;rw[aE h.L7]
   simp only[go_sem,ya,yb,yz,yk,yi,EP,aQ,aT,yd,ye,yp,fj,fz,Zo,hv.pu,hv.ai,hv.one,hv.cells,e1,BZ,wrap64 (n:=((C*R:Nat):Int)) (by omega) (by omega),wrap64 (n:=((C*R:Nat):Int)-1) (by omega) (by omega),e2,e3,gF,e4,e5,bz,gb.st,fC _ _ _ BV,eK _ _ _ BV,h1,h2,Zn,e6];simp only[go_sem,ya,yb,xq,yz,yk,yi,e9,ye,oJ,fl,fm,fc,fr,AB,bz,gr.ai,DI,I2,AH,gF,oN,fj,fz,M9,hz4,gx.st,gy.st,Na,gz.st,gw.st,iC,rJ,iO,Nb,Nc,pl,AI,sY.cg,i0,i1,i2,i3,V2,L4,Zl,Zm,aM,cI,cJ,nV];rfl
 .rw [yt hd,yt hd];rw[hm] at oJ AB DI AH oN I2;generalize jD p (bl s) S=u at*
  unfold ab at e1 e2 e3 e4 e5 e6 oJ AB DI AH oN;unfold ab;rw[aE h.L7]
  simp only[go_sem,ya,yb,yz,yk,yi,EP,aQ,aT,yd,ye,yp,fj,fz,Zo,hv.pu,hv.ai,hv.one,hv.cells,e1,BZ,wrap64 (n:=((C*R:Nat):Int)) (by omega) (by omega),wrap64 (n:=((C*R:Nat):Int)-1) (by omega) (by omega),e2,e3,gF,e4,e5,bz,gb.st,fC _ _ _ BV,eK _ _ _ BV,h1,h2,Zn,e6];simp only[go_sem,ya,yb,yz,yk,yi,e9,ye,oJ,fl,AB,bz,gr.ai,DI,I2,AH,gF,oN,hd,aM,cI,cJ,nV,kP];rfl
section
variable {v:AV}{F:List (List Nat)}{s:List Nat}
structure F6(P:aF)(L:Lib):Prop where
 u:M6 P L
 d:AF P L
 rc:IZ P L
 XD:Has P L 634 Qj
 XE:Has P L 636 Lj
 QZ:Has P L 639 Qk
 C7:Has P L 757 rb
 Xr:Has P L 768 Qv
 L6:Has P L 769 He
 VP:ab P L 637 [] (.bool ycZ)
def XF(a b c d:List Nat):jr (.ag [2,2,2,2]) (.agg [.str a,.str b,.str c,.str d]) (.agg [.str a,.str b,.str c,.str d])=FL ycZ:=by
 show dd [2,2,2,2] [.str a,.str b,.str c,.str d] [.str a,.str b,.str c,.str d]=_
 simp only[dd,OF rfl];rfl
def rX(v:AV)(i:Int)(s:List Nat):Obj:=.cells ycZ ycZ ycZ 3 [v,aa i,.str s]
def Zr(pv:aX v=ycZ)(ov:er v=ycZ)(i:Int)(s:List Nat)(ct:Nat):lH ct 3 [v,aa i,.str s]=FL (.ptr ct 0,rX v i s):=by
 rw[aQ (n:=3) rfl (by simp only[cd,ov];rfl)]
 simp only[aG,pv,rX];rfl
def apY(h:F6 P L){C R S i:Int}(hv:cF eY v F)(hn:¬(FD C R S=ycZ/\BU F=ycZ/\s.length<=40)):ab P L 757 [.agg [aa C,aa R,aa S],.agg [v,aa i,.str s]] (.bool ycZ):=by
 have ea:=h.VP;have g1:=Xv (P:=P) h.XD C R S;have g2:=Xu (P:=P) (L:=L) h.XE hv;have fz:=z7;have hb:=Zr hv.pu hv.one i s;unfold ab at ea g1 g2;unfold ab;rw[aE h.C7]
 cases c1:FD C R S with
 | false=>
  rw[c1] at g1;simp only[go_sem,ya,yb,rb,ib,hb,rX,ye,fj,fz,g1,yY,ea]
 | true=>
  rw[c1] at g1
  cases c2:BU F with
  | false=>
   rw[c2] at g2;simp only[go_sem,ya,yb,rb,ib,hb,rX,aT,yd,ye,fj,fz,hv.ai,g1,g2,yY,yX,ea]
  | true=>
   rw[c2] at g2;have hs:(s.length:Int)>40:=by
    have:¬s.length<=40:=fun q=>hn ⟨c1,c2,q⟩
    omega
   simp only[go_sem,ya,yb,rb,ib,hb,rX,aT,yd,ye,yp,fj,fz,hv.ai,g1,g2,yX,hs,AT,ea]
def acO(h:F6 P L){C R S i:Int}(hv:cF eY v F)(c1:FD C R S=ycZ)(c2:BU F=ycZ)(c3:s.length<=40)(AE:kL C R S F=0-> -9000<=C*R/\C*R<=9000)(iW:kL C R S F≠0\/bS [ff i 0 (C*R-1),jx s]≠0):ab P L 757 [.agg [aa C,aa R,aa S],.agg [v,aa i,.str s]] (.bool ycZ):=by
 have ea:=h.VP;have g1:=Xv (P:=P) h.XD C R S;have g2:=Xu (P:=P) (L:=L) h.XE hv;have fz:=z7;have hb:=Zr hv.pu hv.one i s;obtain⟨hl,hr⟩:=aeB c2;have bh:∀r,r∈F->r.length<=1000000:=fun r hm=>xi (hr r hm) (by decide)
 obtain⟨x,ex,ix,sx⟩:=ahO (P:=P) (L:=L) h.QZ hv (by omega) bh;have e1:=apX h.u (p:=fun _ _=>0) ix (by omega) bh (s:=s) (by omega) AE iW;have e4:=ahP h.rc hv (by omega) bh (C:=C) (R:=R) (S:=S);have e5:=ahS h.d.toRm h.L6 (s:=s) (by omega);rw[c1] at g1;rw[c2] at g2;have hs:¬(s.length:Int)>40:=by omega
 have aM:∀(hp:Hp) (ct id:Nat) (a b c d:List Nat),fy hp ct id 0 4 [AV.str a,.str b,.str c,.str d] (FL (.cells ycZ ycZ ycZ 4 [AV.str [],.str [],.str [],.str []]))=FL (.aw [],aW hp id (.cells ycZ ycZ ycZ 4 [AV.str a,.str b,.str c,.str d]),ct):=fun _ _ _ _ _ _ _=>rfl
 have oM:∀ct,lH ct 4 [AV.str [],.str [],.str [],.str []]=FL (.ptr ct 0,.cells ycZ ycZ ycZ 4 [AV.str [],.str [],.str [],.str []]):=fun _=>rfl
 have nV:∀a b c d:List Nat,fT 4 ycZ [AV.str a,.str b,.str c,.str d]=FL (.agg [.str a,.str b,.str c,.str d]):=fun _ _ _ _=>rfl
 have bZ:∀(tm:Env) (hp:Hp),bg tm hp (.qR [AV.str [],.str [],.str [],.str []] [])=FL (.agg [AV.str [],.str [],.str [],.str []]):=fun _ _=>rfl
 have jC:∀a:Bool,Bo yda (FL a)=FL (.bool a):=fun a=>by cases a<;>rfl
 have I3:=XF [] [] [] [];by_cases c:kL C R S F=0
 .have iW:=iW.resolve_left (fun q=>q c);obtain⟨b1,b2⟩:=AE c;have hE:rV C R S F i s (fun _ _=>0)=bS [ff i 0 (C*R-1),jx s]:=by unfold rV;rw[yD c,yt iW]
  have hV:BY C R S F i s (fun _ _=>0)=kP:=by unfold BY;rw[hE,yt iW]
  rw[hE,hV] at e1;rw[c] at e4;have I4:IntKind.wrap .i64 (C*R)=C*R:=wrap64 (by omega) (by omega);by_cases hi:i<0
  .have hw:ff i 0 (C*R-1)=3:=by unfold ff;rw[yD (.inl hi)]
   rw[hw] at e1;have hf:bS [3,jx s]=3:=rfl;rw[hf] at e1;unfold ab at ea g1 g2 ex e1 e4 e5;unfold ab;rw[aE h.C7];simp only[go_sem,ya,yb,rb,ib,hb,rX,aT,yd,ye,yp,fj,fz,hv.ai,g1,g2,yX,hs,AT,ex,sx,ix.ai,e1,kP,oM,aM,e4,hi,yM,nV,I3,jC,show ¬(3:Int)=0 by decide,yH,ea]
  .by_cases FB:C*R<=i
   .have hw:ff i 0 (C*R-1)=3:=by unfold ff;rw[yD (.inr (by omega))]
    rw[hw] at e1;have hf:bS [3,jx s]=3:=rfl;rw[hf] at e1;unfold ab at ea g1 g2 ex e1 e4 e5;unfold ab;rw[aE h.C7];simp only[go_sem,ya,yb,rb,ib,hb,rX,aT,yd,ye,yp,fj,fz,hv.ai,g1,g2,yX,hs,AT,ex,sx,ix.ai,e1,kP,oM,aM,e4,hi,I4,FB,yM,nV,I3,jC,show ¬(3:Int)=0 by decide,yH,ea]
   .have hw:ff i 0 (C*R-1)=0:=by unfold ff;rw[yt (by omega)]
    rw[hw] at e1 iW;have hf:bS [0,jx s]=jx s:=by by_cases q:jx s=0<;>simp[bS,q]
    rw[hf] at e1 iW;generalize jx s=z at*
    unfold ab at ea g1 g2 ex e1 e4 e5;unfold ab;rw[aE h.C7];simp only[go_sem,ya,yb,rb,ib,hb,rX,aT,yd,ye,yp,fj,fz,hv.ai,g1,g2,yX,hs,AT,ex,sx,ix.ai,e1,kP,oM,aM,e4,e5,hi,I4,FB,iW,yM,nV,I3,jC,yH,ea]
 .have hE:rV C R S F i s (fun _ _=>0)=kL C R S F:=by unfold rV;rw[yt c]
  have hV:BY C R S F i s (fun _ _=>0)=kP:=by unfold BY;rw[hE,yt c]
  rw[hE,hV] at e1;generalize kL C R S F=z at*
  unfold ab at ea g1 g2 ex e1 e4;unfold ab;rw[aE h.C7];simp only[go_sem,ya,yb,rb,ib,hb,rX,aT,yd,ye,yp,fj,fz,hv.ai,g1,g2,yX,hs,AT,ex,sx,ix.ai,e1,kP,oM,aM,e4,c,yM,nV,I3,jC,yH,ea]
end
section
variable {F:List (List Nat)}{s:List Nat}
def apZ(h:F6 P L){C R S i:Nat}{v:AV}(hv:cF eY v F)(hC:C<=8)(hR:R<=8)(hS:S<=8)(Sd:2<=S)(hi:i<C*R)(hF:nS F (R*S) (C*S))(c1:FD C R S=ycZ)(c2:BU F=ycZ)(c3:s.length<=40)(fU:kL C R S F=0)(hz:jx s=0):ab P L 757 [.agg [aa C,aa R,aa S],.agg [v,aa i,.str s]] (.bool ycZ):=by
 have ea:=h.VP;have g1:=Xv (P:=P) h.XD C R S;have g2:=Xu (P:=P) (L:=L) h.XE hv;have fz:=z7;have hb:=Zr hv.pu hv.one i s;obtain⟨hl,hr⟩:=aeB c2;have bh:∀r,r∈F->r.length<=1000000:=fun r hm=>xi (hr r hm) (by decide)
 obtain⟨x,ex,ix,sx⟩:=ahO (P:=P) (L:=L) h.QZ hv (by omega) bh;have e1:=asA h.u ix (by omega) bh (s:=s) (by omega) hF hC hR hS Sd hi fU hz;have e4:=ahP h.rc hv (by omega) bh (C:=C) (R:=R) (S:=S);have e5:=ahS h.d.toRm h.L6 (s:=s) (by omega);obtain⟨ck,je⟩:=adI hz;have ke:=OI ck (yu 2400);have AE:C*R<=64:=xf hC hR;have AG:S*S<=64:=xf hS hS;have e6:=aBE h.d hv hF hC hR hS (by omega) hi (p:=dP F C S i) rfl ke je;rw[<-(Oe ck).1] at e6;obtain⟨l1,l2⟩:=OL hi;have kp:∀a b,a<S->b<S->Hq 429 (dP F C S i a b):=fun a b ha hb=>hF.H (pn l2 hb) (pn l1 ha)
 obtain⟨kl,km⟩:=Q4 kp ke;have kx:=fun (ro gr:Bool)=>GO gr kl km AG hS (fun t ht=>GM (ro:=ro) ht) S
 have BZ:(C:Int)*(R:Int)=((C*R:Nat):Int):=by rw[xM]
 have I4:IntKind.wrap .i64 ((C*R:Nat):Int)=((C*R:Nat):Int):=wrap64 (by omega) (by omega);have nR:¬(i:Int)<0:=by omega
 have FB:¬((C*R:Nat):Int)<=i:=by omega
 have Zp:ff i 0 ((C:Int)*R-1)=0:=by unfold ff;rw[yt (by rw[BZ];omega)]
 have Zq:rV C R S F i s (dP F C S i)=if jD (dP F C S i) (bl s) S=0 then (if M7 (dP F C S i) (bl s) S=ycZ then 4 else 0) else jD (dP F C S i) (bl s) S:=by
  unfold rV;rw[yD fU,Zp,hz,yD (show bS [0,0]=0 from rfl),xV]
 unfold BY at e1;rw[Zq,xV] at e1;have e7:=aBg h.d.toRl h.Xr (b:=0) (w:=.au ycZ 4 ([RT (cA (dP F C S i) (bl s) S yda yda),RT (cA (dP F C S i) (bl s) S yda ycZ),RT (cA (dP F C S i) (bl s) S ycZ yda),RT (cA (dP F C S i) (bl s) S ycZ ycZ)].map AV.str)) (l:=[cA (dP F C S i) (bl s) S yda yda,cA (dP F C S i) (bl s) S yda ycZ,cA (dP F C S i) (bl s) S ycZ yda,cA (dP F C S i) (bl s) S ycZ ycZ]) (JJ ycZ [RT (cA (dP F C S i) (bl s) S yda yda),RT (cA (dP F C S i) (bl s) S yda ycZ),RT (cA (dP F C S i) (bl s) S ycZ yda),RT (cA (dP F C S i) (bl s) S ycZ ycZ)]) (by simp) (K:=600000) (fun u hu=>by
  simp only[xu,ybD,or_false] at hu
  rcases hu with rfl | rfl | rfl | rfl<;>exact kx _ _) (by decide)
 rw[yD rfl] at e7;simp only[y7,wE] at e7;unfold M7 I1 at e1;unfold M8 I1 at e6;rw[fU] at e4;rw[hz] at e5;rw[c1] at g1;rw[c2] at g2;have hs:¬(s.length:Int)>40:=by omega
 have aM:∀(hp:Hp) (ct id:Nat) (a b c d:List Nat),fy hp ct id 0 4 [AV.str a,.str b,.str c,.str d] (FL (.cells ycZ ycZ ycZ 4 [AV.str [],.str [],.str [],.str []]))=FL (.aw [],aW hp id (.cells ycZ ycZ ycZ 4 [AV.str a,.str b,.str c,.str d]),ct):=fun _ _ _ _ _ _ _=>rfl
 have Hj:∀(hp:Hp) (ct id:Nat) (a b c d a' b' c' d':List Nat),fy hp ct id 0 4 [AV.str a,.str b,.str c,.str d] (FL (.cells ycZ ycZ ycZ 4 [AV.str a',.str b',.str c',.str d']))=FL (.aw [],aW hp id (.cells ycZ ycZ ycZ 4 [AV.str a,.str b,.str c,.str d]),ct):=fun _ _ _ _ _ _ _ _ _ _ _=>rfl
 have oM:∀ct,lH ct 4 [AV.str [],.str [],.str [],.str []]=FL (.ptr ct 0,.cells ycZ ycZ ycZ 4 [AV.str [],.str [],.str [],.str []]):=fun _=>rfl
 have nV:∀a b c d:List Nat,fT 4 ycZ [AV.str a,.str b,.str c,.str d]=FL (.agg [.str a,.str b,.str c,.str d]):=fun _ _ _ _=>rfl
 have bZ:∀(tm:Env) (hp:Hp),bg tm hp (.qR [AV.str [],.str [],.str [],.str []] [])=FL (.agg [AV.str [],.str [],.str [],.str []]):=fun _ _=>rfl
 have jC:∀a:Bool,Bo yda (FL a)=FL (.bool a):=fun a=>by cases a<;>rfl
 have kF:∀(hp:Hp) (n:Nat) (a b c d:List Nat),freeze (n+20) hp (.au ycZ 4 [.str a,.str b,.str c,.str d])=FL (.au ycZ 4 [.str a,.str b,.str c,.str d],hp):=fun hp n a b c d=>(JJ ycZ [a,b,c,d]).ai (n+19)
 have agf:∀id,GQ 2 2 0 (.ptr id 0)=FL (.ptr id 0):=fun _=>rfl
 have agh:∀id,GQ 2 2 1 (.ptr id 0)=FL (.ptr id 2):=fun _=>rfl
 have Ak:∀(tm:Env) (a b c d:List Nat),fill tm [AV.str [],.str [],.str [],.str []] []=FL [AV.str [],.str [],.str [],.str []]:=fun _ _ _ _ _=>rfl
 have rJ:∀(tm:Env) (a:List Nat) (r:List (Nat×Nat×X)),fS tm [AV.str [],.str [],.str [],.str []] 0 1 [.str a] r=fill tm [.str a,.str [],.str [],.str []] r:=fun tm a r=>by rw[mE (by simp) rfl];rfl
 have iO:∀(tm:Env) (a b:List Nat) (r:List (Nat×Nat×X)),fS tm [AV.str a,.str [],.str [],.str []] 1 1 [.str b] r=fill tm [.str a,.str b,.str [],.str []] r:=fun tm a b r=>by rw[mE (by simp) rfl];rfl
 have Nb:∀(tm:Env) (a b c:List Nat) (r:List (Nat×Nat×X)),fS tm [AV.str a,.str b,.str [],.str []] 2 1 [.str c] r=fill tm [.str a,.str b,.str c,.str []] r:=fun tm a b c r=>by rw[mE (by simp) rfl];rfl
 have Nc:∀(tm:Env) (a b c d:List Nat) (r:List (Nat×Nat×X)),fS tm [AV.str a,.str b,.str c,.str []] 3 1 [.str d] r=fill tm [.str a,.str b,.str c,.str d] r:=fun tm a b c d r=>by rw[mE (by simp) rfl];rfl
 have he0:=XF [] [] [] [];by_cases hd:jD (dP F C S i) (bl s) S=0
 .rw [yD hd] at e1;rw[yD hd,hd] at e6;have I3:=XF (RT (cA (dP F C S i) (bl s) S yda yda)) (RT (cA (dP F C S i) (bl s) S yda ycZ)) (RT (cA (dP F C S i) (bl s) S ycZ yda)) (RT (cA (dP F C S i) (bl s) S ycZ ycZ))
  cases hL:[cA (dP F C S i) (bl s) S yda yda,cA (dP F C S i) (bl s) S yda ycZ,cA (dP F C S i) (bl s) S ycZ yda,cA (dP F C S i) (bl s) S ycZ ycZ].any LG with
  | true=>
   rw[hL] at e1 e7;simp only[xA,show ¬((4:Int)=0) by decide,xm] at e1 e7;generalize RT (cA (dP F C S i) (bl s) S yda yda)=t1 at*
   generalize RT (cA (dP F C S i) (bl s) S yda ycZ)=t2 at*
   generalize RT (cA (dP F C S i) (bl s) S ycZ yda)=t3 at*
   generalize RT (cA (dP F C S i) (bl s) S ycZ ycZ)=t4 at*
   unfold ab at ea g1 g2 ex e1 e4 e5 e6 e7;unfold ab;rw[aE h.C7];simp only[go_sem,ya,yb,yz,yi,rb,ib,hb,rX,aT,yd,ye,yp,fj,fz,hv.ai,g1,g2,yY,yX,hs,AT,ex,sx,ix.ai,e1,kP,oM,aM,e4,nR,BZ,I4,FB,yM,yH,e5,e6,agf,agh,rJ,iO,Nb,Nc,gF,e7,Hj,nV,he0,jC,show ¬(4:Int)=0 by decide,ea]
  | false=>
   rw[hL] at e1 e7;simp only[yC,xA,xm] at e1 e7;generalize RT (cA (dP F C S i) (bl s) S yda yda)=t1 at*
   generalize RT (cA (dP F C S i) (bl s) S yda ycZ)=t2 at*
   generalize RT (cA (dP F C S i) (bl s) S ycZ yda)=t3 at*
   generalize RT (cA (dP F C S i) (bl s) S ycZ ycZ)=t4 at*
   unfold ab at ea g1 g2 ex e1 e4 e5 e6 e7;unfold ab;rw[aE h.C7];simp only[go_sem,ya,yb,yz,yi,rb,ib,hb,rX,aT,yd,ye,yp,fj,fz,hv.ai,g1,g2,yX,hs,AT,ex,sx,ix.ai,e1,oM,aM,e4,nR,BZ,I4,FB,yM,yH,e5,e6,agf,agh,rJ,iO,Nb,Nc,gF,e7,nV,I3,jC,ea]
 .rw [yt hd,yt hd] at e1;rw[yt hd] at e6;generalize jD (dP F C S i) (bl s) S=z at*
  unfold ab at ea g1 g2 ex e1 e4 e5 e6;unfold ab;rw[aE h.C7];simp only[go_sem,ya,yb,rb,ib,hb,rX,aT,yd,ye,yp,fj,fz,hv.ai,g1,g2,yX,hs,AT,ex,sx,ix.ai,e1,kP,oM,aM,e4,nR,BZ,I4,FB,hd,yM,yH,e5,e6,nV,he0,jC,ea]
def alT(h:F6 P L){C R S i:Int}{v:AV}(hv:cF eY v F)(hb:∀r,r∈F->∀b,b∈r->b<4294967296):ab P L 757 [.agg [aa C,aa R,aa S],.agg [v,aa i,.str s]] (.bool ycZ):=by
 by_cases hg:FD C R S=ycZ/\BU F=ycZ/\s.length<=40
 .obtain ⟨c1,c2,c3⟩:=hg;have AE:kL C R S F=0-> -9000<=C*R/\C*R<=9000:=fun c=>by
   obtain⟨g,_⟩:=aew c hb;obtain⟨hC,hR,hS,k1,k8,r1,r8,s2,s8⟩:=g;rw[hC,hR,<-xM]
   have:=xf k8 r8
   omega
  by_cases iW:kL C R S F=0
  .by_cases hq:bS [ff i 0 (C*R-1),jx s]=0
   .obtain ⟨q1,q2⟩:=adC.1 hq;obtain⟨g,hF⟩:=aew iW hb;obtain⟨hC,hR,hS,k1,k8,r1,r8,s2,s8⟩:=g;generalize C.toNat=c at*
    generalize R.toNat=r at*
    generalize S.toNat=t at*
    subst hC hR hS;have hi:0<=i/\i<(c*r:Nat):=by
     unfold ff at q1;by_cases w:i<0\/(c:Int)*r-1<i
     .rw [yD w] at q1;exact absurd q1 (by decide)
     .rw [<-xM] at w;omega
    obtain⟨n,rfl⟩:=Int.eq_ofNat_of_zero_le hi.1;exact apZ h hv k8 r8 s8 s2 (by omega) hF c1 c2 c3 iW q2
   .exact acO h hv c1 c2 c3 AE (.inr hq)
  .exact acO h hv c1 c2 c3 AE (.inl iW)
 .exact apY h hv hg
end
abbrev aBF:Ty:=.cat (.sl Q3) (.cat (.int .i64) (.cat .str .nil))
abbrev JM:List Ty:=[ahT,aBF]
def akZ{P:aF}{L:Lib}(h:F6 P L){ls:List (List AV)}(hs:jP nd JM ls):ab P L 757 (KR JM ls) (.bool ycZ):=by
 obtain⟨_,_,rfl,h1,h2⟩:=av5 hs;obtain⟨c,r,t,rfl⟩:=apU h1;obtain⟨_,_,rfl,h3,_,_,rfl,⟨i,rfl,_⟩,_,_,rfl,⟨s,rfl,_⟩,rfl⟩:=h2;obtain⟨v,M,rfl,hv,hb⟩:=asw h3;exact alT h hv hb
namespace J2
open Go Go.Proofs
def T:List (Tr bt):=[.n 637 [.o 7 [] (.bool ycZ)] .l .l]
def L0:VE.Lib:=Kw (Kw (Kw VE.aI 99 OE) 753 z6) 427 z6
def L1:VE.Lib:=PT L0 T 1000
def nu:Nu VE.prog VE.aI:=by
 repeat' (first | rfl | constructor)
def lw:F6 VE.prog L1:=by
 repeat' (first | rfl | constructor)
section
variable {W:yj}{m:Int}(hm:W.cell? ⟨4,0,none⟩=FL (.int .i64 m))(ht:Go.Lib.TabIs Tryz.prog W "internal/strconv.uint64pow10" .u64 Go.Lib.pow10Tab)
include hm ht
theorem linked:iy ((J1.O W).qF L1):=by
 have hO:=J1.aqC hm ht;have hs:=ani hO nu rfl rfl rfl ⟨rfl,rfl,rfl⟩ (fn:=Tryz.f168) (c:=C3) Tryz.func168 rfl rfl trivial apu;have hT:hZ (J1.O W) T:=hZ.cons (Tr.kT (mO.one (lP.holds hO rfl rfl)) Tr.jL Tr.jL) hZ.nil;have h1:=Ta hO hs;have h2:=Ta h1 (adH (O:=(J1.O W).qF _) (n:=753) (fun _ _=>F0 Tryz.func148 rfl (by decide)) Tryz.aAD);have h3:=Ta h2 (adH (O:=((J1.O W).qF _).qF _) (n:=427) (fun _ _=>F0 Tryz.func78 rfl (by decide)) Tryz.QS);exact ade h3 hT 1000
theorem law{ls:List (List AV)}(hs:jP nd JM ls):et (J1.O W) 757 (KR JM ls) (.bool ycZ):=by
 obtain⟨k,hk⟩:=ad2 (akZ lw hs);exact sound (linked hm ht) hk
end
end J2
end VE
