import Derived.RangeFuncLeaves
import Derived.OrdersIn
import Derived.LoopNIn
import Derived.RangeFuncIn
import Derived.Lib.Index
import Derived.Lib.ItoaNum
import Derived.Lib.Atoi
import Derived.Lib.BitFns
import Derived.Lib.Repeat
import Derived.Lib.SlTrimSet
import Derived.Shelf.Strings.Cut
import Derived.Shelf.Strings.Prefix
import Derived.Shelf.Small.Bits
import Derived.RowKit
import Derived.Test.YtebpicijmcnecaaGreatDoorTaa
set_option linter.all false
set_option maxRecDepth 100000
open Array renaming getD_eq_getD_getElem?->wi,getElem?_append_left->yaq,getElem?_eq_getElem->uT,getElem?_eq_none->yaC,getElem?_eq_some_iff->xv,replicate->uE
open Bool renaming and_eq_true->yf,false_eq_true->yC,not_eq_true'->vT,or_eq_false_iff->yaR,or_eq_true->uH
open Classical renaming em->td
open Go renaming Call->yad,Calls->wz,Code->vA,Deferred->yam,Ending->yaS,Exit->uD,Func->yaE,FuncId->tS,LeavesInM->ycH,Loop->uY,Next->yaF,Obj->yal,Oper->yV,Operand->xt,Program->xp,ResultVar->ycF,RoundIn->ybt,TypeId->yA,Value->yh,World->yj
open Int renaming natCast_nonneg->yas,ofNat->ybE
open List renaming all_eq_true->ybv,countP_cons->ybw,getD_eq_getElem?_getD->xd,getElem?_cons_succ->yaD,getElem?_cons_zero->ui,getElem?_eq_getElem->xo,getElem?_eq_some_iff->xI,length_append->yN,length_cons->yy,length_drop->xY,length_map->yU,length_nil->yJ,length_take->yT,mapM_cons->uS,map_append->xb,map_cons->y7,map_reverse->yav,mem_append->xJ,mem_cons->xu,mem_cons_of_mem->xR,mem_cons_self->wA,mem_range->vW,size_toArray->tu
open Nat renaming add_mul->xH,add_zero->y5,beq->yq,ble->yE,ble_eq_true_of_le->yB,blt->yO,eq_of_beq_eq_true->yg,eq_of_mul_eq_mul_right->uU,eq_or_lt_of_le->vM,eq_zero_or_pos->xj,le_of_ble_eq_true->yv,le_of_lt_succ->vV,le_refl->yu,le_trans->xi,lt_of_lt_of_le->yP,lt_or_ge->vn,lt_succ_self->yag,mul_le_mul_right->yI,strongRecOn->vR,testBit->vJ,testBit_or->ybP,zero_add->yd,zero_le->tq
open Ne renaming symm->ycG
open Option renaming bind_some->wF,getD_some->wX,map_some->wM
open Option.some renaming injEq->yc
open Prod.mk renaming injEq->yo
open UInt8 renaming ofNat->ycd,toNat->xk,toNat_ofNat'->yaW
open Option renaming some->FL,none->FM
open Bool renaming true->ycZ,false->yda
namespace VE
open Go (IntKind)
section
open Go
section
variable {tmps:Array yh}{seen:List Nat}
section
variable {O:bA}{m m':Mp}{S:Nat->Prop}{w:yj}{f:Nat->Option Nat}
def GV(f:Nat->Option Nat)(m m':Mp):Prop:=∀id j,f id=FL j->m' j=m id
mutual
def ac4{ae:Nat->Nat}(hf:GV f m m'):∀(v:AV) (u:yh),af ae m S w v u->af ae m' S w (br f v) u
 | .int _ _,_,h | .bool _,_,h | .av _ _,_,h | .dl _ _ _,_,h | .str _,_,h | .kY,_,h | .ah,_,h | .iG,_,h | .jM,_,h | .undef,_,h=>by
  simpa only[br,af] using h
 | .ptr id o,u,h=>by
  simp only[br]
  cases hi:f id with
  | none=>simp only[af]
  | some j=>
   simp only[af] at h ⊢;rw[hf id j hi];exact h
 | .bN cs,u,h=>by
  simp only[br];exact sd (fun _ h=>h) (fun _ _=>rfl) _ _ (by simp[aX]) h
 | .au ex n cs,u,h=>by
  simp only[br];exact sd (fun _ h=>h) (fun _ _=>rfl) _ _ (by simp[aX]) h
 | .c7 _ _ _ _,u,h=>by simp only[af] at h
 | .ax id o n,u,h=>by
  simp only[br]
  cases hi:f id with
  | none=>simp only[af]
  | some j=>
   simp only[af] at h ⊢;rw[hf id j hi];exact h
 | .fn (.f g) first cap,u,h=>by
  simp only[br,af] at h ⊢;obtain⟨fi,ca,h1,h2,h3⟩:=h;exact⟨fi,ca,h1,Cd hf first _ h2,Cd hf cap _ h3⟩
 | .fn (.y l) first cap,u,h=>by
  simp only[br]
  cases hi:f l with
  | none=>simp only[af]
  | some j=>
   simp only[af] at h ⊢;rw[hf l j hi];exact h
 | .map id,u,h=>by
  simp only[br]
  cases hi:f id with
  | none=>simp only[af]
  | some j=>
   simp only[af] at h ⊢;rw[hf id j hi];exact h
 | .jN ks vs,u,h=>by
  simp only[br];exact sd (fun _ h=>h) (fun _ _=>rfl) _ _ (by simp[aX]) h
 | .it id,u,h=>by
  simp only[br]
  cases hi:f id with
  | none=>simp only[af]
  | some j=>
   simp only[af] at h ⊢;rw[hf id j hi];exact h
 | .agg cs,u,h=>by
  simp only[br,af] at h ⊢;obtain⟨xs,h1,h2⟩:=h;exact⟨xs,h1,Cd hf cs _ h2⟩
 | .aw cs,u,h=>by
  simp only[br,af] at h ⊢;obtain⟨xs,h1,h2⟩:=h;exact⟨xs,h1,Cd hf cs _ h2⟩
def Cd{ae:Nat->Nat}(hf:GV f m m'):∀(vs:List AV) (us:List yh),aB ae m S w vs us->aB ae m' S w (dI f vs) us
 | [],us,h=>by simpa only[dI,aB] using h
 | v::r,us,h=>by
  simp only[dI,aB] at h ⊢;have⟨u,t,h1,h2,h3⟩:=h;exact⟨u,t,h1,ac4 hf v u h2,Cd hf r t h3⟩
end
def al7{ae:Nat->Nat}(hf:GV f m m'){cs:List AV}{b o:Nat}(h:bU ae m S w cs b o):bU ae m' S w (dI f cs) b o:=by
 have⟨us,h1,_,h3⟩:=zm cs b o h;exact FY _ us o (Cd hf cs us h1) h3
def Tt:∀cs:List AV,(dI f cs).length=cs.length
 | []=>rfl
 | c::r=>by simp[dI,Tt r]
def abL:∀(tm:Env) (i:Nat),aj (dS f tm) i=br f (aj tm i)
 | [],i=>by simp[dS,aj,br]
 | (j,v)::r,i=>by
  simp only[dS,aj]
  cases yq j i with
  | true=>rfl
  | false=>exact abL r i
def aaT(tm:Env)(i:Nat):∀live:List Nat,aj (bm tm live) i=aj tm i\/aj (bm tm live) i=.undef
 | []=>.inr rfl
 | j::r=>by
  simp only[bm,aj]
  cases hb:yq j i with
  | true=>rw[yg hb];exact .inl rfl
  | false=>exact aaT tm i r
def abM{tm:Env}(hf:GV f m m')(h:bV O m S w tm tmps):bV O m' S w (dS f tm) tmps:=fun i=>by
 rw[abL];exact ac4 hf _ _ (h i)
def an2{id j:Nat}{o:Obj}{p:Pl}(hf:GV f m m')(hm:m id=FL p)(hj:m' j=FL p)(h:fk O m S w id o):fk O m' S w j (gI f o):=by
 cases o with
 | cells rw pu ex sz cs=>
  have⟨q,arr,t,h1,h2,h3,h4,h5,h6,h7,h8,h9,iM⟩:=h;rw[hm] at h1;injection h1 with h1;subst h1
  cases pu with
  | true=>exact⟨p,arr,t,hj,h2,h3,h4,h5,h6,B4 (fun _ h=>h) (fun _ _=>rfl) _ _ _ (h8 rfl) rfl h7,h8,h9,iM⟩
  | false=>exact⟨p,arr,t,hj,h2,h3,by rw[yR,Tt];exact h4,h5,by rw[yR,Tt];exact h6,al7 hf h7,by simp,h9,iM⟩
 | mp rw ks vs=>
  have⟨q,es,clock,h1,h2,h3,h4,h5,h6⟩:=h;rw[hm] at h1;injection h1 with h1;subst h1
  exact⟨p,es,clock,hj,h2,Cd hf _ _ h3,Cd hf _ _ h4,h5,h6⟩
 | si s pos=>
  have⟨q,t,h1,h2,h3,h4⟩:=h;rw[hm] at h1;injection h1 with h1;subst h1
  exact⟨p,t,hj,h2,h3,h4⟩
 | lp tm ps as_ body st pe=>
  have⟨q,l,hi,h1,h2,h3,h4,h5,h6,h7,h8⟩:=h;rw[hm] at h1;injection h1 with h1;subst h1
  exact⟨p,l,hi,hj,h2,h3,h4,h5,h6,abM hf h7,h8⟩
def aaU{i:Nat}:∀{l:List Nat} {k j:Nat},gZ i l k=FL j->k<=j/\l[j-k]? =FL i
 | [],k,j,h=>by simp[gZ] at h
 | x::r,k,j,h=>by
  simp only[gZ] at h
  cases hb:yq x i with
  | true=>
   simp_all
  | false=>
   rw[hb] at h;have⟨h1,h2⟩:=aaU h
   grind
def qD{a b:Nat}:yO a b=ycZ↔a<b:=by simp_all
def Nt{hp:Hp}{j:Nat}{o':Obj}:∀{l:List Nat} {k:Nat} {acc:Hp},ak (eE hp f l k acc) j=FL o'->
  (∃i id o,l[i]? =FL id/\j=k+i/\ak hp id=FL o/\o'=gI f o)\/ak acc j=FL o'
 | [],k,acc,h=>.inr h
 | x::r,k,acc,h=>by
  simp only[eE] at h
  cases hx:ak hp x with
  | none=>
   simp only[hx] at h;rcases Nt h with ⟨i,id,o,h1,h2,h3,h4⟩ | h
   .exact .inl ⟨i+1,id,o,by simpa using h1,by lia,h3,h4⟩
   .grind
  | some o=>
   simp only[hx] at h;rcases Nt h with ⟨i,id,o,h1,h2,h3,h4⟩ | h
   .exact .inl ⟨i+1,id,o,by simpa using h1,by lia,h3,h4⟩
   .rw [fH] at h;by_cases hc:k=j
    .simp only [hc,xA,yc] at h;exact .inl ⟨0,x,o,by simp,by lia,hx,h.symm⟩
    .grind
def Nv{base:Nat}{j:Nat}{o':Obj}:∀{hp:Hp},ak (fQ base f hp) j=FL o'->j<base/\∃o,ak hp j=FL o/\o'=gI f o
 | [],h=>by simp[fQ,ak] at h
 | (i,q)::r,h=>by
  simp only[fQ] at h
  cases hb:yO i base with
  | true=>
   rw[hb] at h;simp only[yx] at h;rw[fH] at h;by_cases hc:i=j
   .simp only [hc,xA,yc] at h;exact⟨by rw[<-hc];exact qD.1 hb,q,by rw[fH];simp[hc],h.symm⟩
   .simp only [hc,xm] at h;have⟨h1,o,h2,h3⟩:=Nv h;exact⟨h1,o,by rw[fH];simp[hc,h2],h3⟩
  | false=>
   rw[hb] at h;have⟨h1,o,h2,h3⟩:=Nv h;have hc:¬i=j:=fun e=>by
    have:=qD.2 h1
    grind
   exact⟨h1,o,by rw[fH];simp[hc,h2],h3⟩
def qZ(m:Mp)(base:Nat)(seen:List Nat):Mp:=fun j=>
 if j<base then m j else match seen[j-base]? with
  | some id=>if iD base seen id=FL j then m id else FM
  | none=>FM
def SX{base:Nat}{j:Nat}{p:Pl}(h:qZ m base seen j=FL p):∃id,iD base seen id=FL j/\m id=FL p/\(j<base->id=j):=by
 unfold qZ at h
 split at h
 .rename_i hj;exact⟨j,by simp[iD,qD.2 hj],h,fun _=>rfl⟩
 .grind
def an3{base:Nat}:GV (iD base seen) m (qZ m base seen):=by
 intro id j h;have h0:=h;unfold iD at h
 cases hb:yO id base with
 | true=>
  rw[hb] at h;simp only[yx,yc] at h;subst h;simp[qZ,qD.1 hb]
 | false=>
  rw[hb] at h;have⟨h1,h2⟩:=aaU h
  have:¬j<base:=by lia
  simp only[qZ,this,xm,h2,h0,xA]
def SA{s:St}{live:List Nat}(ht:bV O m S w s.tm tmps)(hh:aS O m S w s.hp s.ct)(hb:s.base<=s.ct):
  ∃m',bV O m' S w (bk live s).tm tmps/\aS O m' S w (bk live s).hp (bk live s).ct/\(bk live s).base=s.base/\s.base<=(bk live s).ct/\cf m S w s.hp m' S w (bk live s).hp s.base:=by
 simp only[bk];generalize aeN:reach s.hp s.base 100000 (dR (bm s.tm live)++cQ s.base s.hp) []=seen;have hr:=an3 (m:=m) (base:=s.base) (seen:=seen);have aH:∀j p,qZ m s.base seen j=FL p->j<s.base+seen.length:=by
  intro j p h;unfold qZ at h
  grind
 have back:∀j o' p,ak (eE s.hp (iD s.base seen) seen s.base (fQ s.base (iD s.base seen) s.hp)) j=FL o'->qZ m s.base seen j=FL p->
   ∃id o,iD s.base seen id=FL j/\ak s.hp id=FL o/\m id=FL p/\o'=gI (iD s.base seen) o:=by
  intro j o' p ho hm;have⟨id,h1,h2,h3⟩:=SX hm;rcases Nt ho with ⟨i,XQ,o,g1,g2,g3,g4⟩ | ho
  .have hj:¬j<s.base:=by lia
   have:qZ m s.base seen j=if iD s.base seen XQ=FL j then m XQ else FM:=by
    simp only[qZ,hj,xm,show j-s.base=i by lia,g1]
   grind
  .have ⟨g1,o,g2,g3⟩:=Nv ho
   grind
 refine⟨qZ m s.base seen,?_,⟨?_,aH,?_,hh.slt,?_,?_,hh.mM,hh.gi,fun j o' ho=>(by
  rcases Nt ho with ⟨i,XQ,o,g1,g2,g3,g4⟩ | ho
  .grind
  .have:=(Nv ho).1;lia)⟩,by trivial,by lia,⟨rfl,rfl,rfl,yu _,fun _ _ _=>rfl,fun _ h=>h,fun _ _=>rfl,fun _ h=>.inl h,?_,?_,fun _ r h=>⟨r,h⟩⟩⟩
 .refine abM hr (fun i=>?_);rcases aaT s.tm i live with h | h
  .rw [h];exact ht i
  .rw [h];simp only[af]
 .intro j o' p ho hm;obtain⟨id,o,h1,h2,h3,rfl⟩:=back j o' p ho hm;exact an2 hr h3 hm (hh.obj id o p h2 h3)
 .intro i j oi oj pi pj hi hj bK gN e;have⟨idi,o1,a1,a2,a3,_⟩:=back i oi pi hi bK;have⟨idj,o2,b1,b2,b3,_⟩:=back j oj pj hj gN
  have:=hh.inj idi idj o1 o2 pi pj a2 b2 a3 b3 e
  grind
 .intro j p hm;have⟨id,_,h2,_⟩:=SX hm;exact hh.blt id p h2
 .intro j p hm;have⟨id,_,h2,_⟩:=SX hm;exact hh.low id p h2
 .rintro b ⟨j,o',p,h1,h2,h3⟩;have⟨id,o,_,g2,g3,_⟩:=back j o' p h1 h2;exact .inl ⟨id,o,p,g2,g3,h3⟩
 .intro id p hid hm;simp[qZ,hid,hm]
end
end
end
section
open Go
section
variable {v:AV}{an:Hp}{lo:Nat}{u:yh}
section
variable {O:bA}{m:Mp}{S:Nat->Prop}{w:yj}{hp:Hp}{ct:Nat}
def abN(hh:aS O m S w hp ct)(id:Nat):aS O m S w (cT hp id) ct:=by
 have sub:∀i o,ak (cT hp id) i=FL o->ak hp i=FL o:=fun i o h=>by
  rw[Jh] at h
  grind
 exact⟨fun i o p h hm=>hh.obj i o p (sub i o h) hm,hh.lt,fun i j oi oj pi pj hi hj=>hh.inj i j oi oj pi pj (sub i oi hi) (sub j oj hj),hh.slt,hh.blt,hh.low,hh.mM,hh.gi,fun i o h=>hh.aH i o (sub i o h)⟩
def ac5{id b:Nat}(h:ef m (cT hp id) b):ef m hp b:=by
 have⟨i,o,p,h1,h2,h3⟩:=h;rw[Jh] at h1;by_cases hc:id=i
 .grind
 .simp only [hc,xm] at h1;exact⟨i,o,p,h1,h2,h3⟩
def ZH(hh:aS O m S w hp ct){id:Nat}{o:Obj}{p:Pl}(hg:ak hp id=FL o)(hm:m id=FL p):¬ef m (cT hp id) p.b:=by
 rintro⟨i,o',q,h1,h2,h3⟩;rw[Jh] at h1;by_cases hc:id=i
 .grind
 .simp only [hc,xm] at h1;exact hc (hh.inj i id o' o q p h1 hg h2 hm h3).symm
def aqd(hd:lB hp an){b:Nat}(h:ef m an b):ef m hp b:=by
 have⟨i,o,p,h1,h2,h3⟩:=h
 have:=hd i
 rw[h1] at this
 cases hq:ak hp i with
 | none=>rw[hq] at this;cases this
 | some q=>exact⟨i,q,p,hq,h2,h3⟩
def aaa{v':AV}{n:Nat}(hh:aS O m S w hp ct)(hf:freeze n hp v=FL (v',an))(hv:af O.ae m S w v u):
  ∃S',aS O m S' w an ct/\(∀b,S b->S' b)/\(∀b,S' b->S b\/ef m hp b)/\aX v'=ycZ/\af O.ae fa S' w v' u/\jt O.ae S' w lo v' u []:=by
 have⟨h1,h2,h3⟩:=SU (O:=O) hf;have⟨S',g1,g2,g3⟩:=acW hh h1 (fun id o p ho hm=>by
  have:=h2 id
  rw[ho] at this
  cases hq:ak hp id with
  | none=>rw[hq] at this;cases this
  | some q=>exact⟨q,rfl⟩) (yu _) (fun id o ho=>(by
  have:=h2 id
  rw[ho] at this
  cases hq:ak hp id with
  | none=>rw[hq] at this;cases this
  | some q=>exact hh.aH id q hq))
 have⟨k1,k2⟩:=h3 an m S' w ct cR.refl g1;have hr:=k1 u (mB (fun _ _ h=>h) g2 (fun _ _=>rfl) v u hv);have bh:af O.ae fa S' w v' u:=sd (fun _ h=>h) (fun _ _=>rfl) v' u k2 hr;refine⟨S',g1,g2,g3,k2,bh,?_⟩
 cases v' with
 | c7 _ _ _ _=>simp[aX] at k2
 | _=>exact⟨rfl,bh,k2⟩
def al8{S':Nat->Prop}{bs:List Nat}(hS:∀b,S b->S' b)(hn:∀b,b∈bs->¬S' b)(h:jt O.ae S w lo v u bs):jt O.ae S' w lo v u bs:=by
 cases v with
 | c7 ex sz n cs=>
  obtain⟨b,o,c,arr,t,rfl,rfl,g1,g2,g3,g4,g5,g6,g7,g8,g9⟩:=h;exact⟨b,o,c,arr,t,rfl,rfl,g1,g2,g3,hn b (by simp),g5,g6,g7,B4 hS (fun _ _=>rfl) cs b o g9 rfl g8,g9⟩
 | _=>simp only[jt] at h ⊢;exact⟨h.1,sd hS (fun _ _=>rfl) _ _ h.2.2 h.2.1,h.2.2⟩
def aaV{v':AV}{n:Nat}(hh:aS O m S w hp ct)(hf:qO n hp v=FL (v',an))(hv:af O.ae m S w v u)(bc:∀b,ef m hp b->lo<=b):
  ∃S' bs,aS O m S' w an ct/\(∀b,S b->S' b)/\(∀b,S' b->S b\/ef m hp b)/\jt O.ae S' w lo v' u bs/\bs.Nodup/\(∀b,b∈bs->ef m hp b/\¬ef m an b)/\(∀b,ef m an b->ef m hp b):=by
 have frozen:freeze n hp v=FL (v',an)->∃S' bs,aS O m S' w an ct/\(∀b,S b->S' b)/\(∀b,S' b->S b\/ef m hp b)/\jt O.ae S' w lo v' u bs/\bs.Nodup/\(∀b,b∈bs->ef m hp b/\¬ef m an b)/\(∀b,ef m an b->ef m hp b):=by
  intro hz;have⟨S',g1,g2,g3,g4,g5,g6⟩:=aaa (lo:=lo) hh hz hv
  exact⟨S',[],g1,g2,g3,g6,by simp,by simp,fun b hb=>aqd (SU (O:=O) hz).2.1 hb⟩
 unfold qO at hf
 split at hf
 .rename_i id o k
  split at hf
  .rename_i ex sz cs hg
   cases hc:yE (o+k*sz) cs.length with
   | false=>rw[hc] at hf;cases hf
   | true=>
    rw[hc] at hf;obtain⟨rfl,rfl⟩:=hf;have hle:=yv hc;obtain⟨p,c,hm,rfl,h1,h2⟩:=hv;have⟨p',arr,t,g1,g2,g3,g4,g5,g6,g7,g8,g9,g10⟩:=hh.obj id _ _ hg hm;rw[hm] at g1;injection g1 with g1
    subst g1;rw[g3] at h2;refine⟨S,[p.b],abN hh id,fun _ h=>h,fun _ h=>.inl h,?_,by simp,?_,fun b hb=>ac5 hb⟩
    .refine ⟨p.b,p.o+o,c,arr,t,rfl,rfl,h1,?_,bc _ (JP hg hm),g9 rfl,g2,?_,by lia,?_,B3 _ (AL _ _ (g8 rfl))⟩
     .intro hx;simp only[yf] at hx;have e1:=yg hx.2;have e2:=qD.1 hx.1.2;have e3:=g6 hx.1.1
      have:c*sz=k*sz:=by lia
      exact uU e2 this
     .simp only [slice,yT,xY];lia
     .exact B4 (fun _ h=>h) (fun _ _=>rfl) _ _ _ (B3 _ (AL _ _ (g8 rfl))) rfl (AK _ _ _ _ (rZ _ _ _ _ g7))
    .intro b hb;simp only[List.mem_singleton] at hb;subst hb;exact⟨JP hg hm,ZH hh hg hm⟩
  .grind
 .grind
def aab{lo n:Nat}:∀{vs eB:List AV} {us:List yh} {hp an:Hp} {S:Nat->Prop},aS O m S w hp ct->DS n hp vs=FL (eB,an)->aB O.ae m S w vs us->(∀b,ef m hp b->lo<=b)->
  ∃S' bs,(∀b,S b->S' b)/\(∀b,S' b->S b\/ef m hp b)/\mg O.ae S' w lo eB us bs/\bs.Nodup/\(∀b,b∈bs->ef m hp b)/\(∀b,S' b->b<w.heap.size)
 | [],eB,us,hp,an,S,hh,hf,hv,bc=>by
  obtain⟨rfl,rfl⟩:=hf;exact⟨S,[],fun _ h=>h,fun _ h=>.inl h,by simp only[mg];exact⟨hv,by trivial⟩,by simp,by simp,hh.slt⟩
 | v::r,eB,us,hp,an,S,hh,hf,hv,bc=>by
  simp only[DS] at hf
  cases h1:qO n hp v with
  | none=>simp[h1] at hf
  | some q=>
   have⟨v1,aZ⟩:=q;simp only[h1] at hf
   cases h2:DS n aZ r with
   | none=>simp[h2] at hf
   | some q2=>
    simp only[h2,yc,yo] at hf;obtain⟨rfl,rfl⟩:=hf;obtain⟨u,t,rfl,fb,c9⟩:=hv;have⟨S1,b1,k1,k2,k3,k4,k5,k6,k7⟩:=aaV (lo:=lo) hh h1 fb bc;have⟨S2,b2,g1,g2,g3,g4,g5,g6⟩:=aab (us:=t) k1 h2 (ir (fun _ _ h=>h) k2 (fun _ _=>rfl) _ _ c9) (fun b hb=>bc b (k7 b hb));have VW:∀b,b∈b1->¬S2 b:=by
     intro b hb hs;rcases g2 b hs with h | h
     .cases v1 with
      | c7 ex sz n cs=>
       simp only[jt] at k4
       grind
      | _=>simp only[jt] at k4;rw[k4.1] at hb;cases hb
     .grind
    refine⟨S2,b1++b2,fun b hb=>g1 b (k2 b hb),fun b hb=>?_,?_,?_,?_,g6⟩
    .grind
    .simp only [mg];exact⟨u,t,b1,b2,rfl,rfl,al8 g1 VW k4,g3⟩
    .grind
    .grind
def SY{lo:Nat}:∀{cs:List AV} {us:List yh},aG cs=ycZ->aB O.ae fa S w cs us->mg O.ae S w lo cs us []
 | [],us,_,h=>by simp only[aB] at h;exact⟨h,by trivial⟩
 | c::r,us,hp,h=>by
  obtain⟨u,t,rfl,h1,h2⟩:=h;simp only[aG,yf] at hp;refine⟨u,t,[],[],rfl,rfl,?_,SY hp.2 h2⟩
  cases c with
  | c7 _ _ _ _=>simp[aX] at hp
  | _=>exact⟨rfl,h1,hp.1⟩
def al9{r:AV}(hh:aS O m S w hp ct)(hr:result hp v=FL r)(hv:af O.ae m S w v u)(bc:∀b,ef m hp b->lo<=b):
  ∃S',(∀b,S b->S' b)/\(∀b,S' b->S b\/ef m hp b)/\(∀b,S' b->b<w.heap.size)/\po O.ae S' w lo r u:=by
 unfold result at hr
 split at hr
 .rename_i vs
  split at hr
  .cases h1:DS deep hp vs with
   | none=>simp[h1] at hr
   | some q=>
    simp only[h1,yc] at hr;subst hr;obtain⟨us,rfl,hv⟩:=hv;have⟨S',bs,g1,g2,g3,g4,g5,g6⟩:=aab (lo:=lo) hh h1 hv bc;exact⟨S',g1,g2,g6,us,bs,rfl,g3,g4⟩
  .cases h1:freeze deep hp (.aw vs) with
   | none=>simp[h1] at hr
   | some q=>
    have⟨v',an⟩:=q;simp only[h1,yc] at hr;subst hr;have⟨S',g1,g2,g3,g4,g5,g6⟩:=aaa (lo:=lo) hh h1 hv;refine⟨S',g2,g3,g1.slt,?_⟩
    cases v' with
    | aw cs=>
     obtain⟨xs,rfl,g5⟩:=g5;exact⟨xs,[],rfl,SY (by simpa[aX] using g4) g5,by simp⟩
    | _=>exact⟨[],g6⟩
 .rename_i Re
  cases h1:qO deep hp v with
  | none=>simp[h1] at hr
  | some q=>
   have⟨v',an⟩:=q;simp only[h1,yc] at hr;subst hr;have⟨S',bs,g1,g2,g3,g4,_⟩:=aaV (lo:=lo) hh h1 hv bc;refine⟨S',g2,g3,g1.slt,?_⟩
   cases v' with
   | aw cs=>
    obtain⟨rfl,h2,h3⟩:=g4;obtain⟨xs,rfl,h2⟩:=h2;exact⟨xs,[],rfl,SY (by simpa[aX] using h3) h2,by simp⟩
   | _=>exact⟨bs,g4⟩
end
end
end
section
open Go
def WF(ro:Option Nat):Fence:={Fence.wide with round:=ro}
section
variable {O:bA}
def adW(O:bA)(hp:Hp)(ct:Nat)(l:Nat)(xs:List AV)(v:AV)(an:Hp)(aU:Nat):Prop:=
 ∀(m:Mp) (S:Nat->Prop) (w:yj) (args:Array yh) (p:Pl),aS O m S w hp ct->m l=FL p->aB O.ae m S w xs args.toList->
  ∃f tmps assign body,(Instr.yield p.b args).run O.P w=.ok (.round p.b f tmps assign body) w/\ybt Fence.wide 0 O.P p.b f tmps assign body w (AN O m S w hp ct v an aU)
structure oV(O:bA)(run:cl):Prop where
 pure:∀n aq r,bL O.prog O.aI run n aq=FL r->et O n aq r
 heap:∀hp ct n aq v an aU,jl O.prog O.aI run hp ct n aq=FL (v,an,aU)->CG O n hp ct aq v an aU
 round:∀hp ct l xs v an aU,lA run hp ct l xs=FL (v,an,aU)->adW O hp ct l xs v an aU
end
section
variable {P:xp}{o:yV}{a:Act}{w:yj}{ro:Option Nat}{next:Act->yj->Prop}{Q:uD->Act->yj->Prop}
def Nw{c:yad}{f:xt}(ho:o.op=.call c)(hc:c.callee=.value f){g:tS}{fi ca:Array yh}(hf:a.eval f=.func (.func g) fi ca){R:yaS->yj->Prop}(h:Cj P g (fi++c.args.map a.eval++ca) w R)(hn:∀e w',R e w'->∃u,e=.returned u/\next (a.put o.dst u) w'):o.wpIn (WF ro) 0 P a w next Q:=by
 have dT:(o.semAt ro a.eval).run P w=(callFunc g (fi++c.args.map a.eval++ca)).run P w:=by
  rw[Oper.semAt_eq _ _ _ (fun c' h'=>by rw[ho] at h';cases h')];simp only[execOp,ho,resolve,hc,Deferred.ofValue,hf,Sem.run_bind,Sem.run_pure,Result.andThen_ok,invoke]
 refine⟨fun _ _=>trivial,?_⟩;show o.uponIn (WF ro) 0 P a next Q ((o.semAt ro a.eval).run P w)
 rw[dT];rcases h with ⟨h1,h2⟩ | ⟨u,w',h1,h2⟩
 .rw [h1,Oper.uponIn_enter];refine⟨fun h=>by simp[WF,Fence.wide] at h,?_⟩;have h3:CallsIn (WF ro) 0 P g (fi++c.args.map a.eval++ca) w R:=h2;refine CallsIn.mono h3 (fun e w' he=>?_);obtain⟨u,rfl,hq⟩:=hn e w' he;exact hq
 .rw [h1];have⟨u',e,hq⟩:=hn _ _ h2;injection e with e
  subst e;exact hq
def an4{c:yad}{f:xt}(ho:o.op=.call c)(hc:c.callee=.value f){l:Nat}(hf:a.eval f=.func (.yield l) #[] #[]){R:yaS->yj->Prop}{g:tS}{tmps:Array yh}{assign body:vA}(hy:(Instr.yield l (c.args.map a.eval)).run P w=.ok (.round l g tmps assign body) w)(h:ybt Fence.wide 0 P l g tmps assign body w R)(hn:∀e w',R e w'->∃u,e=.returned u/\next (a.put o.dst u) w'):o.wpIn (WF ro) 0 P a w next Q:=by
 have dT:(o.semAt ro a.eval).run P w=.ok (.round l g tmps assign body) w:=by
  rw[Oper.semAt_eq _ _ _ (fun c' h'=>by rw[ho] at h';cases h')];simp only[execOp,ho,resolve,hc,Deferred.ofValue,hf,Sem.run_bind,Sem.run_pure,Result.andThen_ok,invoke,Array.empty_append];exact hy
 refine⟨fun _ _=>trivial,?_⟩;show o.uponIn (WF ro) 0 P a next Q ((o.semAt ro a.eval).run P w)
 rw[dT,Oper.uponIn_round];refine⟨fun h=>by simp[WF,Fence.wide] at h,?_⟩;have h3:ybt (WF ro) 0 P l g tmps assign body w R:=h;refine RoundIn.mono h3 (fun e w' he=>?_);obtain⟨u,rfl,hq⟩:=hn e w' he;exact hq
def Gj{n:yaF}{u:yh}{w':yj}(hd:∀c,o.op≠.defer c)(h:(execOp a.eval o).run P w=.ok n w')(hn:n=.value u\/(n=.skip/\u=undef))(hq:next (a.put o.dst u) w'):o.wpIn (WF ro) 0 P a w next Q:=by
 refine⟨fun _ _=>trivial,?_⟩;show o.uponIn (WF ro) 0 P a next Q ((o.semAt ro a.eval).run P w)
 rw[Oper.semAt_eq _ _ _ hd,h];rcases hn with rfl | ⟨rfl,rfl⟩
 .exact hq
 .exact hq
end
def ow(P:xp)(H:Hint)(q:Op)(o:yV):Prop:=
 (∃k,q=aP P H k o)\/(∃c f rs,o.op=.call c/\c.callee=.value f/\q=.jH rs (aJ H f) (iH H c.args.toList))\/
  (∃t x y sz rs,o.op=.store t x y/\cu P t=FL sz/\q=.lI rs sz (aJ H x) (aJ H y))\/
  (∃k rs sz b x y,Op.db sz b x y=aP P H k o/\q=.lJ rs sz b x y)\/(∃k sz b x y,Op.db sz b x y=aP P H k o/\q=.rG sz b x y)\/∃k n sz z ps,Op.jo n sz z ps=aP P H k o/\q=.mT n sz z ps
def jK:Op->Op
 | .jH _ f xs=>.jH [] f xs
 | .lI _ s x v=>.st s x v
 | .lJ _ s b x v=>.db s b x v
 | o=>o
section
variable {O:bA}{H:Hint}{m:Mp}{S:Nat->Prop}{w:yj}{tm:Env}{a:Act}{hp:Hp}{ct:Nat}{self:cl}{ro:Option Nat}{next:Act->yj->Prop}{Q:uD->Act->yj->Prop}
def Ot{o:yV}{k:Nat}{md:Md}{x:X}{xs:List X}(h:aP O.P H k o=.call md x xs)(hb:x≠.c .undef):∃c f,o.op=.call c/\c.callee=.value f/\x=aJ H f/\xs=iH H c.args.toList:=by
 have nb:bad=.call md x xs->False:=fun h=>by simp only[bad,Op.call.injEq] at h;exact hb h.2.1.symm
 cases ho:o.op with
 | call c=>
  have⟨callee,args,ts⟩:=c;simp only[aP,ho] at h
  split at h
  .rename_i f;cases hm:H.mode k<;>simp only[hm,Op.call.injEq,reduceCtorEq] at h
   all_goals exact⟨_,f,rfl,rfl,h.2.1.symm,h.2.2.symm⟩
  .repeat' split at h
   all_goals first
    | exact (nb h).elim
    | (cases h;done)
    | (revert h;generalize yq _ _=bb;intro h;cases bb<;>first | exact (nb h).elim | (cases h;done))
  .exact (nb h).elim
 | binOp op t x' y ty=>
  cases op<;>simp only[aP,ho,n8,oU] at h
  case eql=>
        repeat' split at h
        all_goals first
         | exact (nb h).elim
         | (cases h;done)
         | (cases bG:(O.P.stoodInHeld t||O.P.eqGuardType O.P.depth t)<;>rw[bG] at h<;>first | exact (nb h).elim | (cases h;done))
  case neq=>
        repeat' split at h
        all_goals first
         | exact (nb h).elim
         | (cases h;done)
         | (cases bG:(O.P.stoodInHeld t||O.P.eqGuardType O.P.depth t)<;>rw[bG] at h<;>first | exact (nb h).elim | (cases h;done))
  all_goals cases h
 | buildSlice t n parts=>
  simp only[aP,ho] at h
  repeat' split at h
  all_goals first
   | exact (nb h).elim
   | (cases h;done)
   | (revert h;generalize yE _ _=bb;intro h;cases bb<;>first | exact (nb h).elim | (simp only[yx] at h;cases h;done))
 | makeMap t r=>
  cases r<;>simp only[aP,ho] at h
  .repeat' split at h
   all_goals first
    | exact (nb h).elim
    | (cases h;done)
  .exact (nb h).elim
 | next x' b=>
  cases b<;>simp only[aP,ho] at h
  .exact (nb h).elim
  .cases h
 | _=>
  simp only[aP,ho] at h
  (repeat' split at h)
  all_goals first
   | contradiction
   | exact (nb h).elim
   | (cases h;done)
def ak5{o:yV}{k:Nat}{r:AV×Hp×Nat}(hv:aY O.prog O.aI self tm hp ct (aP O.P H k o)=FL r):∀c,o.op≠.defer c:=by
 intro c ho;simp[aP,ho,bad,aY,eQ,ay] at hv
end
end
section
open Go
section
variable {v:AV}{Hq:Hp}{sz:Nat}{ew:Obj}
section
variable {O:bA}{H:Hint}{m:Mp}{S:Nat->Prop}{w:yj}{tm:Env}{a:Act}{hp:Hp}{ct cq:Nat}
def gG(tm:Env)(hp:Hp)(ct:Nat):Op->Option (AV×Obj)
 | .db sz b x y=>zH hp ct sz b (ay tm x) (jk hp sz (ay tm y))
 | _=>FM
def UD(O:bA)(m:Mp)(S:Nat->Prop)(w:yj)(a:Act)(ct:Nat)(o:yV)(v:AV)(b:Obj):Prop:=
 ∃u g p,(execOp a.eval o).run O.P w=.ok (.value u) (w.drew.alloc g)/\p.b=w.heap.size/\¬jj b/\
  ∀m',dh m m'->m' ct=FL p->fk O m' S (w.drew.alloc g) ct b/\af O.ae m' S (w.drew.alloc g) v u
def an5{e:yA}{z:yh}{need cap:Nat}{cs:List AV}{us:List yh}(hh:aS O m S w hp cq)(hr:aB O.ae m S w cs us)(hl:us.length=need*sz)(hz:z.cells.size=sz)(Eo:Bool)(Mk:Eo=ycZ->aG cs=ycZ)(hc:need<=cap):
  let w':=w.drew.alloc (.cells (us.toArray++Builtin.zeroCells z.cells (cap-need)) e)
  let p:Pl:=⟨w.heap.size,0,cap*sz,sz⟩
  ∀m',dh m m'->m' ct=FL p->fk O m' S w' ct (.cells ycZ Eo yda sz cs):=by
 intro w' p m' hm hi;have aM:fY S w w':=fun b hb=>by
  have:=hh.slt b hb
  exact RowKit.Below.heap_alloc w.drew _ b (by simpa using this)
 have jO:w'.heap[w.heap.size]? =FL (.cells (us.toArray++Builtin.zeroCells z.cells (cap-need)) e (0,0)):=heap_alloc_new w.drew _;have gM:=gU _ _ hr;refine⟨p,_,e,hi,jO,rfl,?_,?_,by simp,?_,Mk,?_,by simp⟩
 .show cs.length<=cap*sz
  rw[<-gM,hl];exact yI _ hc
 .show 0+cap*sz<=_
  rw[Array.size_append,tu,size_zeroCells,hz,hl,<-xH];rw[yd];exact yI _ (by lia)
 .refine NH jO cs us 0 (ir hm (fun _ h=>h) aM _ _ hr) (fun j u hj=>?_);rw[yd,yaq (by rw[tu];exact (xI.1 hj).1),List.getElem?_toArray]
  exact hj
 .intro _ hS
  have:=hh.slt _ hS
  simp[p] at this
def oc{a b:Nat}(h:yO a b=ycZ):a<b:=yv h
def an6{o:yV}{b':yA}{t u e:yA}{by':Nat}{z:AV}{x y:xt}(hH:fh O H)(ht:bV O m S w tm a.tmps)(hh:aS O m S w hp cq)(dT:(execOp a.eval o).run O.P w=((do pure (.value (<-Builtin.append_ #[t,u] b' #[a.eval x,a.eval y])):Sem yaF)).run O.P w)(Am:O.P.underlying t=FL (.slice e))(hu:(∃e',O.P.underlying u=FL (.slice e'))\/O.P.underlying u=FL .string)(hs:cu O.P e=FL sz)(hb:Ad O.P e=FL by')(hz:mK O.P e=FL z)(sR:(cellsOf z).length=sz)(hv:gG tm hp ct (.db sz by' (aJ H x) (aJ H y))=FL (v,ew)):UD O m S w a ct o v ew:=by
 simp only[gG] at hv;obtain⟨ti,zv,sT,rfl,rfl,Ml,rfl⟩:=acZ hs hb hz;have aO:∀u' w',(Builtin.append_ #[t,u] b' #[a.eval x,a.eval y]).run O.P w=.ok u' w'->(execOp a.eval o).run O.P w=.ok (.value u') w':=fun u' w' h=>by
  rw[dT,Sem.run_bind,h];rfl
 have E8:zv.cells.size=ti.size:=by
  have:=gU _ _ (DJ (ae:=O.ae) (m:=m) (S:=S) (w:=w) zv)
  rw[<-sR,<-this];simp
 cases ot:jk hp ti.size (ay tm (aJ H y)) with
 | none=>simp[ot,zH] at hv
 | some q=>
  have⟨n,new⟩:=q;rw[ot] at hv;have⟨news,kG,dQ⟩:=aaP hh (bW hH ht y) ot;have Mm:=gU _ _ kG;have rx:=bW hH ht x;cases hx:ay tm (aJ H x)<;>rw[hx] at hv rx<;>simp only[zH,reduceCtorEq] at hv
  rename_i id o0 k;simp only[af] at rx;have⟨p,c,hm,ex,h1,h2⟩:=rx
  split at hv
  case h_2=>cases hv
  rename_i da pu zz cs hg
  cases hc:(yq zz ti.size&&(yO 0 n&&(yE (k+n) room&&(yE ((k+n)*ti.bytes) room&&(yq (o0+k*ti.size) cs.length&&yO 0 ti.size))))) with
  | false=>rw[hc] at hv;cases hv
  | true=>
   rw[hc] at hv;simp only[yx,yc,yo] at hv;obtain⟨rfl,rfl⟩:=hv;simp only[yf] at hc;have c0:=yg hc.1;have c5:=oc hc.2.1;have c1:=yv hc.2.2.1;have c2:=yv hc.2.2.2.1;have c3:=yg hc.2.2.2.2.1;have c4:=oc hc.2.2.2.2.2;simp only[room] at c1 c2;have⟨p',arr,t',g1,g2,g3,g4,g5,g6,g7,g8,g9,g10⟩:=hh.obj id _ _ hg hm;rw[hm] at g1;injection g1 with g1
   subst g1;subst c0;rw[g3] at h2;have hce:=g6 rfl;have cO:c=k:=by
    have:c*ti.size=k*ti.size:=by lia
    exact uU c4 this
   subst cO;have HG:bU O.ae m S w (slice o0 (c*ti.size) cs) p.b (p.o+o0):=AK _ _ _ _ (rZ _ _ _ _ g7);have⟨mN,f1,f2,f3⟩:=zm _ _ _ HG;have PN:(slice o0 (c*ti.size) cs).length=c*ti.size:=by simp only[slice,yT,xY];lia
   have nJ:(pu&&aG new)=ycZ->aG (slice o0 (c*ti.size) cs++new)=ycZ:=fun h=>by
    simp only[yf] at h;exact DK (B3 _ (AL _ _ (g8 h.1))) h.2
   have Mn:Src O.P w ti.size c mN (.slice (FL ⟨p.b,p.o+o0,FM⟩) c c):=FU (by lia) (fun j u hj=>by rw[n9];exact f3 j u hj)
   have hr:=Nh (P:=O.P) (ty:=b') (w:=w) Am hu sT Ml rfl Mn dQ (by lia) c1 c2;have je:=grownCap_ge w (c+n) c e;have jO:=an5 (ct:=ct) (e:=e) (z:=zv) (cap:=grownCap w (c+n) c e) hh (mz f1 kG) (need:=c+n) (sz:=ti.size) (by rw[yN,f2,PN,dQ.2.1,xH]) E8 (pu&&aG new) nJ je;exact⟨_,_,⟨w.heap.size,0,grownCap w (c+n) c e*ti.size,ti.size⟩,aO _ _ (by rw[ex];exact hr),rfl,by simp[jj],fun m' hle hi=>⟨jO m' hle hi,by simp only[af];exact⟨_,_,hi,rfl,je,by simp⟩⟩⟩
def ak6(hl:cR hp Hq){q:Nat×List AV}(h:lX hp sz v=FL q):lX Hq sz v=FL q:=by
 cases v<;>simp only[lX,reduceCtorEq] at h ⊢
 .exact h
 .exact h
 .rename_i id o n
  cases hg:ak hp id with
  | none=>simp[hg] at h
  | some ob=>
   cases ob<;>simp only[hg,reduceCtorEq] at h
   obtain⟨o',h1,r,rfl,_⟩:=hl id _ hg;simp only[h1];exact h
def ama(hl:cR hp Hq){q:Nat×List AV}(h:jk hp sz v=FL q):jk Hq sz v=FL q:=by
 by_cases hs:∃b,v=.str b
 .obtain ⟨b,rfl⟩:=hs;exact h
 .have e:∀hp:Hp,jk hp sz v=lX hp sz v:=fun hp=>by
   cases v<;>first
    | rfl
    | exact absurd ⟨_,rfl⟩ hs
  rw[e] at h ⊢;exact ak6 hl h
def an7(hl:cR hp Hq){b:Nat}{x y:AV}(h:zH hp ct sz b x (jk hp sz y)=FL (v,ew)):zH Hq ct sz b x (jk Hq sz y)=FL (v,ew):=by
 cases hs:jk hp sz y with
 | none=>rw[hs] at h;simp[zH] at h
 | some q=>
  rw[ama hl hs];rw[hs] at h;have⟨n,new⟩:=q;cases x<;>simp only[zH,reduceCtorEq] at h ⊢
  rename_i id o k
  cases hg:ak hp id with
  | none=>simp[hg] at h
  | some ob=>
   cases ob with
   | cells da pu ex z cs=>
    cases ex with
    | false=>simp[hg] at h
    | true=>
     obtain⟨o',h1,r,rfl,_⟩:=hl id _ hg;simp only[hg] at h;simp only[h1];exact h
   | _=>simp[hg] at h
def asL{o:yV}{k:Nat}(hH:fh O H)(ht:bV O m S w tm a.tmps)(hh:aS O m S w hp cq)(hv:gG tm hp ct (aP O.P H k o)=FL (v,ew)):UD O m S w a ct o v ew:=by
 have iV:∀{r:AV×Obj},gG tm hp ct bad=FL r->False:=fun h=>by simp[bad,gG] at h
 cases ho:o.op with
 | call c=>
  obtain⟨callee,args,ts⟩:=c;simp only[aP,ho] at hv
  split at hv
  .cases E4:H.mode k<;>simp[E4,gG] at hv
  .rename_i _ b
   split at hv
   .rename_i x y t u eF nL;obtain⟨al⟩:=args;obtain⟨tl⟩:=ts;simp only at eF nL;subst eF;subst nL;obtain⟨cs,dT⟩:=AJ (O:=O) (w:=w) (a:=a) ho;have Er:(execOp a.eval o).run O.P w=((do pure (.value (<-Builtin.append_ #[t,u] o.type #[a.eval x,a.eval y])):Sem yaF)).run O.P w:=by
     rw[dT];simp[builtin]
    have key:∀{z:AV} {sz by':Nat} {e:yA},O.P.underlying t=FL (.slice e)->((∃e',O.P.underlying u=FL (.slice e'))\/O.P.underlying u=FL .string)->cu O.P e=FL sz->Ad O.P e=FL by'->mK O.P e=FL z->
      gG tm hp ct (bif yq (cellsOf z).length sz then .db sz by' (aJ H x) (aJ H y) else bad)=FL (v,ew)->UD O m S w a ct o v ew:=by
     intro z sz by' e h1 h2 h3 h4 h5 h
     cases hb:yq (cellsOf z).length sz with
     | false=>rw[hb] at h;exact (iV h).elim
     | true=>
      rw[hb] at h;exact an6 hH ht hh Er h1 h2 h3 h4 h5 (yg hb) h
    split at hv
    .rename_i e e' h1 h2
     split at hv
     .rename_i sz by' z h3 h4 h5
      exact key h1 (.inl ⟨_,h2⟩) h3 h4 h5 hv
     .exact (iV hv).elim
    .rename_i e h1 h2
     split at hv
     .rename_i sz by' z h3 h4 h5
      exact key h1 (.inr h2) h3 h4 h5 hv
     .exact (iV hv).elim
    .exact (iV hv).elim
   .repeat' split at hv
    all_goals simp[gG,bad] at hv
   .repeat' split at hv
    all_goals simp[gG,bad] at hv
   .simp [gG] at hv
   .simp [gG] at hv
   .simp [gG] at hv
   .simp [gG] at hv
   .simp [gG] at hv
   .exact (iV hv).elim
  .exact (iV hv).elim
 | next x b=>
  cases b<;>simp[aP,ho,gG,bad] at hv
 | binOp op t x y ty=>
  cases op<;>simp only[aP,ho,n8,oU] at hv
  case eql=>
        repeat' split at hv
        all_goals first
         | (simp[gG,bad] at hv;done)
         | (cases hb:(O.P.stoodInHeld t||O.P.eqGuardType O.P.depth t)<;>rw[hb] at hv<;>simp[gG,bad] at hv)
  case neq=>
        repeat' split at hv
        all_goals first
         | (simp[gG,bad] at hv;done)
         | (cases hb:(O.P.stoodInHeld t||O.P.eqGuardType O.P.depth t)<;>rw[hb] at hv<;>simp[gG,bad] at hv)
  all_goals simp[gG] at hv
 | buildSlice t n parts=>
  simp only[aP,ho] at hv
  repeat' split at hv
  all_goals first
   | (simp[gG,bad] at hv;done)
   | (
     revert hv;generalize yE _ _=bb;intro hv;cases bb<;>simp[gG,bad] at hv
     try (split at hv<;>simp[gG,bad] at hv))
 | makeMap t r=>
  cases r<;>simp only[aP,ho] at hv
  .repeat' split at hv
   all_goals simp[gG,bad] at hv
  .exact (iV hv).elim
 | _=>
  simp only[aP,ho] at hv
  (repeat' split at hv)
  all_goals first
   | contradiction
   | (simp[gG,bad] at hv;done)
end
end
end
section
open Go
section
variable {aZ:Hp}{cap first aq z:List AV}{g k n sz:Nat}{P:xp}
section
variable {O:bA}{H:Hint}{m:Mp}{S:Nat->Prop}{w:yj}{tm:Env}{a:Act}{hp an Hq:Hp}{ct aU cH:Nat}{self:cl}{ro:Option Nat}{next:Act->yj->Prop}{Q:uD->Act->yj->Prop}
def aaW{g:yal}{p:Pl}{S':Nat->Prop}{base:Nat}(hh:aS O m S w Hq cH)(hi:m ct=FM)(hb:p.b=w.heap.size)(h1:∀b,S b->S' b)(h2:∀b,S' b->S b\/b=w.heap.size):
  cf m S w Hq (fL m ct p) S' (w.alloc g) Hq base where
 os:=rfl
 tape:=rfl
 output:=rfl
 size:=by simp
 same b hb _:=alloc_old hb
 sub:=h1
 still b hb:=alloc_old (hh.slt b hb)
 new b hb:=(h2 b hb).imp (fun h=>h) (fun h=>.inr (by lia))
 own b hb:=by
  have⟨i,o,q,g1,g2,g3⟩:=hb;by_cases hc:i=ct
  .subst hc;rw[dE] at g2
   grind
  .rw [ep hc] at g2;exact .inl ⟨i,o,q,g1,g2,g3⟩
 old i q _ h:=jF hi i q h
 loops b r hb:=⟨r,(alloc_old (xv.1 hb).1).trans hb⟩
def ZI{Pf:List AV}{us:List yh}(hz:cE deep hp Pf=FL (aq,aZ))(hl:cR aZ Hq)(hh:aS O m S w Hq cH)(hr:aB O.ae m S w Pf us):aB O.ae fa S w aq us/\aG aq=ycZ:=by
 have⟨_,_,h3⟩:=Sx (O:=O) hz;have⟨k1,k2⟩:=h3 Hq m S w cH hl hh;exact⟨AM (fun _ h=>h) (fun _ _=>rfl) _ _ k2 (k1 us hr),k2⟩
def Uf(hh:aS O m S w Hq cH):CF O w:=⟨hh.mM,hh.gi⟩
def NY(hH:fh O H)(ht:bV O m S w tm a.tmps){f:xt}{args:Array xt}(hf:ay tm (aJ H f)=.fn (.f g) first cap):
  ∃fi ca:Array yh,a.eval f=.func (.func (O.ae g)) fi ca/\aB O.ae m S w (first++(dG tm (iH H args.toList)++cap)) (fi++args.map a.eval++ca).toList:=by
 have rf:=bW hH ht f;rw[hf] at rf;have⟨fi,ca,h1,h2,h3⟩:=rf;refine⟨fi,ca,h1,?_⟩
 have:=mz h2 (mz (D2 hH ht args.toList) h3)
 simp_all
def ak7(hC:oV O self)(hH:fh O H){o:yV}{c:yad}{f:xt}(ho:o.op=.call c)(fU:c.callee=.value f){r:AV}(hf:ay tm (aJ H f)=.fn (.f g) first cap)(hz:cE deep hp (first++(dG tm (iH H c.args.toList)++cap))=FL (aq,aZ))(hr:bL O.prog O.aI self g aq=FL r)(hl:cR aZ Hq)(ht:bV O m S w tm a.tmps)(hh:aS O m S w Hq cH)(hn:∀u S' w',aS O m S' w' Hq cH->af O.ae m S' w' (shut r) u->cf m S w Hq m S' w' Hq cH->next (a.put o.dst u) w'):o.wpIn (WF ro) 0 O.P a w next Q:=by
 have⟨fi,ca,h1,h2⟩:=NY hH ht (args:=c.args) hf;have⟨h3,h4⟩:=ZI hz hl hh h2;refine Nw ho fU h1 (hC.pure g aq r hr w S _ (Uf hh) hh.slt h3 h4) ?_;rintro e w' ⟨u,S',rfl,hw,g1,g2,g3,g4⟩;refine⟨u,rfl,?_⟩;have⟨S2,k1,k2,k3⟩:=aaS g4 m;have hS:∀b,S b->S2 b:=fun b hb=>k1 b (g1 b hb)
 have Df:∀b,S2 b->S b\/w.heap.size<=b:=fun b hb=>(k2 b hb).elim (g2 b) (fun h=>.inr h.1)
 have hl:∀b,S2 b->b<w'.heap.size:=fun b hb=>(k2 b hb).elim (g3 b) (fun h=>h.2)
 exact hn u S2 w' (B9 hh hw hS Df hl) k3 (AO hh hw hS Df)
def amb(hC:oV O self)(hH:fh O H){o:yV}{c:yad}{f:xt}(ho:o.op=.call c)(fU:c.callee=.value f){r:AV}(hf:ay tm (aJ H f)=.fn (.f g) first cap)(hz:cE deep hp (first++(dG tm (iH H c.args.toList)++cap))=FL (aq,aZ))(hr:bL O.prog O.aI self g aq=FL r)(hl:cR (own aZ ct r).2.1 Hq)(fw:(own aZ ct r).2.2<=cH)(aH:∀id o,ak hp id=FL o->id<ct)(Ap:∀id,ct<=id->id<(own aZ ct r).2.2->m id=FM)(ht:bV O m S w tm a.tmps)(hh:aS O m S w Hq cH)(hn:∀u m' S' w',aS O m' S' w' Hq cH->dh m m'->(∀id p,m' id=FL p->m id=FL p\/(ct<=id/\id<(own aZ ct r).2.2))->af O.ae m' S' w' (own aZ ct r).1 u->cf m S w Hq m' S' w' Hq cH->next (a.put o.dst u) w'):
  o.wpIn (WF ro) 0 O.P a w next Q:=by
 have⟨fi,ca,h1,h2⟩:=NY hH ht (args:=c.args) hf;have⟨z1,z2,z3⟩:=Sx (O:=O) hz;have VX:∀id o,ak aZ id=FL o->id<ct:=fun id o h=>by
  have:=z2 id
  rw[h] at this
  cases hq:ak hp id with
  | none=>rw[hq] at this;cases this
  | some q=>exact aH id q hq
 have asM:∀id o,ak aZ id=FL o->ak (own aZ ct r).2.1 id=FL o:=fun id o h=>by
  cases r with
  | aw vs=>exact Oq VX id o h
  | _=>exact Ue VX id o h
 have pO:cR aZ Hq:=fun id o h=>hl id o (asM id o h)
 have⟨h3,h4⟩:=ZI hz pO hh h2;refine Nw ho fU h1 (hC.pure g aq r hr w S _ (Uf hh) hh.slt h3 h4) ?_;rintro e w' ⟨u,S',rfl,hw,g1,g2,g3,g4⟩;refine⟨u,rfl,?_⟩;have Dg:=B9 hh hw g1 g2 g3;have nK:=AO (base:=cH) hh hw g1 g2;have⟨m',S2,k1,k2,k3,k4,k5,k6⟩:=asK (lo:=w.heap.size) Dg hl fw VX Ap g4 hh.gi (fun j q hq=>hh.blt j q hq);refine hn u m' S2 w' k1 k2 (fun id p h=>(k3 id p h).imp (fun h=>h) (fun h=>⟨h.1,h.2.1⟩)) k4 ⟨hw.os,hw.tape,hw.output,hw.size,fun b hb _=>hw.same b hb,fun b hb=>k5 b (g1 b hb),fun b hb=>hw.same b (hh.slt b hb),?_,?_,fun i q _ h=>k2 i q h,nK.loops⟩
 .grind
 .rintro b ⟨i,ob,q,q1,q2,q3⟩;rcases k3 i q q2 with h | h
  .exact .inl ⟨i,ob,q,q1,h,q3⟩
  .grind
def ak8{H:Hint}{o:yV}{b:Nat}{x y:X}(hk:Op.rG sz b x y=aP P H k o):False:=by
 cases ho:o.op with
 | call c=>
  have⟨callee,args,ts⟩:=c;simp only[aP,ho] at hk
  split at hk
  .rename_i f;cases hm:H.mode k<;>simp only[hm,reduceCtorEq] at hk
  .repeat' split at hk
   all_goals first
    | (cases hk;done)
    | (simp only[bad] at hk;cases hk;done)
    | (revert hk;generalize yq _ _=bb;intro hk;cases bb<;>simp[bad] at hk)
  .simp only [bad] at hk;cases hk
 | binOp op t x' y ty=>
  cases op<;>simp only[aP,ho,n8,oU] at hk
  case eql=>
        repeat' split at hk
        all_goals first
         | (cases hk;done)
         | (simp only[bad] at hk;cases hk;done)
         | (cases bG:(P.stoodInHeld t||P.eqGuardType P.depth t)<;>rw[bG] at hk<;>simp[bad] at hk)
  case neq=>
        repeat' split at hk
        all_goals first
         | (cases hk;done)
         | (simp only[bad] at hk;cases hk;done)
         | (cases bG:(P.stoodInHeld t||P.eqGuardType P.depth t)<;>rw[bG] at hk<;>simp[bad] at hk)
  all_goals cases hk
 | buildSlice t n parts=>
  simp only[aP,ho] at hk
  repeat' split at hk
  all_goals first
   | (cases hk;done)
   | (simp only[bad] at hk;cases hk;done)
   | (revert hk;generalize yE _ _=bb;intro hk;cases bb<;>simp[bad] at hk)
 | makeMap t r=>
  cases r<;>simp only[aP,ho] at hk
  .repeat' split at hk
   all_goals first
    | (cases hk;done)
    | (simp only[bad] at hk;cases hk;done)
  .simp only [bad] at hk;cases hk
 | next x' b=>
  cases b<;>simp only[aP,ho] at hk
  .simp only [bad] at hk;cases hk
  .cases hk
 | _=>
  simp only[aP,ho] at hk
  (repeat' split at hk)
  all_goals first
   | contradiction
   | (cases hk;done)
   | (simp only[bad] at hk;cases hk;done)
def asN{H:Hint}{o:yV}{b:Nat}{x y:X}(hq:ow P H (.rG sz b x y) o):∃k,Op.db sz b x y=aP P H k o:=by
 rcases hq with ⟨k,hk⟩ | ⟨_,_,_,_,_,h3⟩ | ⟨_,_,_,_,_,_,_,h3⟩ | ⟨_,_,_,_,_,_,_,h3⟩ | ⟨k,nN,b',x',y',h1,h3⟩ | ⟨_,_,_,_,_,_,h3⟩
 .exact (ak8 hk).elim
 .cases h3
 .cases h3
 .cases h3
 .simp only [Op.rG.injEq] at h3;obtain⟨rfl,rfl,rfl,rfl⟩:=h3;exact⟨k,h1⟩
 .cases h3
def ak9{H:Hint}{o:yV}{ps:List (Nat×Nat×X)}(hk:Op.mT n sz z ps=aP P H k o):False:=by
 cases ho:o.op with
 | call c=>
  obtain⟨callee,args,ts⟩:=c;simp only[aP,ho] at hk
  split at hk
  .rename_i f;cases hm:H.mode k<;>simp only[hm,reduceCtorEq] at hk
  .repeat' split at hk
   all_goals first
    | (cases hk;done)
    | (simp only[bad] at hk;cases hk;done)
    | (revert hk;generalize yq _ _=bb;intro hk;cases bb<;>simp[bad] at hk)
  .simp only [bad] at hk;cases hk
 | binOp op t x' y ty=>
  cases op<;>simp only[aP,ho,n8,oU] at hk
  case eql=>
        repeat' split at hk
        all_goals first
         | (cases hk;done)
         | (simp only[bad] at hk;cases hk;done)
         | (cases bG:(P.stoodInHeld t||P.eqGuardType P.depth t)<;>rw[bG] at hk<;>simp[bad] at hk)
  case neq=>
        repeat' split at hk
        all_goals first
         | (cases hk;done)
         | (simp only[bad] at hk;cases hk;done)
         | (cases bG:(P.stoodInHeld t||P.eqGuardType P.depth t)<;>rw[bG] at hk<;>simp[bad] at hk)
  all_goals cases hk
 | buildSlice t n parts=>
  simp only[aP,ho] at hk
  repeat' split at hk
  all_goals first
   | (cases hk;done)
   | (simp only[bad] at hk;cases hk;done)
   | (revert hk;generalize yE _ _=bb;intro hk;cases bb<;>simp[bad] at hk)
 | makeMap t r=>
  cases r<;>simp only[aP,ho] at hk
  .repeat' split at hk
   all_goals first
    | (cases hk;done)
    | (simp only[bad] at hk;cases hk;done)
  .simp only [bad] at hk;cases hk
 | next x' b=>
  cases b<;>simp only[aP,ho] at hk
  .simp only [bad] at hk;cases hk
  .cases hk
 | _=>
  simp only[aP,ho] at hk
  (repeat' split at hk)
  all_goals first
   | contradiction
   | (cases hk;done)
   | (simp only[bad] at hk;cases hk;done)
def asP{H:Hint}{o:yV}{ps:List (Nat×Nat×X)}(hq:ow P H (.mT n sz z ps) o):∃k,Op.jo n sz z ps=aP P H k o:=by
 rcases hq with ⟨k,hk⟩ | ⟨_,_,_,_,_,h3⟩ | ⟨_,_,_,_,_,_,_,h3⟩ | ⟨_,_,_,_,_,_,_,h3⟩ | ⟨_,_,_,_,_,_,h3⟩ | ⟨k,n',nN,z',ps',h1,h3⟩
 .exact (ak9 hk).elim
 .cases h3
 .cases h3
 .cases h3
 .cases h3
 .simp only [Op.mT.injEq] at h3;obtain⟨rfl,rfl,rfl,rfl⟩:=h3;exact⟨k,h1⟩
def asQ(hH:fh O H)(ht:bV O m S w tm a.tmps)(hh:aS O m S w hp ct){o:yV}{ps:List (Nat×Nat×X)}{v:AV}{hp0:Hp}(ie:Op.jo n sz z ps=aP O.P H k o)(hv:bg tm hp0 (.mT n sz z ps)=FL v):
  ∃u g,(execOp a.eval o).run O.P w=.ok (.value u) (w.alloc g)/\∀S':Nat->Prop,(∀b,S b->S' b)->S' w.heap.size->af O.ae m S' (w.alloc g) v u:=by
 simp only[bg] at hv
 cases hf:fill tm z ps with
 | none=>simp[hf] at hv
 | some cs=>
  simp only[hf] at hv
  cases hc:(yq cs.length (n*sz)&&(yO 0 sz&&aG cs)) with
  | false=>rw[hc] at hv;cases hv
  | true=>
   rw[hc] at hv;simp only[yx,yc] at hv;subst hv;simp only[yf] at hc;obtain⟨c1,c2,c3⟩:=hc;have c1':=yg c1;have c2':=qD.1 c2;have hi:m ct=FM:=by
    cases hm:m ct with
    | none=>rfl
    | some p=>have:=hh.lt ct p hm;omega
   have bZ:cK tm hp ct (aP O.P H k o)=FL (.ax ct 0 n,.cells ycZ ycZ ycZ sz cs):=by
    rw[<-ie];simp only[cK,hf,c1,yx,c3]
   obtain⟨u,g,p,h1,h2,h3,h4⟩:=acX hH ht hh bZ;refine⟨u,g,h1,fun S' hS hSn=>?_⟩;obtain⟨ho,hr⟩:=h4 (fL m ct p) (jF hi) dE;simp only[fk] at ho;obtain⟨q,arr,t,g1,g2,g3,g4,g5,g6,g7,g8,_⟩:=ho;rw[dE] at g1;injection g1 with g1
   subst g1;simp only[af,dE,yc] at hr;obtain⟨q,c,rfl,rfl,r3,r4⟩:=hr;simp only[af];refine .inl ⟨_,_,c,rfl,r3,fun _=>?_,.inr (by rw[h2];exact hSn),c3,?_⟩
   .have e:=g6 trivial;rw[<-e,c1',g3,yd] at r4;exact uU c2' r4
   .rw [y5];exact B4 hS (fun _ _=>rfl) cs _ _ c3 rfl g7
def quiet_step(hC:oV O self)(hH:fh O H){o:yV}{q:Op}{v:AV}(hk:bj q<=1)(hq:ow O.P H q o)(hd:∀c,o.op≠.defer c)(hv:aY O.prog O.aI self tm hp ct q=FL (v,an,aU))(hl:cR an Hq)(fw:aU<=cH)(aH:∀id o,ak hp id=FL o->id<ct)(Ap:∀id,ct<=id->id<aU->m id=FM)(ht:bV O m S w tm a.tmps)(hh:aS O m S w Hq cH)(hn:∀u m' S' w',aS O m' S' w' Hq cH->dh m m'->(∀id p,m' id=FL p->m id=FL p\/(ct<=id/\id<aU))->af O.ae m' S' w' v u->cf m S w Hq m' S' w' Hq cH->next (a.put o.dst u) w'):
  o.wpIn (WF ro) 0 O.P a w next Q:=by
 by_cases Fa:∃sz b x y,q=.rG sz b x y
 .obtain ⟨sz,b,x,y,rfl⟩:=Fa;obtain⟨k,ie⟩:=asN hq;simp only[aY] at hv
  cases hm:zH hp ct sz b (ay tm x) (jk hp sz (ay tm y)) with
  | none=>simp[hm] at hv
  | some r=>
   obtain⟨v1,ew⟩:=r;simp only[hm,yc,yo] at hv;obtain⟨rfl,rfl,rfl⟩:=hv;have lL:cR hp Hq:=fun id o' jz=>hl id o' (by
    rw[fH,yt (by have:=aH id o' jz;omega)];exact jz)
   have bh:gG tm Hq ct (aP O.P H k o)=FL (v1,ew):=by rw[<-ie];exact an7 lL hm
   have hi:=Ap ct (yu _) (yag _);obtain⟨u,g,p,h1,h2,h3,h4⟩:=asL hH ht hh bh;have Mq:Calm w w.drew:=⟨rfl,rfl,rfl,yu _,fun _ _=>rfl⟩;have iN:=B9 hh Mq (S':=S) (fun _ h=>h) (fun _ h=>.inl h) hh.slt;have rJ:cf m S w Hq m S w.drew Hq cH:=AO hh Mq (fun _ h=>h) (fun _ h=>.inl h);obtain⟨S',k1,k2,k3⟩:=Tp (i:=ct) (g:=g) (p:=p) iN hi fw h2 (fun o' jz=>by
    obtain⟨XL,g1,g2⟩:=hl ct ew (by rw[fH];simp)
    rw[jz] at g1;injection g1 with g1
    subst g1
    have:=Sn g2 dE (h4 _ (jF hi) dE).1 h3
    rwa[h2] at this)
   refine Gj hd h1 (.inl rfl) (hn u _ S' _ k1 (jF hi) (fun id q hq=>?_) (mB (fun _ _ h=>h) k2 (fun _ _=>rfl) _ _ (h4 _ (jF hi) dE).2) (rJ.trans (aaW iN hi h2 k2 k3)));by_cases hc:id=ct
   .exact .inr (by omega)
   .rw [ep hc] at hq;exact .inl hq
 by_cases Dh:∃n sz z ps,q=.mT n sz z ps
 .obtain ⟨n,sz,z,ps,rfl⟩:=Dh;obtain⟨k,ie⟩:=asP hq;simp only[aY] at hv
  cases hm:bg tm hp (.mT n sz z ps) with
  | none=>simp[hm] at hv
  | some r=>
   simp only[hm,yc,yo] at hv;obtain⟨rfl,rfl,rfl⟩:=hv;obtain⟨u,g,h1,h2⟩:=asQ hH ht hh ie hm;have Mq:Calm w (w.alloc g):=⟨rfl,rfl,rfl,by simp,fun b hb=>alloc_old hb⟩
   let S':Nat->Prop:=fun b=>S b\/b=w.heap.size
   have hS:∀b,S b->S' b:=fun b hb=>.inl hb
   have Df:∀b,S' b->S b\/w.heap.size<=b:=fun b hb=>hb.imp id (fun e=>by omega)
   have BH:∀b,S' b->b<(w.alloc g).heap.size:=fun b hb=>by
    rcases hb with hb | hb
    .have:=hh.slt b hb;simp;omega
    .subst hb;simp
   refine Gj hd h1 (.inl rfl) (hn u m S' _ (B9 hh Mq hS Df BH) dh.refl (fun _ _ h=>.inl h) (h2 S' hS (.inr rfl)) (AO hh Mq hS Df))
 have ie:∃k,q=aP O.P H k o:=by
  rcases hq with h | ⟨c,f,rs,_,_,rfl⟩ | ⟨_,_,_,_,_,_,_,rfl⟩ | ⟨_,_,_,_,_,_,_,rfl⟩ | ⟨_,_,_,_,_,_,h⟩ | ⟨_,_,_,_,_,_,h⟩
  .exact h
  .simp [bj] at hk
  .simp [bj] at hk
  .simp [bj] at hk
  .exact (Fa ⟨_,_,_,_,h⟩).elim
  .exact (Dh ⟨_,_,_,_,h⟩).elim
 obtain⟨k,hq⟩:=ie;have read:∀{v:AV},bg tm hp q=FL v->cR hp Hq->(∀u m' S' w',aS O m' S' w' Hq cH->dh m m'->(∀id p,m' id=FL p->m id=FL p\/(ct<=id/\id<aU))->af O.ae m' S' w' v u->cf m S w Hq m' S' w' Hq cH->next (a.put o.dst u) w')->o.wpIn (WF ro) 0 O.P a w next Q:=by
  intro v hr hl hn;have bh:=al4 hl hr;rw[hq] at bh;obtain⟨u,h1,h2⟩:=acV hH ht hh bh;exact Gj hd h1 (.inl rfl) (hn u m S w hh dh.refl (fun _ _ h=>.inl h) h2 cf.refl)
 have makes:∀{v:AV} {b:Obj},cK tm hp ct q=FL (v,b)->cR ((ct,b)::hp) Hq->ct+1<=cH->m ct=FM->(∀u m' S' w',aS O m' S' w' Hq cH->dh m m'->(∀id p,m' id=FL p->m id=FL p\/(ct<=id/\id<ct+1))->af O.ae m' S' w' v u->cf m S w Hq m' S' w' Hq cH->next (a.put o.dst u) w')->o.wpIn (WF ro) 0 O.P a w next Q:=by
  intro v b hr hl hc hi hn;rw[hq] at hr;have bh:cK tm Hq ct (aP O.P H k o)=FL (v,b):=by rw[<-hr];exact I6 (fun _ _=>rfl)
  obtain⟨u,g,p,h1,h2,h3,h4⟩:=acX hH ht hh bh;obtain⟨S',k1,k2,k3⟩:=Tp (i:=ct) (g:=g) (p:=p) hh hi hc h2 (fun o' jz=>by
   obtain⟨XL,g1,g2⟩:=hl ct b (by rw[fH];simp)
   rw[jz] at g1;injection g1 with g1
   subst g1
   have:=Sn g2 dE (h4 _ (jF hi) dE).1 h3
   rwa[h2] at this)
  refine Gj hd h1 (.inl rfl) (hn u _ S' _ k1 (jF hi) (fun id q hq=>?_) (mB (fun _ _ h=>h) k2 (fun _ _=>rfl) _ _ (h4 _ (jF hi) dE).2) (aaW hh hi h2 k2 k3));by_cases hc:id=ct
  .exact .inr (by omega)
  .rw [ep hc] at hq;exact .inl hq
 have bZ:∀{q:Op},(match cK tm hp ct q with | some (v,b)=>FL (v,(ct,b)::hp,ct+1) | none=>(FM:gB))=FL (v,an,aU)->∃b,cK tm hp ct q=FL (v,b)/\an=(ct,b)::hp/\aU=ct+1:=by
  intro q h
  cases hm:cK tm hp ct q with
  | none=>simp[hm] at h
  | some r=>
   obtain⟨v1,b⟩:=r;simp only[hm,yc,yo] at h;obtain⟨rfl,rfl,rfl⟩:=h;exact⟨b,rfl,rfl,rfl⟩
 have fE:∀{q:Op},(match bg tm hp q with | some v=>FL (v,hp,ct) | none=>(FM:gB))=FL (v,an,aU)->bg tm hp q=FL v/\an=hp/\aU=ct:=by
  intro q h
  cases hm:bg tm hp q with
  | none=>simp[hm] at h
  | some r=>
   simp only[hm,yc,yo] at h;obtain⟨rfl,rfl,rfl⟩:=h;exact⟨rfl,rfl,rfl⟩
 have JQ:(∃b,cK tm hp ct q=FL (v,b)/\an=(ct,b)::hp/\aU=ct+1)->o.wpIn (WF ro) 0 O.P a w next Q:=by
  rintro⟨b,h1,rfl,rfl⟩;exact makes h1 hl fw (Ap ct (yu _) (yag _)) hn
 have asR:(bg tm hp q=FL v/\an=hp/\aU=ct)->o.wpIn (WF ro) 0 O.P a w next Q:=by
  rintro⟨h1,rfl,rfl⟩;exact read h1 hl hn
 cases q with
 | st _ _ _=>simp[bj] at hk
 | rD _ _ _ _=>simp[bj] at hk
 | rF _=>simp[bj] at hk
 | db _ _ _ _=>simp[bj] at hk
 | rH _ _ _=>simp[bj] at hk
 | jH _ _ _=>simp[bj] at hk
 | lI _ _ _ _=>simp[bj] at hk
 | lJ _ _ _ _ _=>simp[bj] at hk
 | rG sz b x y=>exact (Fa ⟨sz,b,x,y,rfl⟩).elim
 | box s x=>exact JQ (bZ (by simp only[aY] at hv;exact hv))
 | jo n s z ps=>exact JQ (bZ (by simp only[aY] at hv;exact hv))
 | pK s b z x y=>exact JQ (bZ (by simp only[aY] at hv;exact hv))
 | Bz=>exact JQ (bZ (by simp only[aY] at hv;exact hv))
 | rE x=>exact JQ (bZ (by simp only[aY] at hv;exact hv))
 | call md x xs=>
  cases md with
  | heap=>simp[bj] at hk
  | dyn=>simp[bj] at hk
  | pure=>
   simp only[aY,eQ] at hv
   split at hv
   .rename_i g first cap hx
    (try simp only at hv)
    cases hz:cE deep hp (first++(dG tm xs++cap)) with
    | none=>simp[hz] at hv
    | some z=>
     obtain⟨aq,aZ⟩:=z;simp only[hz] at hv
     cases hr:bL O.prog O.aI self g aq with
     | none=>simp[hr] at hv
     | some r=>
      simp only[hr,yc,yo] at hv;obtain⟨rfl,rfl,rfl⟩:=hv;obtain⟨c,f,ho,fU,rfl,rfl⟩:=Ot hq.symm (by rintro rfl;simp[ay] at hx);exact ak7 hC hH ho fU hx hz hr hl ht hh (fun u S' w' h1 h2 h3=>hn u m S' w' h1 dh.refl (fun _ _ h=>.inl h) h2 h3)
   .simp at hv
   .cases hv
  | own=>
   simp only[aY,eQ] at hv
   split at hv
   .rename_i g first cap hx
    (try simp only at hv)
    cases hz:cE deep hp (first++(dG tm xs++cap)) with
    | none=>simp[hz] at hv
    | some z=>
     obtain⟨aq,aZ⟩:=z;simp only[hz] at hv
     cases hr:bL O.prog O.aI self g aq with
     | none=>simp[hr] at hv
     | some r=>
      simp only[hr,yc] at hv;obtain⟨c,f,ho,fU,rfl,rfl⟩:=Ot hq.symm (by rintro rfl;simp[ay] at hx);have e1:v=(own aZ ct r).1:=by rw[hv]
      have e2:an=(own aZ ct r).2.1:=by rw[hv]
      have e3:aU=(own aZ ct r).2.2:=by rw[hv]
      subst e1;subst e2;subst e3;exact amb hC hH ho fU hx hz hr hl fw aH Ap ht hh hn
   .simp at hv
   .cases hv
 | _=>exact asR (fE (by simp only[aY] at hv;exact hv))
end
end
end
section
open Go
section
variable {r v:AV}{b sz:Nat}{q:Op}{P:xp}{x y:X}
section
variable {O:bA}{H:Hint}{m:Mp}{S:Nat->Prop}{w:yj}{tm:Env}{a:Act}{hp an:Hp}{ct aU:Nat}{self:cl}{ro:Option Nat}{next:Act->yj->Prop}{Q:uD->Act->yj->Prop}
def cf.zO{m':Mp}{S':Nat->Prop}{w':yj}{b':Nat}(h:cf m S w hp m' S' w' an b)(hb:b'<=b):cf m S w hp m' S' w' an b':=
 ⟨h.os,h.tape,h.output,h.size,h.same,h.sub,h.still,h.new,h.own,fun i q hi hq=>h.old i q (by lia) hq,h.loops⟩
def asS{hp:Hp}{ct:Nat}(aH:∀id o,ak hp id=FL o->id<ct):∀id o,ak (own hp ct r).2.1 id=FL o->id<(own hp ct r).2.2:=by
 have hL:∀(vs:List AV) (hp:Hp) (ct:Nat),(∀id o,ak hp id=FL o->id<ct)->∀id o,ak (kZ hp ct vs).2.1 id=FL o->id<(kZ hp ct vs).2.2:=by
  intro vs
  induction vs with
  | nil=>intro hp ct h id o ho;exact h id o ho
  | cons v r ih=>intro hp ct h id o ho;exact ih _ _ (JC h) id o ho
 cases r with
 | aw vs=>exact hL vs hp ct aH
 | _=>exact JC aH
def asT{hp:Hp}{ct:Nat}(aH:∀id o,ak hp id=FL o->id<ct):∀id o,ak hp id=FL o->ak (own hp ct r).2.1 id=FL o:=by
 cases r with
 | aw vs=>exact Oq aH
 | _=>exact Ue aH
def asU{hp:Hp}{ct:Nat}:ct<=(own hp ct r).2.2:=by
 cases r with
 | aw vs=>exact Oo
 | _=>exact On
def an8{hp:Hp}{ct:Nat}:∀id o,ak (own hp ct r).2.1 id=FL o->id<ct->ak hp id=FL o:=by
 have h1:∀(hp:Hp) (ct:Nat) (r:AV) id o,ak (fK hp ct r).2.1 id=FL o->id<ct->ak hp id=FL o:=by
  intro hp ct r id o h hc;cases r<;>simp only[fK] at h<;>try exact h
  rw[fH,yt (by lia)] at h;exact h
 have hL:∀(vs:List AV) (hp:Hp) (ct:Nat) id o,ak (kZ hp ct vs).2.1 id=FL o->id<ct->ak hp id=FL o:=by
  intro vs
  induction vs with
  | nil=>intro hp ct id o ho _;exact ho
  | cons v r ih=>intro hp ct id o ho hc;exact h1 hp ct v id o (ih _ _ id o ho (by have:=On (hp:=hp) (ct:=ct) (r:=v);lia)) hc
 cases r with
 | aw vs=>exact hL vs hp ct
 | _=>exact h1 hp ct _
structure jn(hp:Hp)(ct:Nat)(an:Hp)(aU:Nat):Prop where
 le:cR hp an
 rK:ct<=aU
 lt:∀id o,ak an id=FL o->id<aU
 back:∀id o,ak an id=FL o->id<ct->∃o',ak hp id=FL o'
def jn.refl(aH:∀id o,ak hp id=FL o->id<ct):jn hp ct hp ct:=⟨cR.refl,yu _,aH,fun _ o h _=>⟨o,h⟩⟩
def jn.trans{KV:Hp}{agq:Nat}(h:jn hp ct an aU)(k:jn an aU KV agq):jn hp ct KV agq:=
 ⟨h.le.trans k.le,xi h.rK k.rK,k.lt,fun id o ho hi=>let ⟨o1,h1⟩:=k.back id o ho (yP hi h.rK);h.back id o1 h1 hi⟩
def aaX{Pf aq:List AV}{aZ:Hp}(hz:cE deep hp Pf=FL (aq,aZ))(aH:∀id o,ak hp id=FL o->id<ct):jn hp ct aZ ct:=by
 have⟨z1,z2,_⟩:=Sx (O:=⟨default,⟨fun _=>FM,fun _=>FM⟩,fun _=>0,fun _=>FM,fun _=>⟨0,fun _=>FM,fun _=>[],fun _=>FM,fun _=>.pure,fun _=>[]⟩,default⟩) hz;have hb:∀id o,ak aZ id=FL o->∃o',ak hp id=FL o':=fun id o h=>by
  have:=z2 id
  rw[h] at this
  cases hq:ak hp id with
  | none=>rw[hq] at this;cases this
  | some q=>exact⟨q,rfl⟩
 exact⟨z1,yu _,fun id o h=>let ⟨o',h'⟩:=hb id o h;aH id o' h',fun id o h _=>hb id o h⟩
def amc(aH:∀id o,ak hp id=FL o->id<ct):jn hp ct (own hp ct r).2.1 (own hp ct r).2.2:=
 ⟨fun id o h=>⟨o,asT aH id o h,jA.refl o⟩,asU,asS aH,fun id o h hi=>⟨o,an8 id o h hi⟩⟩
def ZJ{P:aF}{L:Lib}(hk:bj q<=1)(hv:aY P L self tm hp ct q=FL (v,an,aU))(aH:∀id o,ak hp id=FL o->id<ct):jn hp ct an aU:=by
 have bZ:∀{q:Op},(match cK tm hp ct q with | some (v,b)=>FL (v,(ct,b)::hp,ct+1) | none=>(FM:gB))=FL (v,an,aU)->jn hp ct an aU:=by
  intro q h
  cases hm:cK tm hp ct q with
  | none=>simp[hm] at h
  | some r=>
   have⟨v1,b⟩:=r;simp only[hm,yc,yo] at h;obtain⟨rfl,rfl,rfl⟩:=h;refine⟨fun id o ho=>⟨o,?_,jA.refl o⟩,by lia,fun id o ho=>?_,fun id o ho hi=>?_⟩
   .rw [fH,yt (by have:=aH id o ho;lia)];exact ho
   .rw [fH] at ho;by_cases hc:ct=id
    .lia
    .simp only [hc,xm] at ho;have:=aH id o ho;lia
   .rw [fH,yt (by lia)] at ho;exact⟨o,ho⟩
 have fE:∀{q:Op},(match bg tm hp q with | some v=>FL (v,hp,ct) | none=>(FM:gB))=FL (v,an,aU)->jn hp ct an aU:=by
  intro q h
  cases hm:bg tm hp q with
  | none=>simp[hm] at h
  | some r=>
   simp only[hm,yc,yo] at h;obtain⟨rfl,rfl,rfl⟩:=h;exact jn.refl aH
 cases bO:q with
 | st _ _ _=>simp[bO,bj] at hk
 | rD _ _ _ _=>simp[bO,bj] at hk
 | rF _=>simp[bO,bj] at hk
 | db _ _ _ _=>simp[bO,bj] at hk
 | rH _ _ _=>simp[bO,bj] at hk
 | jH _ _ _=>simp[bO,bj] at hk
 | lI _ _ _ _=>simp[bO,bj] at hk
 | lJ _ _ _ _ _=>simp[bO,bj] at hk
 | rG sz b x y=>
  rw[bO] at hv;simp only[aY] at hv
  cases hm:zH hp ct sz b (ay tm x) (jk hp sz (ay tm y)) with
  | none=>simp[hm] at hv
  | some r=>
   have⟨v1,b⟩:=r;simp only[hm,yc,yo] at hv;obtain⟨rfl,rfl,rfl⟩:=hv;refine⟨fun id o ho=>⟨o,?_,jA.refl o⟩,by lia,fun id o ho=>?_,fun id o ho hi=>?_⟩
   .rw [fH,yt (by have:=aH id o ho;lia)];exact ho
   .rw [fH] at ho;by_cases hc:ct=id
    .lia
    .simp only [hc,xm] at ho;have:=aH id o ho;lia
   .rw [fH,yt (by lia)] at ho;exact⟨o,ho⟩
 | box s x=>exact bZ (q:=q) (by rw[bO] at hv ⊢;simp only[aY] at hv;exact hv)
 | jo n s z ps=>exact bZ (q:=q) (by rw[bO] at hv ⊢;simp only[aY] at hv;exact hv)
 | pK s b z x y=>exact bZ (q:=q) (by rw[bO] at hv ⊢;simp only[aY] at hv;exact hv)
 | Bz=>exact bZ (q:=q) (by rw[bO] at hv ⊢;simp only[aY] at hv;exact hv)
 | rE x=>exact bZ (q:=q) (by rw[bO] at hv ⊢;simp only[aY] at hv;exact hv)
 | call md x xs=>
  subst bO;simp only[aY,eQ] at hv
  split at hv
  .rename_i g first cap hx
   cases md with
   | heap=>simp[bj] at hk
   | dyn=>simp[bj] at hk
   | pure=>
    simp only at hv
    cases hz:cE deep hp (first++(dG tm xs++cap)) with
    | none=>simp[hz] at hv
    | some z=>
     have⟨aq,aZ⟩:=z;simp only[hz] at hv
     cases hr:bL P L self g aq with
     | none=>simp[hr] at hv
     | some r=>
      simp only[hr,yc,yo] at hv;obtain⟨rfl,rfl,rfl⟩:=hv;exact aaX hz aH
   | own=>
    simp only at hv
    cases hz:cE deep hp (first++(dG tm xs++cap)) with
    | none=>simp[hz] at hv
    | some z=>
     have⟨aq,aZ⟩:=z;simp only[hz] at hv
     cases hr:bL P L self g aq with
     | none=>simp[hr] at hv
     | some r=>
      simp only[hr,yc] at hv;have e2:an=(own aZ ct r).2.1:=by rw[hv]
      have e3:aU=(own aZ ct r).2.2:=by rw[hv]
      subst e2;subst e3;have g1:=aaX hz aH;exact g1.trans (amc g1.lt)
  .cases md with
   | heap=>simp[bj] at hk
   | dyn=>simp[bj] at hk
   | _=>simp at hv
  .cases hv
 | _=>exact fE (q:=q) (by rw[bO] at hv ⊢;simp only[aY] at hv;exact hv)
def NZ(hh:aS O m S w hp ct)(hg:jn hp ct an aU):∃S',aS O m S' w an aU/\(∀b,S b->S' b)/\(∀b,S' b->S b\/ef m hp b)/\∀base,cf m S w hp m S' w an base:=by
 have hd:∀id o p,ak an id=FL o->m id=FL p->∃o',ak hp id=FL o':=fun id o p h hm=>hg.back id o h (hh.lt id p hm)
 have⟨S',g1,g2,g3⟩:=acW hh hg.le hd hg.rK hg.lt;refine⟨S',g1,g2,g3,fun base=>⟨rfl,rfl,rfl,yu _,fun _ _ _=>rfl,g2,fun _ _=>rfl,fun b hb=>(g3 b hb).imp (fun h=>h) .inl,?_,fun _ _ _ h=>h,fun _ r h=>⟨r,h⟩⟩⟩;rintro b ⟨i,o,p,h1,h2,h3⟩;have⟨o',h4⟩:=hd i o p h1 h2;exact .inl ⟨i,o',p,h4,h2,h3⟩
def an9(hv:cp tm hp ct q=FL (v,an,aU)):ct<=aU:=by
 cases q<;>simp only[cp,reduceCtorEq] at hv
 all_goals
  grind
def Tu{H:Hint}{o:yV}{rs:List (Nat×Bool×Nat)}{xs:List X}(hq:ow P H (.jH rs x xs) o):∃c f,o.op=.call c/\c.callee=.value f/\x=aJ H f/\xs=iH H c.args.toList:=by
 rcases hq with ⟨k,hk⟩ | ⟨c,f,rs',h1,h2,h3⟩ | ⟨_,_,_,_,_,_,_,h3⟩ | ⟨_,_,_,_,_,_,_,h3⟩ | ⟨_,_,_,_,_,_,h3⟩ | ⟨_,_,_,_,_,_,h3⟩
 .cases ho:o.op with
  | call c=>
   obtain⟨callee,args,ts⟩:=c;simp only[aP,ho] at hk
   split at hk
   .rename_i f;cases hm:H.mode k<;>simp only[hm,Op.jH.injEq,reduceCtorEq] at hk
    exact⟨_,f,rfl,rfl,hk.2.1,hk.2.2⟩
   .repeat' split at hk
    all_goals first
     | (cases hk;done)
     | (simp only[bad] at hk;cases hk;done)
     | (revert hk;generalize yq _ _=bb;intro hk;cases bb<;>simp[bad] at hk)
   .simp only [bad] at hk;cases hk
  | binOp op t x' y ty=>
   cases op<;>simp only[aP,ho,n8,oU] at hk
   case eql=>
         repeat' split at hk
         all_goals first
          | (cases hk;done)
          | (simp only[bad] at hk;cases hk;done)
          | (cases bG:(P.stoodInHeld t||P.eqGuardType P.depth t)<;>rw[bG] at hk<;>simp[bad] at hk)
   case neq=>
         repeat' split at hk
         all_goals first
          | (cases hk;done)
          | (simp only[bad] at hk;cases hk;done)
          | (cases bG:(P.stoodInHeld t||P.eqGuardType P.depth t)<;>rw[bG] at hk<;>simp[bad] at hk)
   all_goals cases hk
  | buildSlice t n parts=>
   simp only[aP,ho] at hk
   repeat' split at hk
   all_goals first
    | (cases hk;done)
    | (simp only[bad] at hk;cases hk;done)
    | (revert hk;generalize yE _ _=bb;intro hk;cases bb<;>simp[bad] at hk)
  | makeMap t r=>
   cases r<;>simp only[aP,ho] at hk
   .repeat' split at hk
    all_goals first
     | (cases hk;done)
     | (simp only[bad] at hk;cases hk;done)
   .simp only [bad] at hk;cases hk
  | next x' b=>
   cases b<;>simp only[aP,ho] at hk
   .simp only [bad] at hk;cases hk
   .cases hk
  | _=>
   simp only[aP,ho] at hk
   (repeat' split at hk)
   all_goals first
    | contradiction
    | (cases hk;done)
    | (simp only[bad] at hk;cases hk;done)
 .simp only [Op.jH.injEq] at h3;exact⟨c,f,h1,h2,h3.2.1,h3.2.2⟩
 .cases h3
 .cases h3
 .cases h3
 .cases h3
def ala{H:Hint}{o:yV}{k:Nat}{rs:List (Nat×Bool×Nat)}(hk:Op.lI rs sz x y=aP P H k o):False:=by
 cases ho:o.op with
 | call c=>
  have⟨callee,args,ts⟩:=c;simp only[aP,ho] at hk
  split at hk
  .grind
  .repeat' split at hk
   all_goals first
    | (cases hk;done)
    | (simp only[bad] at hk;cases hk;done)
    | (revert hk;generalize yq _ _=bb;intro hk;cases bb<;>simp[bad] at hk)
  .simp only [bad] at hk;cases hk
 | binOp op t x' y ty=>
  cases op<;>simp only[aP,ho,n8,oU] at hk
  case eql=>
        repeat' split at hk
        all_goals first
         | (cases hk;done)
         | (simp only[bad] at hk;cases hk;done)
         | (cases bG:(P.stoodInHeld t||P.eqGuardType P.depth t)<;>rw[bG] at hk<;>simp[bad] at hk)
  case neq=>
        repeat' split at hk
        all_goals first
         | (cases hk;done)
         | (simp only[bad] at hk;cases hk;done)
         | (cases bG:(P.stoodInHeld t||P.eqGuardType P.depth t)<;>rw[bG] at hk<;>simp[bad] at hk)
  all_goals cases hk
 | buildSlice t n parts=>
  simp only[aP,ho] at hk
  repeat' split at hk
  all_goals first
   | (cases hk;done)
   | (simp only[bad] at hk;cases hk;done)
   | (revert hk;generalize yE _ _=bb;intro hk;cases bb<;>simp[bad] at hk)
 | makeMap t r=>
  cases r<;>simp only[aP,ho] at hk
  .repeat' split at hk
   all_goals first
    | (cases hk;done)
    | (simp only[bad] at hk;cases hk;done)
  .simp only [bad] at hk;cases hk
 | next x' b=>
  cases b<;>simp only[aP,ho] at hk
  .simp only [bad] at hk;cases hk
  .cases hk
 | _=>
  simp only[aP,ho] at hk
  (repeat' split at hk)
  all_goals first
   | contradiction
   | (cases hk;done)
   | (simp only[bad] at hk;cases hk;done)
def alb{H:Hint}{o:yV}{k:Nat}{rs:List (Nat×Bool×Nat)}(hk:Op.lJ rs sz b x y=aP P H k o):False:=by
 cases ho:o.op with
 | call c=>
  have⟨callee,args,ts⟩:=c;simp only[aP,ho] at hk
  split at hk
  .rename_i f;cases hm:H.mode k<;>simp only[hm,reduceCtorEq] at hk
  .repeat' split at hk
   all_goals first
    | (cases hk;done)
    | (simp only[bad] at hk;cases hk;done)
    | (revert hk;generalize yq _ _=bb;intro hk;cases bb<;>simp[bad] at hk)
  .simp only [bad] at hk;cases hk
 | binOp op t x' y ty=>
  cases op<;>simp only[aP,ho,n8,oU] at hk
  case eql=>
        repeat' split at hk
        all_goals first
         | (cases hk;done)
         | (simp only[bad] at hk;cases hk;done)
         | (cases bG:(P.stoodInHeld t||P.eqGuardType P.depth t)<;>rw[bG] at hk<;>simp[bad] at hk)
  case neq=>
        repeat' split at hk
        all_goals first
         | (cases hk;done)
         | (simp only[bad] at hk;cases hk;done)
         | (cases bG:(P.stoodInHeld t||P.eqGuardType P.depth t)<;>rw[bG] at hk<;>simp[bad] at hk)
  all_goals cases hk
 | buildSlice t n parts=>
  simp only[aP,ho] at hk
  repeat' split at hk
  all_goals first
   | (cases hk;done)
   | (simp only[bad] at hk;cases hk;done)
   | (revert hk;generalize yE _ _=bb;intro hk;cases bb<;>simp[bad] at hk)
 | makeMap t r=>
  cases r<;>simp only[aP,ho] at hk
  .repeat' split at hk
   all_goals first
    | (cases hk;done)
    | (simp only[bad] at hk;cases hk;done)
  .simp only [bad] at hk;cases hk
 | next x' b=>
  cases b<;>simp only[aP,ho] at hk
  .simp only [bad] at hk;cases hk
  .cases hk
 | _=>
  simp only[aP,ho] at hk
  (repeat' split at hk)
  all_goals first
   | contradiction
   | (cases hk;done)
   | (simp only[bad] at hk;cases hk;done)
def awT{H:Hint}{o:yV}(hq:ow P H (.st sz x y) o):∃t x' y',o.op=.store t x' y'/\cu P t=FL sz/\x=aJ H x'/\y=aJ H y':=by
 obtain⟨k,hk⟩:∃k,Op.st sz x y=aP P H k o:=by
  rcases hq with h | ⟨_,_,_,_,_,h⟩ | ⟨_,_,_,_,_,_,_,h⟩ | ⟨_,_,_,_,_,_,_,h⟩ | ⟨_,_,_,_,_,_,h⟩ | ⟨_,_,_,_,_,_,h⟩
  .exact h
  .cases h
  .cases h
  .cases h
  .cases h
  .cases h
 cases ho:o.op with
 | call c=>
  obtain⟨callee,args,ts⟩:=c;simp only[aP,ho] at hk
  split at hk
  .rename_i f;cases hm:H.mode k<;>simp only[hm,reduceCtorEq] at hk
  .repeat' split at hk
   all_goals first
    | (cases hk;done)
    | (simp only[bad] at hk;cases hk;done)
    | (revert hk;generalize yq _ _=bb;intro hk;cases bb<;>simp[bad] at hk)
  .simp only [bad] at hk;cases hk
 | binOp op t x' y ty=>
  cases op<;>simp only[aP,ho,n8,oU] at hk
  case eql=>
        repeat' split at hk
        all_goals first
         | (cases hk;done)
         | (simp only[bad] at hk;cases hk;done)
         | (cases bG:(P.stoodInHeld t||P.eqGuardType P.depth t)<;>rw[bG] at hk<;>simp[bad] at hk)
  case neq=>
        repeat' split at hk
        all_goals first
         | (cases hk;done)
         | (simp only[bad] at hk;cases hk;done)
         | (cases bG:(P.stoodInHeld t||P.eqGuardType P.depth t)<;>rw[bG] at hk<;>simp[bad] at hk)
  all_goals cases hk
 | buildSlice t n parts=>
  simp only[aP,ho] at hk
  repeat' split at hk
  all_goals first
   | (cases hk;done)
   | (simp only[bad] at hk;cases hk;done)
   | (revert hk;generalize yE _ _=bb;intro hk;cases bb<;>simp[bad] at hk)
 | makeMap t r=>
  cases r<;>simp only[aP,ho] at hk
  .repeat' split at hk
   all_goals first
    | (cases hk;done)
    | (simp only[bad] at hk;cases hk;done)
  .simp only [bad] at hk;cases hk
 | next x' b=>
  cases b<;>simp only[aP,ho] at hk
  .simp only [bad] at hk;cases hk
  .cases hk
 | store t x' y'=>
  simp only[aP,ho] at hk
  split at hk
  .rename_i s hs;simp only[Op.st.injEq] at hk;obtain⟨rfl,rfl,rfl⟩:=hk;exact⟨t,x',y',rfl,hs,rfl,rfl⟩
  .simp only [bad] at hk;cases hk
 | _=>
  simp only[aP,ho] at hk
  (repeat' split at hk)
  all_goals first
   | contradiction
   | (cases hk;done)
   | (simp only[bad] at hk;cases hk;done)
def adX{H:Hint}{o:yV}{rs:List (Nat×Bool×Nat)}(hq:ow P H (.lI rs sz x y) o):∃t x' y',o.op=.store t x' y'/\cu P t=FL sz/\x=aJ H x'/\y=aJ H y':=by
 rcases hq with ⟨k,hk⟩ | ⟨_,_,_,_,_,h3⟩ | ⟨t,x',y',nN,rs',h1,h2,h3⟩ | ⟨_,_,_,_,_,_,_,h3⟩ | ⟨_,_,_,_,_,_,h3⟩ | ⟨_,_,_,_,_,_,h3⟩
 .exact (ala hk).elim
 .cases h3
 .simp only [Op.lI.injEq] at h3;obtain⟨_,rfl,rfl,rfl⟩:=h3;exact⟨t,x',y',h1,h2,rfl,rfl⟩
 .cases h3
 .cases h3
 .cases h3
def adY{H:Hint}{o:yV}{rs:List (Nat×Bool×Nat)}(hq:ow P H (.lJ rs sz b x y) o):∃k,Op.db sz b x y=aP P H k o:=by
 rcases hq with ⟨k,hk⟩ | ⟨_,_,_,_,_,h3⟩ | ⟨_,_,_,_,_,_,_,h3⟩ | ⟨k,rs',nN,b',x',y',h1,h3⟩ | ⟨_,_,_,_,_,_,h3⟩ | ⟨_,_,_,_,_,_,h3⟩
 .exact (alb hk).elim
 .cases h3
 .cases h3
 .simp only [Op.lJ.injEq] at h3;obtain⟨_,rfl,rfl,rfl,rfl⟩:=h3;exact⟨k,h1⟩
 .cases h3
 .cases h3
def adZ{H:Hint}{o:yV}(hq:ow P H (.db sz b x y) o):∃k,Op.db sz b x y=aP P H k o:=by
 rcases hq with h | ⟨_,_,_,_,_,h3⟩ | ⟨_,_,_,_,_,_,_,h3⟩ | ⟨_,_,_,_,_,_,_,h3⟩ | ⟨_,_,_,_,_,_,h3⟩ | ⟨_,_,_,_,_,_,h3⟩
 .exact h
 .cases h3
 .cases h3
 .cases h3
 .cases h3
 .cases h3
def alc{H:Hint}{o:yV}(hq:ow P H q o):ow P H (jK q) o:=by
 cases h:q with
 | jH rs f xs=>
  subst h;have⟨c,f',g1,g2,g3,g4⟩:=Tu hq;exact .inr (.inl ⟨c,f',[],g1,g2,by rw[g3,g4];rfl⟩)
 | lI rs sz x y=>
  subst h;have⟨t,x',y',g1,g2,g3,g4⟩:=adX hq;refine .inl ⟨0,?_⟩;simp only[jK,aP,g1,g2,g3,g4]
 | lJ rs sz b x y=>
  subst h;exact .inl (adY hq)
 | _=>subst h;exact hq
def abO(hC:oV O self)(hH:fh O H){o:yV}(hq:ow O.P H q o)(hd:∀c,o.op≠.defer c)(hv:aY O.prog O.aI self tm hp ct q=FL (v,an,aU))(ht:bV O m S w tm a.tmps)(hh:aS O m S w hp ct)(hn:∀u m' S' w',aS O m' S' w' an aU->ct<=aU->af O.ae m' S' w' v u->cf m S w hp m' S' w' an ct->next (a.put o.dst u) w'):o.wpIn (WF ro) 0 O.P a w next Q:=by
 have quiet:bj q<=1->o.wpIn (WF ro) 0 O.P a w next Q:=by
  intro hk;have hg:=ZJ hk hv hh.aH;obtain⟨S1,g1,g2,g3,g4⟩:=NZ hh hg;refine quiet_step hC hH hk hq hd hv cR.refl (yu _) hh.aH (fun id h1 h2=>?_) (B8 (fun _ _ h=>h) g2 (fun _ _=>rfl) ht) g1 (fun u m' S' w' k1 k2 k3 k4 k5=>hn u m' S' w' k1 hg.rK k4 ((g4 ct).trans (k5.zO hg.rK)))
  cases hm:m id with
  | none=>rfl
  | some p=>have:=hh.lt id p hm;omega
 have UE:∀{q':Op},(∃k,q'=aP O.P H k o)->cp tm hp ct q'=FL (v,an,aU)->o.wpIn (WF ro) 0 O.P a w next Q:=by
  intro q' ie hw;obtain⟨k,rfl⟩:=ie;obtain⟨n,u,w',m',S',h1,h2,h3,h4,h5,h6⟩:=aqc hH ht hh hw;exact Gj hd h1 h2 (hn u m' S' w' h3 (an9 hw) h4 h6)
 have write:cp tm hp ct q=FL (v,an,aU)->o.wpIn (WF ro) 0 O.P a w next Q:=by
  intro hw;refine UE ?_ hw;rcases hq with h | ⟨c,f,rs,_,_,rfl⟩ | ⟨_,_,_,_,_,_,_,rfl⟩ | ⟨_,_,_,_,_,_,_,rfl⟩ | ⟨_,_,_,_,_,_,rfl⟩ | ⟨_,_,_,_,_,_,rfl⟩
  .exact h
  .simp [cp] at hw
  .simp [cp] at hw
  .simp [cp] at hw
  .simp [cp] at hw
  .simp [cp] at hw
 have heap:∀{c:yad} {f:xt} {g:Nat} {first cap:List AV},o.op=.call c->c.callee=.value f->ay tm (aJ H f)=.fn (.f g) first cap->
   jl O.prog O.aI self hp ct g (first++(dG tm (iH H c.args.toList)++cap))=FL (v,an,aU)->o.wpIn (WF ro) 0 O.P a w next Q:=by
  intro c f g first cap ho fU hx he;obtain⟨fi,ca,h1,h2⟩:=NY hH ht (args:=c.args) hx;refine Nw ho fU h1 (hC.heap _ _ _ _ _ _ _ he m S w _ hh h2) ?_;rintro e w' ⟨u,m',S',rfl,k1,k2,k3,k4⟩;exact⟨u,rfl,hn u m' S' w' k1 k2 k3 k4⟩
 have round:∀{c:yad} {f:xt} {l:Nat} {x y:List AV},o.op=.call c->c.callee=.value f->ay tm (aJ H f)=.fn (.y l) x y->
   lA self hp ct l (dG tm (iH H c.args.toList))=FL (v,an,aU)->o.wpIn (WF ro) 0 O.P a w next Q:=by
  intro c f l x y ho fU hx he;have rf:=bW hH ht f;rw[hx] at rf;simp only[af] at rf;obtain⟨p,hm,hf⟩:=rf;have eF:=D2 hH ht c.args.toList;obtain⟨g,tmps,as_,body,h1,h2⟩:=hC.round _ _ _ _ _ _ _ he m S w (c.args.map a.eval) p hh hm (by simpa using eF);refine an4 ho fU hf h1 h2 ?_;rintro e w' ⟨u,m',S',rfl,k1,k2,k3,k4⟩;exact⟨u,rfl,hn u m' S' w' k1 k2 k3 k4⟩
 have dyn:∀{c:yad} {f:xt},o.op=.call c->c.callee=.value f->eQ O.prog O.aI self hp ct .dyn (ay tm (aJ H f)) (dG tm (iH H c.args.toList))=FL (v,an,aU)->o.wpIn (WF ro) 0 O.P a w next Q:=by
  intro c f ho fU he;unfold eQ at he
  split at he
  .rename_i g first cap hx
   (try simp only at he)
   cases hp0:aG (first++(dG tm (iH H c.args.toList)++cap)) with
   | true=>
    rw[hp0] at he;simp only[yx] at he
    cases hr:bL O.prog O.aI self g (first++(dG tm (iH H c.args.toList)++cap)) with
    | none=>simp[hr] at he
    | some r=>
     simp only[hr,yc,yo] at he;obtain⟨rfl,rfl,rfl⟩:=he;obtain⟨fi,ca,h1,h2⟩:=NY hH ht (args:=c.args) hx;refine Nw ho fU h1 (hC.pure g _ r hr w S _ (Uf hh) hh.slt (AM (fun _ h=>h) (fun _ _=>rfl) _ _ hp0 h2) hp0) ?_;rintro e w' ⟨u,S',rfl,hw,g1,g2,g3,g4⟩;obtain⟨S2,k1,k2,k3⟩:=aaS g4 m;have hS:∀b,S b->S2 b:=fun b hb=>k1 b (g1 b hb)
     have Df:∀b,S2 b->S b\/w.heap.size<=b:=fun b hb=>(k2 b hb).elim (g2 b) (fun h=>.inr h.1)
     have hl:∀b,S2 b->b<w'.heap.size:=fun b hb=>(k2 b hb).elim (g3 b) (fun h=>h.2)
     exact⟨u,rfl,hn u m S2 w' (B9 hh hw hS Df hl) (yu _) k3 (AO hh hw hS Df)⟩
   | false=>
    rw[hp0] at he;simp only[yR] at he;exact heap ho fU hx he
  .rename_i l x y hx;exact round ho fU hx he
  .cases he
 cases bO:q with
 | jH rs x xs=>
  subst bO;simp only[aY] at hv;have key:=Tu hq;obtain⟨c,f,ho,fU,rfl,rfl⟩:=key
  cases hc:eQ O.prog O.aI self hp ct .dyn (ay tm (aJ H f)) (dG tm (iH H c.args.toList)) with
  | none=>simp[hc] at hv
  | some r=>
   obtain⟨v1,aZ,pT⟩:=r;simp only[hc] at hv
   cases hs:oT tm hp aZ rs with
   | false=>rw[hs] at hv;cases hv
   | true=>
    rw[hs] at hv;simp only[yx,yc,yo] at hv;obtain⟨rfl,rfl,rfl⟩:=hv;exact dyn ho fU hc
 | call md x xs=>
  subst bO;have ie:∃k,Op.call md x xs=aP O.P H k o:=by
   rcases hq with h | ⟨c,f,rs,_,_,h⟩ | ⟨_,_,_,_,_,_,_,h⟩ | ⟨_,_,_,_,_,_,_,h⟩ | ⟨_,_,_,_,_,_,h⟩ | ⟨_,_,_,_,_,_,h⟩
   .exact h
   .cases h
   .cases h
   .cases h
   .cases h
   .cases h
  obtain⟨k,hk⟩:=ie
  cases md with
  | pure=>exact quiet (by simp[bj])
  | own=>exact quiet (by simp[bj])
  | heap=>
   simp only[aY] at hv;obtain⟨c,f,ho,fU,rfl,rfl⟩:=Ot hk.symm (by rintro rfl;simp[ay,eQ] at hv);unfold eQ at hv
   split at hv
   .rename_i g first cap hx;exact heap ho fU hx hv
   .rename_i l x y hx;exact round ho fU hx hv
   .cases hv
  | dyn=>
   simp only[aY] at hv;obtain⟨c,f,ho,fU,rfl,rfl⟩:=Ot hk.symm (by rintro rfl;simp[ay,eQ] at hv);exact dyn ho fU hv
 | lI rs s x y=>
  subst bO;obtain⟨t,x',y',g1,g2,g3,g4⟩:=adX hq;simp only[aY] at hv
  split at hv
  .rename_i id off hx
   cases hf:jG tm id rs with
   | false=>rw[hf] at hv;cases hv
   | true=>
    rw[hf] at hv;simp only[yx] at hv
    exact UE (q':=.st s x y) ⟨0,by simp only[aP,g1,g2,g3,g4]⟩ hv
  .cases hv
 | lJ rs s b x y=>
  subst bO;simp only[aY] at hv
  cases hc:cp tm hp ct (.db s b x y) with
  | none=>simp[hc] at hv
  | some r=>
   obtain⟨v1,aZ,pT⟩:=r;simp only[hc] at hv
   cases hs:(zN tm (ay tm x) rs||oT tm hp aZ rs) with
   | false=>rw[hs] at hv;cases hv
   | true=>
    rw[hs] at hv;simp only[yx,yc,yo] at hv;obtain⟨rfl,rfl,rfl⟩:=hv
    exact UE (q':=.db s b x y) (adY hq) hc
 | st s x y=>subst bO;exact write (by simpa only[aY] using hv)
 | rD kk x y z=>subst bO;exact write (by simpa only[aY] using hv)
 | rF x=>subst bO;exact write (by simpa only[aY] using hv)
 | db s b x y=>subst bO;exact write (by simpa only[aY] using hv)
 | rH s x y=>subst bO;exact write (by simpa only[aY] using hv)
 | rC k x lo hi=>subst bO;exact quiet (by cases k<;>simp[bj])
 | len k x=>subst bO;exact quiet (by rcases k with _ | _ | k<;>simp[bj])
 | _=>subst bO;exact quiet (by simp[bj])
end
end
end
section
open Go
section
variable {v:AV}{d:Option Nat}
def qU(tm:Env)(g:Option (Nat×Bool)):Option Bool:=
 match g with
 | none=>FL ycZ
 | some (t,b)=>match aj tm t with | .bool c=>FL (c==b) | .aw []=>FL yda | _=>FM
def fe(P:aF)(L:Lib)(self:cl)(tm:Env)(hp:Hp)(ct:Nat)(r:aR):gB:=
 match qU tm r.guard with
 | some ycZ=>aY P L self tm hp ct r.op
 | some yda=>FL (.aw [],hp,ct)
 | none=>FM
def aac{P:aF}{L:Lib}{self:cl}{r:aR}{rs:List aR}{s:St}:
  de P L self (r::rs) s=match fe P L self s.tm s.hp s.ct r with | some (v,hp,ct)=>de P L self rs {s with tm:=put r.dst v s.tm,hp:=hp,ct:=ct} | none=>FM:=by
 have⟨d,g,o⟩:=r;simp only[de,fe]
 cases g with
 | none=>rfl
 | some q=>
  have⟨t,b⟩:=q;simp only[qU];generalize aj s.tm t=x
  cases x with
  | bool c=>
   simp only;cases (c==b)<;>rfl
  | aw vs=>cases vs<;>rfl
  | _=>rfl
def ac6(ops:Array yV)(g:Option (Nat×Bool))(g':Option (Nat×Bool)):Prop:=
 (g=FM/\g'=FM)\/∃t b j,g=FL (t,b)/\g'=FL (j,b)/\(ops[j]?).bind (·.dst)=FL t
structure Eu(P:xp)(H:Hint)(ops:Array yV)(r:aR)(o:yV):Prop where
 op:ow P H r.op o
 dst:r.dst=o.dst
 ok:KE H o.dst=ycZ
 guard:ac6 ops r.guard o.guard
def eL(P:xp)(H:Hint)(ops:Array yV):List aR->List yV->Prop
 | [],[]=>True
 | r::rs,o::l=>(Eu P H ops r o\/(r.guard=FM/\r.op=bad))/\eL P H ops rs l
 | _,_=>False
def aad{P:xp}{H:Hint}{ops:Array yV}:∀(l:List yV) (k:Nat),eL P H ops (DU P H ops l k).1 l
 | [],k=>by simp[DU,eL]
 | o::l,k=>by
  have ih:=aad (P:=P) (H:=H) (ops:=ops) l (k+(bif UB o then 1 else 0));simp only[DU];generalize hq:DU P H ops l (k+(bif UB o then 1 else 0))=q at ih;have⟨l',k'⟩:=q;simp only;have iW:eL P H ops (⟨o.dst,FM,bad⟩::l') (o::l):=⟨.inr ⟨rfl,rfl⟩,ih⟩
  cases hg:o.guard with
  | none=>
   simp only
   cases hd:KE H o.dst with
   | false=>exact iW
   | true=>exact⟨.inl ⟨.inl ⟨k,rfl⟩,rfl,hd,.inl ⟨rfl,hg⟩⟩,ih⟩
  | some p=>
   have⟨j,b⟩:=p;simp only
   cases ht:(ops[j]?).bind (·.dst) with
   | none=>exact iW
   | some t=>
    simp only
    cases hd:KE H o.dst with
    | false=>exact iW
    | true=>exact⟨.inl ⟨.inl ⟨k,rfl⟩,rfl,hd,.inr ⟨t,b,j,rfl,hg,ht⟩⟩,ih⟩
section
variable {O:bA}{H:Hint}{m:Mp}{S:Nat->Prop}{w:yj}{tm:Env}{a:Act}{hp an:Hp}{ct aU:Nat}{self:cl}{ro:Option Nat}{Q:uD->Act->yj->Prop}{ops:Array yV}
def Tv{tm:Env}{t:Nat}:aj (put d v tm) t=if d=FL t then v else aj tm t:=by
 cases d with
 | none=>simp[put]
 | some i=>
  simp only[put,aj];by_cases h:i=t
  .subst h;simp
  .have:yq i t=yda:=by
    cases hq:yq i t with
    | false=>rfl
    | true=>exact absurd (yg hq) h
   simp[this,h]
def N1(a:Act)(d:Option Nat)(u:yh):(a.put d u).tmps.size=a.tmps.size:=by
 cases d with
 | none=>rfl
 | some i=>simp[Act.put]
def SB(a:Act)(d:Option Nat)(u:yh):(a.put d u).defers=a.defers:=by
 cases d with
 | none=>rfl
 | some i=>rfl
def Tw{a:Act}{u:yh}{t:Nat}(hd:∀i,d=FL i->i<a.tmps.size):(a.put d u).tmps.getD t undef=if d=FL t then u else a.tmps.getD t undef:=by
 cases d with
 | none=>simp[Act.put]
 | some i=>
  have hi:=hd i rfl;by_cases h:i=t
  .subst h;simp[Act.put,hi]
  .simp only [Act.put,yc,h,xm];simp[Array.getElem?_setIfInBounds_ne h]
def abP{n:Nat}(h:KE H d=ycZ)(hn:H.n<=n):∀i,d=FL i->i<n:=by
 rintro i rfl
 have:=qD.1 h
 lia
def Tz{u:yh}(ht:bV O m S w tm a.tmps)(hd:∀i,d=FL i->i<a.tmps.size)(hv:af O.ae m S w v u):bV O m S w (put d v tm) (a.put d u).tmps:=fun t=>by
 rw[Tv,Tw hd]
 split
 .exact hv
 .exact ht t
def aaY{o:yV}{g:Option (Nat×Bool)}{b:Bool}(hg:ac6 ops g o.guard)(ht:∀t,t∈U6 g->af O.ae m S w (aj tm t) (a.tmps.getD t undef))(hw:qU tm g=FL b):Region.wanted o (yielded ops a.tmps)=b:=by
 rcases hg with ⟨rfl,h2⟩ | ⟨t,c,j,rfl,h2,h3⟩
 .simp only [qU,yc] at hw;subst hw;simp[Region.wanted,h2]
 .simp only [qU] at hw;have h4:=ht t (by simp[U6]);simp only[Region.wanted,h2]
  split at hw
  .rename_i d hd;rw[hd] at h4;simp only[af] at h4;simp only[yc] at hw
   have:yielded ops a.tmps j=FL d:=by
    simp only[yielded,h3,wF];have h5:a.tmps[t]? =FL (.bool d):=by
     simp only[wi] at h4
     cases hq:a.tmps[t]? with
     | none=>rw[hq] at h4;simp[undef] at h4
     | some x=>rw[hq] at h4;simp at h4;rw[h4]
    rw[h5]
   rw[this,<-hw];cases d<;>cases c<;>rfl
  .rename_i hd;rw[hd] at h4;simp only[af,aB] at h4;have⟨xs,h4,h5⟩:=h4;simp only[yc] at hw;subst hw
   have:yielded ops a.tmps j=FM:=by
    simp only[yielded,h3,wF];simp only[wi] at h4
    cases hq:a.tmps[t]? with
    | none=>rfl
    | some x=>rw[hq] at h4;simp at h4;rw[h4]
   rw[this];rfl
  .cases hw
def ZK{o:yV}{q:Op}(hq:ow O.P H q o){r:AV×Hp×Nat}(hv:aY O.prog O.aI self tm hp ct q=FL r):∀c,o.op≠.defer c:=by
 rcases hq with ⟨k,rfl⟩ | ⟨c,f,rs,h1,_,_⟩ | ⟨_,_,_,_,_,h1,_,_⟩ | ⟨k,rs,sz,b,x,y,h1,rfl⟩ | ⟨k,sz,b,x,y,h1,rfl⟩ | ⟨k,n,sz,z,ps,h1,rfl⟩
 .exact ak5 hv
 .intro c' h;rw[h1] at h;cases h
 .intro c' h;rw[h1] at h;cases h
 .intro c' h;simp only[aP,h] at h1;simp[bad] at h1
 .intro c' h;simp only[aP,h] at h1;simp[bad] at h1
 .intro c' h;simp only[aP,h] at h1;simp[bad] at h1
def aqe(hC:oV O self)(hH:fh O H){i:Nat}{r:aR}{o:yV}(hi:ops[i]? =FL o)(hr:Eu O.P H ops r o\/(r.guard=FM/\r.op=bad))(hv:fe O.prog O.aI self tm hp ct r=FL (v,an,aU))(ht:bV O m S w tm a.tmps)(hh:aS O m S w hp ct)(hn:H.n<=a.tmps.size){K:Act->yj->Prop}(hK:∀u m' S' w',aS O m' S' w' an aU->ct<=aU->bV O m' S' w' (put r.dst v tm) (a.put o.dst u).tmps->cf m S w hp m' S' w' an ct->K (a.put o.dst u) w'):wpOpIn (WF ro) 0 O.P ops Q i K a w:=by
 rcases hr with hr | ⟨h1,h2⟩
 case inr=>
  simp only[fe,h1,qU,h2,bad,aY,eQ,ay] at hv;cases hv
 unfold wpOpIn;simp only[hi];unfold fe at hv
 cases hw:qU tm r.guard with
 | none=>simp[hw] at hv
 | some b=>
  have XR:=aaY hr.guard (fun t _=>ht t) hw;have hd:=abP hr.ok hn;rw[XR]
  cases b with
  | true=>
   simp only[hw] at hv;simp only[xA];refine abO hC hH hr.op (ZK hr.op hv) hv ht hh (fun u m' S' w' k1 k2 k3 k4=>hK u m' S' w' k1 k2 ?_ k4);rw[hr.dst];exact Tz (B8 (fun id p h=>k4.old id p (hh.lt id p h) h) k4.sub (fun b hb=>k4.still b hb) ht) hd k3
  | false=>
   simp only[hw,yc,yo] at hv;obtain⟨rfl,rfl,rfl⟩:=hv;simp only[yC,xm];refine⟨fun _ _=>trivial,hK undef m S w hh (yu _) ?_ cf.refl⟩;rw[hr.dst];exact Tz ht hd (by simp[af,aB,undef])
def ac7(hC:oV O self)(hH:fh O H):∀(l:List yV) (rs:List aR) (i:Nat) (s s':St) (a:Act) (m:Mp) (S:Nat->Prop) (w:yj),(∀j,l[j]? =ops[i+j]?)->eL O.P H ops rs l->
  de O.prog O.aI self rs s=FL s'->bV O m S w s.tm a.tmps->aS O m S w s.hp s.ct->H.n<=a.tmps.size->
  (∀a' m' S' w',aS O m' S' w' s'.hp s'.ct->s.ct<=s'.ct->bV O m' S' w' s'.tm a'.tmps->cf m S w s.hp m' S' w' s'.hp s.ct->a'.tmps.size=a.tmps.size->a'.defers=a.defers->s'.base=s.base->Q .normal a' w')->
  wpOpsIn (WF ro) 0 O.P ops Q (List.range' i l.length) a w
 | [],rs,i,s,s',a,m,S,w,hl,hr,hv,ht,hh,hn,hQ=>by
  cases rs with
  | cons _ _=>simp[eL] at hr
  | nil=>
   simp only[de,yc] at hv;subst hv;simp only[yJ,List.range'_zero,wpOpsIn];exact hQ a m S w hh (yu _) ht cf.refl rfl rfl rfl
 | o::l,rs,i,s,s',a,m,S,w,hl,hr,hv,ht,hh,hn,hQ=>by
  cases rs with
  | nil=>simp[eL] at hr
  | cons r rs=>
   simp only[eL] at hr;rw[aac] at hv
   cases h1:fe O.prog O.aI self s.tm s.hp s.ct r with
   | none=>simp[h1] at hv
   | some q=>
    have⟨v,aZ,pT⟩:=q;simp only[h1] at hv;have hi:ops[i]? =FL o:=by have:=hl 0;simpa using this.symm
    rw[yy,List.range'_succ,wpOpsIn_cons];refine aqe hC hH hi hr.1 h1 ht hh hn (fun u m1 S1 w1 k1 k2 k3 k4=>?_)
    refine ac7 hC hH l rs (i+1) {s with tm:=put r.dst v s.tm,hp:=aZ,ct:=pT} s' _ m1 S1 w1 (fun j=>?_) hr.2 hv k3 k1 (by rw[N1];exact hn) (fun a' m' S' w' g1 g2 g3 g4 g5 g6 g7=>?_)
    .have:=hl (j+1)
     rw[yaD] at this;rw[this];congr 1;lia
    .exact hQ a' m' S' w' g1 (xi k2 g2) g3 (k4.trans (g4.zO k2)) (by rw[g5,N1]) (by rw[g6,SB]) g7
end
end
end
section
open Go
section
variable {ops:Array yV}
def So{acc:List Nat}{i:Nat}:∀{es:List Edge},vJ (Co acc es) i=ycZ->∃e,e∈es/\Region.binds .any e=ycZ/\(i=e.on\/vJ (acc.getD e.on 0) i=ycZ)
 | [],h=>by simp[Co] at h
 | e::r,h=>by
  simp only[Co] at h
  cases hb:Region.binds .any e with
  | false=>
   rw[hb] at h;have⟨e',h1,h2⟩:=So h
   grind
  | true=>
   rw[hb] at h;simp only[yx,ybP,uH] at h;rcases h with (h | h) | h
   .grind
   .grind
   .have ⟨e',h1,h2⟩:=So h
    grind
def aaZ{l:List yV}{acc:List Nat}{j:Nat}(hj:j<acc.length):(kC acc l)[j]? =acc[j]? :=by
 induction l generalizing acc with
 | nil=>rfl
 | cons o l ih=>
  simp only[kC]
  grind
def ald{l:List yV}{acc:List Nat}{j:Nat}{o:yV}(h:l[j]? =FL o):∃Bj:List Nat,(kC acc l)[acc.length+j]? =FL (Co Bj o.after.toList)/\Bj.length=acc.length+j/\∀k,k<Bj.length->Bj[k]? =(kC acc l)[k]? :=by
 induction l generalizing acc j with
 | nil=>simp at h
 | cons x l ih=>
  cases j with
  | zero=>
   simp only[ui,yc] at h;subst h;refine⟨acc,?_,by simp,fun k hk=>?_⟩
   .simp only [kC];rw[aaZ (by simp)]
    simp
   .simp only [kC];rw[aaZ (by rw[yN];lia),List.getElem?_append_left hk]
  | succ j=>
   have⟨Bj,h1,h2,h3⟩:=ih (acc:=acc++[Co acc x.after.toList]) h;simp only[yN,yy,yJ] at h1 h2;refine⟨Bj,?_,by lia,fun k hk=>?_⟩
   .simp only [kC]
    grind
   .simp only [kC];exact h3 k hk
def Ord(ops:Array yV)(i j:Nat):Prop:=vJ ((kC [] ops.toList).getD j 0) i=ycZ
def UF(ops:Array yV)(D:Nat->Prop):Prop:=∀j o,ops[j]? =FL o->D j->∀e,e∈o.after->Region.binds .any e=ycZ->D e.on
def aa0{D:Nat->Prop}(hc:UF ops D):∀(j:Nat) (o:yV),ops[j]? =FL o->(∀e,e∈o.after->Region.binds .any e=ycZ->D e.on)->∀i,Ord ops i j->D i:=by
 intro j
 induction j using vR with
 | _ j ih=>
  intro o ho hr i hi;have jz:ops.toList[j]? =FL o:=by simp_all
  have⟨Bj,h1,h2,h3⟩:=ald (acc:=[]) jz;simp only[yJ,yd] at h1 h2;unfold Ord at hi;rw[xd,h1,wX] at hi;have⟨e,g1,g2,g3⟩:=So hi;have he:D e.on:=hr e (by simpa using g1) g2;rcases g3 with rfl | g3
  .grind
  .rcases vn e.on j with aH | je
   .have h4:=h3 e.on (by lia);have hol:e.on<ops.size:=by
     grind
    have XP:ops[e.on]? =FL ops[e.on]:=by simp_all
    refine ih e.on aH _ XP (fun e' he' bG=>hc e.on _ XP he e' he' bG) i ?_;unfold Ord
    grind
   .grind
def aoa{D:Nat->Prop}(hc:UF ops D){i j:Nat}{o:yV}(ho:ops[j]? =FL o)(hj:D j)(hi:Ord ops i j):D i:=
 aa0 hc j o ho (fun e he hb=>hc j o ho hj e he hb) i hi
def Zu:∀{l:List yV} {k j:Nat} {o:yV},nW l k=ycZ->l[j]? =FL o->∀e,e∈o.after->Region.binds .any e=ycZ->e.on<k+j
 | [],k,j,o,_,h=>by simp at h
 | x::l,k,j,o,hb,h=>by
  simp only[nW,yf] at hb
  cases j with
  | zero=>
   simp only[ui,yc] at h;subst h;intro e he sU
   have:=ybv.1 hb.1 e (by simpa using he)
   simp_all
  | succ j=>
   intro e he sU
   have:=Zu hb.2 h e he sU
   lia
end
def EG(a b:aR)(r:List aR):Prop:=NU a b=yda/\(Jf a b=yda\/JA a b r=ycZ)
def Zw{m:Nat}{b:aR}:∀{l:List aR} {k i:Nat} {a:aR},NV m b l k=ycZ->l[i]? =FL a->vJ m (k+i)=ycZ\/EG a b (l.drop (i+1))
 | [],k,i,a,_,h=>by simp at h
 | x::l,k,i,a,hp,h=>by
  simp only[NV,yf] at hp
  cases i with
  | zero=>
   simp only[ui,yc] at h;subst h;have h1:=hp.1;simp only[uH,vT,yaR,Bool.and_eq_false_iff,Bool.not_eq_false'] at h1;rcases h1 with h1 | ⟨h1,h2⟩
   .grind
   .exact .inr ⟨h1,by simpa using h2⟩
  | succ i=>
   rcases Zw hp.2 h with h1 | h1
   .grind
   .grind
def Sf:∀{l done:List aR} {ms:List Nat} {i j:Nat} {a b:aR},qB done l ms=ycZ->(done++l)[i]? =FL a->l[j]? =FL b->i<done.length+j->
  ∃m,ms[j]? =FL m/\(vJ m i=ycZ\/EG a b (((done++l).take (done.length+j)).drop (i+1)))
 | [],done,ms,i,j,a,b,_,_,h,_=>by simp at h
 | x::l,done,[],i,j,a,b,hp,_,h,_=>by simp[qB] at hp
 | x::l,done,m::ms,i,j,a,b,hp,ha,h,pU=>by
  simp only[qB,yf] at hp
  cases j with
  | zero=>
   have Fb:done[i]? =FL a:=by grind
   have:=Zw hp.1 Fb
   grind
  | succ j=>
   have e:done++x::l=(done++[x])++l:=by simp
   have⟨m',h1,h2⟩:=Sf (i:=i) (a:=a) hp.2 (by rw[<-e];exact ha) h (by simp;lia)
   grind
def Nf{a b:aR}(h:NU a b=yda):(∀d,a.dst=FL d->d∉D1 b/\b.dst≠FL d)/\(∀d,b.dst=FL d->d∉D1 a):=by
 have mem:∀{i:Nat} {l:List Nat},jq i l=yda->i∉l:=by
  intro i l
  induction l with
  | nil=>intro _ h;cases h
  | cons j r ih=>
   intro h hm;simp only[jq] at h
   cases hb:yq j i with
   | true=>rw[hb] at h;cases h
   | false=>
    simp_all
 simp only[NU,yaR] at h;have⟨⟨h1,h2⟩,h3⟩:=h;refine⟨fun d hd=>⟨mem (by simpa[hd,GZ] using h1),fun hb=>?_⟩,fun d hd=>mem (by simpa[hd,GZ] using h2)⟩;rw[hd,hb] at h3;simp[U7] at h3
def aae{t:Nat}:∀{l:List aR},El t l=ycZ->∀r,r∈l->r.dst≠FL t
 | [],_,r,h=>by cases h
 | x::l,h,r,hr=>by
  simp only[El,yf,vT] at h;rcases xu.1 hr with rfl | hr
  .intro hd;rw[hd] at h;simp[GZ,jq] at h
  .exact aae h.2 r hr
def NK{sz t:Nat}{ag:Bool}:∀{l:List (Nat×Bool×Nat)},EC sz ag t l=ycZ->(sz,ag,t)∈l
 | [],h=>by simp[EC] at h
 | (s,g,u)::r,h=>by
  simp only[EC,uH,yf] at h;rcases h with ⟨h1,h2,h3⟩ | h
  .simp_all
  .exact xR _ (NK h)
def TA:∀{a b:List Nat},cW a b=ycZ->a=b
 | [],[],_=>rfl
 | [],_::_,h=>by simp[cW] at h
 | _::_,[],h=>by simp[cW] at h
 | x::a,y::b,h=>by
  simp only[cW,yf] at h;rw[yg h.1,TA h.2]
def amd{a b:AV}(h:VQ a b=ycZ):a=b:=by
 unfold VQ at h
 split at h
 .grind
 .grind
 .rw [TA h]
 .rfl
 .rfl
 .simp_all
 .simp_all
 .simp_all
 .cases h
def Sg{tm:Env}{hp an:Hp}{sz t:Nat}{ag:Bool}{v:AV}:∀{l:List (Nat×Bool×Nat)},oT tm hp an l=ycZ->(sz,ag,t)∈l->gJ hp sz ag (aj tm t)=FL v->gJ an sz ag (aj tm t)=FL v
 | [],_,h,_=>by cases h
 | (s,g,u)::r,h,hm,hv=>by
  simp only[oT] at h
  cases h1:gJ hp s g (aj tm u) with
  | none=>simp[h1] at h
  | some x=>
   cases h2:gJ an s g (aj tm u) with
   | none=>simp[h1,h2] at h
   | some y=>
    simp only[h1,h2,yf] at h;rcases xu.1 hm with e | hm
    .simp only [yo] at e;obtain⟨rfl,rfl,rfl⟩:=e;rw[h1] at hv;rw[h2,<-amd h.1,hv]
    .exact Sg h.2 hm hv
structure PO(P:aF)(L:Lib)(run:cl)(rs:List aR)(bR:Nat->Env)(bI:Nat->Hp)(bC:Nat->Nat)(vF:Nat->AV):Prop where
 step:∀i r,rs[i]? =FL r->fe P L run (bR i) (bI i) (bC i) r=FL (vF i,bI (i+1),bC (i+1))
 tm:∀i r,rs[i]? =FL r->bR (i+1)=put r.dst (vF i) (bR i)
def ac8{P:aF}{L:Lib}{self:cl}:∀{rs:List aR} {s s':St},de P L self rs s=FL s'->
  ∃bR bI bC vF,PO P L self rs bR bI bC vF/\bR 0=s.tm/\bI 0=s.hp/\bC 0=s.ct/\bR rs.length=s'.tm/\bI rs.length=s'.hp/\bC rs.length=s'.ct/\s'.base=s.base
 | [],s,s',h=>by
  simp only[de,yc] at h;subst h;exact⟨fun _=>s.tm,fun _=>s.hp,fun _=>s.ct,fun _=>.undef,⟨fun i r h=>by simp at h,fun i r h=>by simp at h⟩,rfl,rfl,rfl,rfl,rfl,rfl,rfl⟩
 | r::rs,s,s',h=>by
  rw[aac] at h
  cases h1:fe P L self s.tm s.hp s.ct r with
  | none=>simp[h1] at h
  | some q=>
   have⟨v,aZ,pT⟩:=q;simp only[h1] at h;have⟨bR,bI,bC,vF,g1,g2,g3,g4,g5,g6,g7,g8⟩:=ac8 h;refine⟨fun i=>match i with | 0=>s.tm | i+1=>bR i,fun i=>match i with | 0=>s.hp | i+1=>bI i,fun i=>match i with | 0=>s.ct | i+1=>bC i,fun i=>match i with | 0=>v | i+1=>vF i,⟨?_,?_⟩,rfl,rfl,rfl,by simpa using g5,by simpa using g6,by simpa using g7,g8⟩
   .intro i r' hi
    cases i with
    | zero=>
     grind
    | succ i=>exact g1.step i r' (by simpa using hi)
   .intro i r' hi
    cases i with
    | zero=>
     grind
    | succ i=>exact g1.tm i r' (by simpa using hi)
section
variable {P:aF}{L:Lib}{self:cl}{rs:List aR}{bR:Nat->Env}{bI:Nat->Hp}{bC:Nat->Nat}{vF:Nat->AV}
def Ji(hR:PO P L self rs bR bI bC vF){t i:Nat}:∀(k:Nat),i+k<=rs.length->(∀j r,i<=j->j<i+k->rs[j]? =FL r->r.dst≠FL t)->aj (bR (i+k)) t=aj (bR i) t
 | 0,_,_=>rfl
 | k+1,hk,h=>by
  have hr:rs[i+k]? =FL rs[i+k]:=by simp_all
  rw[show i+(k+1)=i+k+1 by lia,hR.tm _ _ hr,Tv,yt (h (i+k) _ (by lia) (by lia) hr)];exact Ji hR k (by lia) (fun j r h1 h2=>h j r h1 (by lia))
def aa1{r:aR}{tm:Env}{hp an:Hp}{ct aU:Nat}{v:AV}(hk:bj r.op<=1)(hv:fe P L self tm hp ct r=FL (v,an,aU))(aH:∀id o,ak hp id=FL o->id<ct):jn hp ct an aU:=by
 unfold fe at hv
 cases hw:qU tm r.guard with
 | none=>simp[hw] at hv
 | some b=>
  cases b with
  | true=>simp only[hw] at hv;exact ZJ hk hv aH
  | false=>
   simp only[hw,yc,yo] at hv;obtain⟨rfl,rfl,rfl⟩:=hv;exact jn.refl aH
def NL(hR:PO P L self rs bR bI bC vF){i:Nat}(aH:∀id o,ak (bI i) id=FL o->id<bC i):∀(k:Nat),i+k<=rs.length->(∀j r,i<=j->j<i+k->rs[j]? =FL r->bj r.op<=1)->jn (bI i) (bC i) (bI (i+k)) (bC (i+k))
 | 0,_,_=>jn.refl aH
 | k+1,hk,h=>by
  have ih:=NL hR aH k (by lia) (fun j r h1 h2=>h j r h1 (by lia));have hr:rs[i+k]? =FL rs[i+k]:=by simp_all
  exact ih.trans (aa1 (h (i+k) _ (by lia) (by lia) hr) (hR.step _ _ hr) ih.lt)
end
end
section
open Go
section
variable {tm:Env}{hp:Hp}{ct i:Nat}{r:aR}
def N3{tm:Env}{t:Nat}:∀{l:List Nat},t∈l->aj (bm tm l) t=aj tm t
 | [],h=>by cases h
 | i::r,h=>by
  simp only[bm,aj]
  cases hb:yq i t with
  | true=>rw[yg hb];rfl
  | false=>
   rcases xu.1 h with e | h
   .simp_all
   .exact N3 h
def ame{P:aF}{L:Lib}{self:cl}{tm':Env}{o:Op}{r:AV×Hp×Nat}(h:∀t,t∈kS o->aj tm' t=aj tm t)(hv:aY P L self tm hp ct o=FL r):aY P L self tm' hp ct (jK o)=FL r:=by
 cases o with
 | jH rs f xs=>
  simp only[kS,xJ] at h;simp only[jK,aY] at hv ⊢
  rw[dF (x:=f) fun t ht=>h t (.inl ht),DM (xs:=xs) fun t ht=>h t (.inr ht)]
  cases hc:eQ P L self hp ct .dyn (ay tm f) (dG tm xs) with
  | none=>simp[hc] at hv
  | some q=>
   obtain⟨v1,aZ,pT⟩:=q;simp only[hc] at hv
   cases hs:oT tm hp aZ rs with
   | false=>rw[hs] at hv;cases hv
   | true=>
    rw[hs] at hv;simpa only[oT,yx] using hv
 | lI rs sz x v=>
  simp only[jK,aY] at hv ⊢
  rw[DL (o:=.st sz x v) (tm:=tm) h]
  split at hv
  .rename_i id off hx
   cases hf:jG tm id rs with
   | false=>rw[hf] at hv;cases hv
   | true=>rw[hf] at hv;exact hv
  .cases hv
 | lJ rs sz b x v=>
  simp only[jK,aY] at hv ⊢
  rw[DL (o:=.db sz b x v) (tm:=tm) h]
  cases hc:cp tm hp ct (.db sz b x v) with
  | none=>simp[hc] at hv
  | some q=>
   obtain⟨v1,aZ,pT⟩:=q;simp only[hc] at hv
   cases hs:(zN tm (ay tm x) rs||oT tm hp aZ rs) with
   | false=>rw[hs] at hv;cases hv
   | true=>rw[hs] at hv;exact hv
 | rG sz b x v=>
  rw[<-hv];simp only[kS,xJ] at h;simp only[jK,aY]
  rw[dF (x:=x) fun t ht=>h t (.inl ht),dF (x:=v) fun t ht=>h t (.inr ht)]
 | call md f xs=>
  rw[<-hv];simp only[kS,xJ] at h;simp only[jK,aY]
  rw[dF (x:=f) fun t ht=>h t (.inl ht),DM (xs:=xs) fun t ht=>h t (.inr ht)]
 | st s x y=>rw[<-hv];simp only[jK,aY];exact DL h
 | rD kk x y z=>rw[<-hv];simp only[jK,aY];exact DL h
 | rF x=>rw[<-hv];simp only[jK,aY];exact DL h
 | db s b x y=>rw[<-hv];simp only[jK,aY];exact DL h
 | rH s x y=>rw[<-hv];simp only[jK,aY];exact DL h
 | box s x=>rw[<-hv];simp only[jK,aY];rw[I6 (hp:=hp) h]
 | jo n s z ps=>rw[<-hv];simp only[jK,aY];rw[I6 (hp:=hp) h]
 | pK s b z x y=>rw[<-hv];simp only[jK,aY];rw[I6 (hp:=hp) h]
 | Bz=>exact hv
 | rE x=>rw[<-hv];simp only[jK,aY];rw[I6 (hp:=hp) h]
 | _=>rw[<-hv];simp only[jK,aY];rw[akx h]
def abQ{P:aF}{L:Lib}{self:cl}{an:Hp}{aU:Nat}{q:Op}{v:AV}(hk:bj q=0\/∃sz ag x,q=.ld sz ag x)(hv:aY P L self tm hp ct q=FL (v,an,aU)):bg tm hp q=FL v/\an=hp/\aU=ct:=by
 have fE:∀{q:Op},(match bg tm hp q with | some v=>FL (v,hp,ct) | none=>(FM:gB))=FL (v,an,aU)->bg tm hp q=FL v/\an=hp/\aU=ct:=by
  intro q h
  cases hm:bg tm hp q with
  | none=>simp[hm] at h
  | some r=>
   simp only[hm,yc,yo] at h;obtain⟨rfl,rfl,rfl⟩:=h;exact⟨rfl,rfl,rfl⟩
 rcases hk with hk | ⟨sz,ag,x,rfl⟩
 .cases bO:q with
  | call md f xs=>subst bO;cases md<;>simp[bj] at hk
  | jH rs f xs=>subst bO;simp[bj] at hk
  | lI rs s x y=>subst bO;simp[bj] at hk
  | lJ rs s b x y=>subst bO;simp[bj] at hk
  | rG s b x y=>subst bO;simp[bj] at hk
  | st s x y=>subst bO;simp[bj] at hk
  | rD kk x y z=>subst bO;simp[bj] at hk
  | rF x=>subst bO;simp[bj] at hk
  | db s b x y=>subst bO;simp[bj] at hk
  | rH s x y=>subst bO;simp[bj] at hk
  | box s x=>subst bO;simp[bj] at hk
  | jo n s z ps=>subst bO;simp[bj] at hk
  | pK s b z x y=>subst bO;simp[bj] at hk
  | Bz=>subst bO;simp[bj] at hk
  | rE x=>subst bO;simp[bj] at hk
  | _=>exact bO▸fE (q:=q) (by rw[bO] at hv ⊢;simp only[aY] at hv;exact hv)
 .exact fE (q:=.ld sz ag x) (by simp only[aY] at hv;exact hv)
section
variable {O:bA}{H:Hint}{ops:Array yV}{π:Nat->Nat}{rs:List aR}{bR:Nat->Env}{bI:Nat->Hp}{bC:Nat->Nat}{vF:Nat->AV}{self:cl}{ro:Option Nat}{Q:uD->Act->yj->Prop}
structure zK(O:bA)(H:Hint)(Fc:cl)(ops:Array yV)(π:Nat->Nat)(rs:List aR)(bR:Nat->Env)(bI:Nat->Hp)(bC:Nat->Nat)(vF:Nat->AV):Prop where
 run:PO O.prog O.aI Fc rs bR bI bC vF
 len:rs.length=ops.size
 of:∀(i:Nat) (r:aR) (o:yV),rs[i]? =FL r->ops[π i]? =FL o->Eu O.P H ops r o
 pair:∀(i j:Nat) (a b:aR),i<j->rs[i]? =FL a->rs[j]? =FL b->Ord ops (π i) (π j)\/EG a b ((rs.take j).drop (i+1))
 back:∀(i:Nat) (o:yV),ops[i]? =FL o->∀e,e∈o.after->Region.binds .any e=ycZ->e.on<i
def lh(rs:List aR)(i:Nat):Prop:=∃r,rs[i]? =FL r/\bj r.op=2
def UG(rs:List aR):∀(k i:Nat),i+k=rs.length->∃c,i<=c/\c<=rs.length/\(∀j,i<=j->j<c->¬lh rs j)/\(c=rs.length\/lh rs c)
 | 0,i,h=>⟨i,yu _,by lia,fun j h1 h2=>by lia,.inl (by lia)⟩
 | k+1,i,h=>by
  rcases td (lh rs i) with hw | hw
  .grind
  .have ⟨c,h1,h2,h3,h4⟩:=UG rs k (i+1) (by lia)
   grind
def JD{rs:List aR}(hr:rs[i]? =FL r)(hw:¬lh rs i):bj r.op<=1:=by
 have h:bj r.op≠2:=fun e=>hw ⟨r,hr,e⟩
 have:bj r.op<=2:=by
  cases r.op with
  | rC k x lo hi=>cases k<;>simp[bj]
  | len k x=>rcases k with _ | _ | k<;>simp[bj]
  | call md f xs=>cases md<;>simp[bj]
  | _=>simp[bj]
 lia
def Rg(O:bA)(rs:List aR)(bR:Nat->Env)(D:Nat->Prop)(m:Mp)(S:Nat->Prop)(w:yj)(a:Act):Prop:=
 ∀t,∃j,j<=rs.length/\(∀(i:Nat) (r:aR),rs[i]? =FL r->r.dst=FL t->(D i↔i<j))/\af O.ae m S w (aj (bR j) t) (a.tmps.getD t undef)
def aqf{D:Nat->Prop}{m:Mp}{S:Nat->Prop}{w:yj}{a:Act}(hG:zK O H self ops π rs bR bI bC vF)(hT:Rg O rs bR D m S w a)(hr:rs[i]? =FL r)(hi:¬D i)(eM:∀j,Ord ops (π j) (π i)->D j)(fR:∀j,Ord ops (π i) (π j)->¬D j):∀t,t∈D1 r->af O.ae m S w (aj (bR i) t) (a.tmps.getD t undef):=by
 intro t ht;obtain⟨j,h1,h2,h3⟩:=hT t;have sW:i<rs.length:=(xI.1 hr).1;have e:aj (bR j) t=aj (bR i) t:=by
  rcases Nat.le_total j i with Mr | pU
  .obtain ⟨k,rfl⟩:∃k,i=j+k:=⟨i-j,by omega⟩;refine (Ji hG.run k (by omega) (fun l rl g1 g2 hl hd=>?_)).symm;have hnD:¬D l:=fun hD=>by have:=(h2 l rl hl hd).1 hD;omega
   rcases hG.pair l (j+k) rl r (by omega) hl hr with ho | hf
   .exact hnD (eM l ho)
   .exact ((Nf hf.1).1 t hd).1 ht
  .obtain ⟨k,rfl⟩:∃k,j=i+k:=⟨j-i,by omega⟩;refine Ji hG.run k h1 (fun l rl g1 g2 hl hd=>?_);have hD:D l:=(h2 l rl hl hd).2 (by omega);rcases vM g1 with rfl | g1
   .exact hi hD
   .rcases hG.pair i l r rl g1 hr hl with ho | hf
    .exact fR l ho hD
    .exact (Nf hf.1).2 t hd ht
 rw[<-e];exact h3
def ac9{D D':Nat->Prop}{m m':Mp}{S S':Nat->Prop}{w w':yj}{a:Act}{u:yh}(hG:zK O H self ops π rs bR bI bC vF)(hT:Rg O rs bR D m S w a)(hr:rs[i]? =FL r)(hi:¬D i)(eM:∀j,Ord ops (π j) (π i)->D j)(fR:∀j,Ord ops (π i) (π j)->¬D j)(hD:∀j,D' j↔D j\/j=i)(hm:dh m m')(hS:∀b,S b->S' b)(hw:fY S w w')(hd:∀d,r.dst=FL d->d<a.tmps.size)(hv:af O.ae m' S' w' (vF i) u):Rg O rs bR D' m' S' w' (a.put r.dst u):=by
 intro t;have sW:i<rs.length:=(xI.1 hr).1;by_cases HH:r.dst=FL t
 .refine ⟨i+1,sW,fun l rl hl Ms=>?_,?_⟩
  .rw [hD];constructor
   .rintro (h | h)
    .rcases vn l (i+1) with g | g
     .exact g
     .rcases hG.pair i l r rl (by omega) hr hl with ho | hf
      .exact (fR l ho h).elim
      .exact (((Nf hf.1).1 t HH).2 Ms).elim
    .omega
   .intro h;rcases vM (vV h) with h | h
    .exact .inr h
    .rcases hG.pair l i rl r h hl hr with ho | hf
     .exact .inl (eM l ho)
     .exact (((Nf hf.1).1 t Ms).2 HH).elim
  .rw [hG.run.tm i r hr,Tv,Tw hd,yD HH,yD HH];exact hv
 .obtain ⟨j,h1,h2,h3⟩:=hT t;refine⟨j,h1,fun l rl hl Ms=>?_,?_⟩
  .rw [hD,<-h2 l rl hl Ms];constructor
   .rintro (h | h)
    .exact h
    .subst h;rw[hr] at hl;injection hl with hl
     subst hl;exact (HH Ms).elim
   .exact .inl
  .rw [Tw hd,yt HH];exact mB hm hS hw _ _ h3
def ZL{tm:Env}{hp an:Hp}{ct aU id off sz nN t:Nat}{ag:Bool}{x y:X}{v v':AV}:∀{l:List (Nat×Bool×Nat)},jG tm id l=ycZ->(sz,ag,t)∈l->ay tm x=.ptr id off->
  cp tm hp ct (.st nN x y)=FL (v',an,aU)->gJ hp sz ag (aj tm t)=FL v->gJ an sz ag (aj tm t)=FL v
 | [],_,h,_,_,_=>by cases h
 | (s,g,u)::r,h,hm,hx,hw,hv=>by
  simp only[jG,yf] at h;rcases xu.1 hm with e | hm
  .simp only [yo] at e;obtain⟨rfl,rfl,rfl⟩:=e;have h1:=h.1
   split at h1
   .rename_i j o hj;have eh:j≠id:=by
     intro e
     simp_all
    rw[hj] at hv ⊢;simp only[cp,hx] at hw;have key:∀ob,ak (aW hp id ob) j=ak hp j:=fun ob=>by rw[zo,yt (ycG eh)]
    split at hw
    .rename_i pu ex z cs Di;generalize (yq _ _&&yE _ _&&cd _)=bb at hw
     cases bb with
     | false=>cases hw
     | true=>
      obtain⟨_,rfl,_⟩:=hw;simp only[gJ,key] at hv ⊢;exact hv
    .cases hw
   .rename_i cs hj;rw[hj] at hv ⊢;simpa only[gJ] using hv
   .cases h1
  .exact ZL h.2 hm hx hw hv
def Sh{id j:Nat}(h:j≠id):∀(hp:Hp),ak (cT hp id) j=ak hp j
 | []=>rfl
 | (k,o)::r=>by
  simp only[cT,ak]
  cases h1:yq k id with
  | true=>
   have e:=yg h1;simp only[yx];rw[Sh h r]
   cases h2:yq k j with
   | true=>exact absurd (yg h2▸e) h
   | false=>rfl
  | false=>
   simp only[yR,ak];rw[Sh h r]
def amf{an:Hp}{aU sz nN bb t:Nat}{ag:Bool}{x y:X}{v v':AV}{l:List (Nat×Bool×Nat)}(h:zN tm (ay tm x) l=ycZ)(hm:(sz,ag,t)∈l)(hw:cp tm hp ct (.db nN bb x y)=FL (v',an,aU))(aH:∀id o,ak hp id=FL o->id<ct)(hv:gJ hp sz ag (aj tm t)=FL v):gJ an sz ag (aj tm t)=FL v:=by
 have grow:∀{o:Obj},an=(ct,o)::hp->gJ an sz ag (aj tm t)=FL v:=fun {o} e=>by
  subst e;refine Ub (fun id o' jz=>⟨o',?_,jA.refl o'⟩) hv
  rw[fH,yt (by have:=aH id o' jz;omega)];exact jz
 simp only[cp] at hw
 cases hs:jk hp nN (ay tm y) with
 | none=>simp[hs] at hw
 | some q=>
  obtain⟨mm,new⟩:=q;simp only[hs] at hw;cases hx:ay tm x<;>rw[hx] at hw h<;>simp only[zN,yC] at h<;>(try simp only at hw)
  case ah=>
   cases hb:yq mm 0 with
   | true=>simp only[hb,yx,yc,yo] at hw;rw[<-hw.2.1];exact hv
   | false=>
    rw[hb] at hw;simp only[yR] at hw;generalize (yE mm room&&(yE (mm*bb) room&&yO 0 nN))=b2 at hw
    cases b2 with
    | false=>cases hw
    | true=>simp only[yx,yc,yo] at hw;exact grow hw.2.1.symm
  case au ex n cs=>
   cases ex with
   | false=>simp at hw
   | true=>
    simp only at hw
    cases hb:yq mm 0 with
    | true=>simp only[hb,yx,yc,yo] at hw;rw[<-hw.2.1];exact hv
    | false=>
     rw[hb] at hw;simp only[yR] at hw;generalize (yE (n+mm) room&&(yE ((n+mm)*bb) room&&(yq cs.length (n*nN)&&yO 0 nN)))=b2 at hw
     cases b2 with
     | false=>cases hw
     | true=>simp only[yx,yc,yo] at hw;exact grow hw.2.1.symm
  case ax id o n=>
   split at hw
   .rename_i pu ex z cs Di;generalize (yq z nN&&_)=b2 at hw
    cases b2 with
    | false=>cases hw
    | true=>
     simp only[yx,yc,yo] at hw;obtain⟨_,rfl,_⟩:=hw;clear Di;have key:∀l,jG tm id l=ycZ->(sz,ag,t)∈l->(∃j off,aj tm t=.ptr j off/\j≠id)\/∃cs,aj tm t=.bN cs:=by
      intro l
      induction l with
      | nil=>intro _ hm;cases hm
      | cons e l ih=>
       obtain⟨s,g,u⟩:=e;intro h hm;simp only[jG,yf] at h;rcases xu.1 hm with e | hm
       .simp only [yo] at e;obtain⟨rfl,rfl,rfl⟩:=e;have h1:=h.1
        split at h1
        .rename_i j off hj;refine .inl ⟨j,off,hj,fun e=>?_⟩;subst e;simp at h1
        .rename_i cs hj;exact .inr ⟨cs,hj⟩
        .cases h1
       .exact ih h.2 hm
     rcases key l h hm with ⟨j,off,e,eh⟩ | ⟨dB,e⟩
     .rw [e] at hv ⊢;simp only[gJ] at hv ⊢;have ayE:ak hp j≠FM:=by
       intro e0;rw[e0] at hv;cases hv
      cases hj:ak hp j with
      | none=>exact absurd hj ayE
      | some ob=>
       have:=aH j ob hj
       rw[fH,yt (by omega),Sh eh,hj];rw[hj] at hv;exact hv
     .rw [e] at hv ⊢;simpa only[gJ] using hv
   .cases hw
def Zz{D:Nat->Prop}{i c:Nat}{r:aR}{sz t:Nat}{ag:Bool}(hG:zK O H self ops π rs bR bI bC vF)(hr:rs[i]? =FL r)(hi:¬D i)(HI:r.guard=FM/\r.op=.ld sz ag (.t t))(hc:c<=rs.length)(hW:∀j,j<c->lh rs j->D j)(fR:∀j,Ord ops (π i) (π j)->¬D j)(aH:∀j,j<=c->∀id o,ak (bI j) id=FL o->id<bC j):∀k,i+1+k<=c->gJ (bI (i+1+k)) sz ag (aj (bR i) t)=FL (vF i)
 | 0,hk=>by
  have h1:=hG.run.step i r hr;simp only[fe,HI.1,qU,HI.2] at h1;obtain⟨h2,h3,h4⟩:=abQ (.inr ⟨_,_,_,rfl⟩) h1;simp only[bg,ay] at h2;rw[y5,h3];exact h2
 | k+1,hk=>by
  have ih:=Zz hG hr hi HI hc hW fR aH k (by omega);have hl:i+1+k<rs.length:=by omega
  have hj:rs[i+1+k]? =FL rs[i+1+k]:=by simp[hl]
  have aM:=hG.run.step _ _ hj;rw[show i+1+(k+1)=i+1+k+1 by omega];rcases td (lh rs (i+1+k)) with hw | hw
  .have hD:=hW _ (by omega) hw;rcases hG.pair i (i+1+k) r _ (by omega) hr hj with ho | hf
   .exact (fR _ ho hD).elim
   .obtain ⟨rJ,iO⟩:=hf;obtain⟨da,h5,h6⟩:=hw;rw[hj] at h5;injection h5 with h5
    subst h5;rcases iO with iO | iO
    .have h1k:bj r.op=1:=by rw[HI.2];rfl
     simp only[Jf,h1k,h6] at iO;cases iO
    .unfold JA at iO;simp only[HI.1,HI.2] at iO;generalize ie:(rs[i+1+k]).op=q at iO;have Vb:El t (r::(rs.take (i+1+k)).drop (i+1))=ycZ->aj (bR (i+1+k)) t=aj (bR i) t:=by
      intro ayF;have mo:=aae ayF;rw[show i+1+k=i+(1+k) by omega];refine Ji hG.run (1+k) (by omega) (fun l rl g1 g2 BH=>mo rl ?_);rcases vM g1 with rfl | g1
      .rw [hr] at BH;injection BH with BH;subst BH;exact wA
      .refine xR _ ?_
       have:((rs.take (i+1+k)).drop (i+1))[l-(i+1)]? =FL rl:=by
        rw[List.getElem?_drop,List.getElem?_take_of_lt (by omega),show i+1+(l-(i+1))=l by omega];exact BH
       exact List.mem_of_getElem? this
     unfold fe at aM
     cases hg:qU (bR (i+1+k)) (rs[i+1+k]).guard with
     | none=>simp[hg] at aM
     | some b=>
      cases b with
      | false=>
       simp only[hg,yc,yo] at aM;rw[<-aM.2.1];exact ih
      | true=>
       simp only[hg,ie] at aM;cases q<;>simp only[yC] at iO
       case jH Dj fx xs=>
        simp only[yf] at iO;have ju:=NK iO.1;have BI:=Vb iO.2;simp only[aY] at aM
        cases gM:eQ O.prog O.aI self (bI (i+1+k)) (bC (i+1+k)) .dyn (ay (bR (i+1+k)) fx) (dG (bR (i+1+k)) xs) with
        | none=>simp[gM] at aM
        | some z=>
         obtain⟨v1,aZ,pT⟩:=z;simp only[gM] at aM
         cases hs:oT (bR (i+1+k)) (bI (i+1+k)) aZ Dj with
         | false=>rw[hs] at aM;cases aM
         | true=>
          rw[hs] at aM;simp only[yx,yc,yo] at aM;obtain⟨_,h8,_⟩:=aM;rw[<-h8,<-BI];exact Sg hs ju (by rw[BI];exact ih)
       case lI Dj nN x v=>
        simp only[yf] at iO;have ju:=NK iO.1;have BI:=Vb iO.2;simp only[aY] at aM
        split at aM
        .rename_i id off hx
         cases hs:jG (bR (i+1+k)) id Dj with
         | false=>rw[hs] at aM;cases aM
         | true=>
          rw[hs] at aM;simp only[yx] at aM;rw[<-BI];exact ZL hs ju hx aM (by rw[BI];exact ih)
        .cases aM
       case lJ Dj nN b x v=>
        simp only[yf] at iO;have ju:=NK iO.1;have BI:=Vb iO.2;simp only[aY] at aM
        cases gM:cp (bR (i+1+k)) (bI (i+1+k)) (bC (i+1+k)) (.db nN b x v) with
        | none=>simp[gM] at aM
        | some z=>
         obtain⟨v1,aZ,pT⟩:=z;simp only[gM] at aM
         cases hs:(zN (bR (i+1+k)) (ay (bR (i+1+k)) x) Dj||oT (bR (i+1+k)) (bI (i+1+k)) aZ Dj) with
         | false=>rw[hs] at aM;cases aM
         | true=>
          rw[hs] at aM;simp only[yx,yc,yo] at aM;obtain⟨_,h8,_⟩:=aM;rw[<-h8,<-BI];rcases (uH _ _).mp hs with hs | hs
          .exact amf hs ju gM (aH _ (by omega)) (by rw[BI];exact ih)
          .exact Sg hs ju (by rw[BI];exact ih)
  .exact Ub (aa1 (JD hj hw) aM (aH _ (by omega))).le ih
structure Inv(O:bA)(ops:Array yV)(rs:List aR)(bR:Nat->Env)(bI:Nat->Hp)(bC:Nat->Nat)(D:Nat->Prop)(m0:Mp)(S0:Nat->Prop)(w0:yj)(n0:Nat)(d0:List yam)(st c:Nat)(m:Mp)(S:Nat->Prop)(w:yj)(a:Act):Prop where
 XS:st<=c
 cn:c<=rs.length
 before:∀i,i<st->lh rs i->D i
 HJ:∀i,st<=i->i<c->¬lh rs i
 cut:c=rs.length\/(lh rs c/\¬D c)
 behind:∀(i:Nat) (r:aR),c<=i->rs[i]? =FL r->1<=bj r.op->¬D i
 hp:aS O m S w (bI c) (bC c)
 XT:∀id p,m id=FL p->id<bC st\/∃i,st<=i/\i<c/\D i/\bC i<=id/\id<bC (i+1)
 tm:Rg O rs bR D m S w a
 Rh:cf m0 S0 w0 (bI 0) m S w (bI c) (bC 0)
 ge:bC 0<=bC c
 size:a.tmps.size=n0
 defers:a.defers=d0
 sX:st=0\/lh rs (st-1)
 HK:∀j,j<=c->∀id o,ak (bI j) id=FL o->id<bC j
end
end
end
section
open Go
section
variable {O:bA}{H:Hint}{ops:Array yV}{π:Nat->Nat}{rs:List aR}{bR:Nat->Env}{bI:Nat->Hp}{bC:Nat->Nat}{vF:Nat->AV}{self:cl}{ro:Option Nat}{Q:uD->Act->yj->Prop}
variable {D D':Nat->Prop}{m0:Mp}{S0:Nat->Prop}{w0:yj}{n0:Nat}{d0:List yam}{st c i:Nat}{m:Mp}{S:Nat->Prop}{w:yj}{a:Act}{r:aR}{o:yV}
def NM(hG:zK O H self ops π rs bR bI bC vF)(hI:Inv O ops rs bR bI bC D m0 S0 w0 n0 d0 st c m S w a){x y:Nat}(hx:st<=x)(hxy:x<=y)(hy:y<=c):jn (bI x) (bC x) (bI y) (bC y):=by
 obtain⟨k,rfl⟩:∃k,y=x+k:=⟨y-x,by omega⟩
 have:=hI.cn
 exact NL hG.run (hI.HK x (by omega)) k (by omega) (fun j r h1 h2 hr=>JD hr (hI.HJ j (by omega) (by omega)))
def N4(hG:zK O H self ops π rs bR bI bC vF)(hI:Inv O ops rs bR bI bC D m0 S0 w0 n0 d0 st c m S w a)(hr:rs[i]? =FL r)(hi:¬D i)(eM:∀j,Ord ops (π j) (π i)->D j)(fR:∀j,Ord ops (π i) (π j)->¬D j)(hD:∀j,D' j↔D j\/j=i)(hd:∀d,r.dst=FL d->d<a.tmps.size)(hw:¬lh rs i)(BF:bj r.op=0\/i<c){m':Mp}{S':Nat->Prop}{w':yj}{u:yh}(k1:aS O m' S' w' (bI c) (bC c))(k2:dh m m')(k3:∀id p,m' id=FL p->m id=FL p\/(st<=i/\i<c/\bC i<=id/\id<bC (i+1)))(k4:af O.ae m' S' w' (vF i) u)(k5:cf m S w (bI c) m' S' w' (bI c) (bC c)):
  Inv O ops rs bR bI bC D' m0 S0 w0 n0 d0 st c m' S' w' (a.put r.dst u) where
 XS:=hI.XS
 cn:=hI.cn
 before j hj Fe:=(hD j).2 (.inl (hI.before j hj Fe))
 HJ:=hI.HJ
 cut:=hI.cut.imp (fun h=>h) (fun h=>⟨h.1,fun hc=>((hD c).1 hc).elim h.2 (fun e=>hw (e▸h.1))⟩)
 behind j rj hj Ff hk Fg:=((hD j).1 Fg).elim (hI.behind j rj hj Ff hk) (fun e=>by
  subst e;rw[hr] at Ff;injection Ff with Ff
  subst Ff
  rcases BF with h | h<;>omega)
 hp:=k1
 XT id p hp:=by
  rcases k3 id p hp with h | ⟨h1,h2,h3,h4⟩
  .rcases hI.XT id p h with h | ⟨j,g1,g2,g3,g4,g5⟩
   .exact .inl h
   .exact .inr ⟨j,g1,g2,(hD j).2 (.inl g3),g4,g5⟩
  .exact .inr ⟨i,h1,h2,(hD i).2 (.inr rfl),h3,h4⟩
 tm:=ac9 hG hI.tm hr hi eM fR hD k2 k5.sub (fun b hb=>k5.still b hb) hd k4
 Rh:=hI.Rh.trans (k5.zO hI.ge)
 ge:=hI.ge
 size:=by rw[N1];exact hI.size
 defers:=by rw[SB];exact hI.defers
 sX:=hI.sX
 HK:=hI.HK
def ada(hG:zK O H self ops π rs bR bI bC vF)(hI:Inv O ops rs bR bI bC D m0 S0 w0 n0 d0 st c m S w a)(hr:rs[c]? =FL r)(hi:¬D c)(eM:∀j,Ord ops (π j) (π c)->D j)(fR:∀j,Ord ops (π c) (π j)->¬D j)(hD:∀j,D' j↔D j\/j=c)(hd:∀d,r.dst=FL d->d<a.tmps.size)(hw:lh rs c){m':Mp}{S':Nat->Prop}{w':yj}{u:yh}(k1:aS O m' S' w' (bI (c+1)) (bC (c+1)))(k2:bC c<=bC (c+1))(k4:af O.ae m' S' w' (vF c) u)(k5:cf m S w (bI c) m' S' w' (bI (c+1)) (bC c)):
  ∃c' Dc,Inv O ops rs bR bI bC D' m0 S0 w0 n0 d0 (c+1) c' m' Dc w' (a.put r.dst u):=by
 have gM:c<rs.length:=(xI.1 hr).1;obtain⟨c',h1,h2,h3,h4⟩:=UG rs (rs.length-(c+1)) (c+1) (by omega);obtain⟨k,rfl⟩:∃k,c'=c+1+k:=⟨c'-(c+1),by omega⟩;have hg:∀k',k'<=k->jn (bI (c+1)) (bC (c+1)) (bI (c+1+k')) (bC (c+1+k')):=fun k' Ag=>
  NL hG.run k1.aH k' (by omega) (fun j r g1 g2 hr=>JD hr (h3 j g1 (by omega)))
 obtain⟨Dc,g1,g2,g3,g4⟩:=NZ k1 (hg k (yu _));have hml:dh m m':=fun id p h=>k5.old id p (hI.hp.lt id p h) h
 refine⟨c+1+k,Dc,⟨by omega,h2,?_,h3,?_,?_,g1,fun id p h=>.inl (k1.lt id p h),?_,?_,?_,by rw[N1];exact hI.size,by rw[SB];exact hI.defers,.inr (by simpa using hw),?_⟩⟩
 .intro j hj Fe;rcases vM (vV hj) with e | hj
  .exact (hD j).2 (.inr e)
  .rcases vn j st with g | g
   .exact (hD j).2 (.inl (hI.before j g Fe))
   .exact (hI.HJ j g hj Fe).elim
 .refine h4.imp (fun h=>h) (fun h=>⟨h,fun hc=>?_⟩);obtain⟨rc,XU,BF⟩:=h;rcases (hD _).1 hc with g | g
  .exact hI.behind _ rc (by omega) XU (by omega) g
  .omega
 .intro j rj hj Ff hk Fg;rcases (hD j).1 Fg with g | g
  .exact hI.behind j rj (by omega) Ff hk g
  .omega
 .exact ac9 hG hI.tm hr hi eM fR hD hml (fun b hb=>g2 b (k5.sub b hb)) (fun b hb=>k5.still b hb) hd (mB (fun _ _ h=>h) g2 (fun _ _=>rfl) _ _ k4)
 .exact (hI.Rh.trans (k5.zO hI.ge)).trans (g4 (bC 0))
 .have:=(hg k (yu _)).rK
  have:=hI.ge
  omega
 .intro j hj;rcases vn c j with g | g
  .obtain ⟨k',rfl⟩:∃k',j=c+1+k':=⟨j-(c+1),by omega⟩;exact (hg k' (by omega)).lt
  .exact hI.HK j g
def aob{q:Op}(h:bj q≠2):jK q=q:=by
 cases q<;>first
  | rfl
  | exact absurd rfl h
def aaf{x y:aR}{l:List aR}(h:EG x y l):¬(bj x.op=2/\1<=bj y.op)/\(1<=bj x.op->bj y.op=2->x.guard=FM/\∃sz ag t,x.op=.ld sz ag (.t t)):=by
 have⟨_,h⟩:=h;have ex:JA x y l=ycZ->x.guard=FM/\∃sz ag t,x.op=.ld sz ag (.t t):=by
  intro he;unfold JA at he
  split at he
  .rename_i sz ag t Dj fx xs h1 h2 h3;exact⟨h1,sz,ag,t,h2⟩
  .rename_i h1 h2 h3;exact⟨h1,_,_,_,h2⟩
  .rename_i h1 h2 h3;exact⟨h1,_,_,_,h2⟩
  .cases he
 have k2:∀q:Op,bj q<=2:=fun q=>by
  cases q with
  | rC k x lo hi=>cases k<;>simp[bj]
  | len k x=>rcases k with _ | _ | k<;>simp[bj]
  | call md f xs=>cases md<;>simp[bj]
  | _=>simp[bj]
 constructor
 .rintro ⟨h1,h2⟩;rcases h with h | h
  .have:bj y.op=1\/bj y.op=2:=by have:=k2 y.op;lia
   rcases this with e | e<;>(simp only[Jf,h1,e] at h;cases h)
  .have ⟨_,sz,ag,t,e⟩:=ex h;rw[e] at h1;cases h1
 .intro h1 h2;rcases h with h | h
  .have:bj x.op=1\/bj x.op=2:=by have:=k2 x.op;lia
   rcases this with e | e<;>(simp only[Jf,h2,e] at h;cases h)
  .exact ex h
def aoc(hC:oV O self)(hH:fh O H)(hG:zK O H self ops π rs bR bI bC vF)(hn:H.n<=n0)(hI:Inv O ops rs bR bI bC D m0 S0 w0 n0 d0 st c m S w a)(hr:rs[i]? =FL r)(ho:ops[π i]? =FL o)(hi:¬D i)(eM:∀j,Ord ops (π j) (π i)->D j)(fR:∀j,Ord ops (π i) (π j)->¬D j)(hD:∀j,D' j↔D j\/j=i){K:Act->yj->Prop}(hK:∀st' c' m' S' w' a',Inv O ops rs bR bI bC D' m0 S0 w0 n0 d0 st' c' m' S' w' a'->K a' w'):wpOpIn (WF ro) 0 O.P ops Q (π i) K a w:=by
 have cU:=hG.of i r o hr ho;have VY:=aqf hG hI.tm hr hi eM fR;have aM:=hG.run.step i r hr;have hd:∀d,r.dst=FL d->d<a.tmps.size:=by
  rw[cU.dst];exact abP cU.ok (by rw[hI.size];exact hn)
 have mq:=hI.XS;have je:1<=bj r.op->i<=c:=by
  intro hk;rcases vn c i with XV | XV
  .have sW:i<rs.length:=(xI.1 hr).1;rcases hI.cut with h | ⟨⟨rc,XU,BF⟩,Me⟩
   .omega
   .rcases hG.pair c i rc r XV XU hr with h | h
    .exact (Me (eM c h)).elim
    .exact ((aaf h).1 ⟨BF,hk⟩).elim
  .exact XV
 have hwc:lh rs i->i=c:=by
  intro hw;obtain⟨da,h1,h2⟩:=hw;rw[hr] at h1;injection h1 with h1
  subst h1;have h3:=je (by omega);rcases vM h3 with e | h3
  .exact e
  .rcases vn i st with g | g
   .exact (hi (hI.before i g ⟨r,hr,h2⟩)).elim
   .exact (hI.HJ i g h3 ⟨r,hr,h2⟩).elim
 have aH:1<=bj r.op->¬lh rs i->i<c:=by
  intro hk hw;rcases vM (je hk) with e | h
  .subst e;rcases hI.cut with h | h
   .have sW:i<rs.length:=(xI.1 hr).1;omega
   .exact (hw h.1).elim
  .exact h
 have BF:¬lh rs i->bj r.op=0\/i<c:=fun hw=>by
  rcases xj (bj r.op) with h | h
  .exact .inl h
  .exact .inr (aH h hw)
 unfold wpOpIn;simp only[ho];unfold fe at aM
 cases Ri:qU (bR i) r.guard with
 | none=>simp[Ri] at aM
 | some b=>
  have XR:=aaY cU.guard (fun t ht=>VY t (by simp[D1,ht])) Ri;rw[XR]
  cases b with
  | false=>
   simp only[Ri,yc,yo] at aM;obtain⟨hv,hh,hc⟩:=aM;simp only[yC,xm];refine⟨fun _ _=>trivial,?_⟩;have dN:∀m S w,af O.ae m S w (vF i) undef:=fun m S w=>by rw[<-hv];simp[af,aB,undef]
   rw[<-cU.dst];rcases td (lh rs i) with hw | hw
   .have e:=hwc hw;subst e;obtain⟨c',Dc,h⟩:=ada hG hI hr hi eM fR hD hd hw (m':=m) (S':=S) (w':=w) (u:=undef) (by rw[<-hh,<-hc];exact hI.hp) (by omega) (dN _ _ _) (by rw[<-hh];exact cf.refl)
    exact hK _ _ _ _ _ _ h
   .exact hK _ _ _ _ _ _ (N4 hG hI hr hi eM fR hD hd hw (BF hw) (m':=m) (S':=S) (w':=w) (u:=undef) hI.hp dh.refl (fun _ _ h=>.inl h) (dN _ _ _) cf.refl)
  | true=>
   simp only[Ri] at aM;simp only[xA];have mo:=ZK cU.op aM;have Mt:bV O m S w (bm (bR i) (kS r.op)) a.tmps:=fun t=>by
    rcases td (t∈kS r.op) with h | h
    .rw [N3 h];exact VY t (by simp[D1,h])
    .have:aj (bm (bR i) (kS r.op)) t=.undef:=by
      clear VY aM;revert h;generalize kS r.op=l;intro h
      induction l with
      | nil=>rfl
      | cons x l ih=>
       simp only[bm,aj];have hx:yq x t=yda:=by
        cases hq:yq x t with
        | false=>rfl
        | true=>exact absurd (by rw[yg hq];exact wA) h
       rw[hx];exact ih (fun h'=>h (xR _ h'))
     rw[this];simp only[af]
   have Aq:aY O.prog O.aI self (bm (bR i) (kS r.op)) (bI i) (bC i) (jK r.op)=FL (vF i,bI (i+1),bC (i+1)):=
    ame (fun t ht=>N3 ht) aM
   have ad0:¬lh rs i->jK r.op=r.op:=fun hw=>aob (fun h=>hw ⟨r,hr,h⟩)
   have now:¬lh rs i->bg (bm (bR i) (kS r.op)) (bI c) r.op=FL (vF i)->Oper.wpIn (WF ro) 0 O.P o a w K Q:=by
    intro hw fE;by_cases Dh:∃n sz z ps,r.op=.mT n sz z ps
    .obtain ⟨n,sz,z,ps,Dh⟩:=Dh;have E7:bj r.op=0:=by rw[Dh];rfl
     have ayG:aY O.prog O.aI self (bm (bR i) (kS r.op)) (bI c) (bC c) r.op=FL (vF i,bI c,bC c):=by
      rw[Dh] at fE ⊢;simp only[aY,fE]
     refine quiet_step (Hq:=bI c) (cH:=bC c) hC hH (by omega) cU.op mo ayG cR.refl (yu _) hI.hp.aH (fun id h1 h2=>by omega) Mt hI.hp (fun u m' S' w' k1 k2 k3 k4 k5=>?_);rw[<-cU.dst];exact hK _ _ _ _ _ _ (N4 hG hI hr hi eM fR hD hd hw (.inl E7) k1 k2 (fun id p h=>.inl ((k3 id p h).resolve_right (by omega))) k4 k5)
    have ie:∃k,r.op=aP O.P H k o:=by
     rcases cU.op with h | ⟨cc,f,rr,_,_,h⟩ | ⟨_,_,_,_,_,_,_,h⟩ | ⟨_,_,_,_,_,_,_,h⟩ | ⟨_,_,_,_,_,_,h⟩ | ⟨_,_,_,_,_,_,h⟩
     .exact h
     .rw [h] at fE;simp[bg] at fE
     .rw [h] at fE;simp[bg] at fE
     .rw [h] at fE;simp[bg] at fE
     .rw [h] at fE;simp[bg] at fE
     .exact (Dh ⟨_,_,_,_,h⟩).elim
    obtain⟨k,hk⟩:=ie;rw[hk] at fE;rw[hk] at Mt;obtain⟨u,h1,h2⟩:=acV hH Mt hI.hp fE;refine Gj mo h1 (.inl rfl) ?_;rw[<-cU.dst];exact hK _ _ _ _ _ _ (N4 hG hI hr hi eM fR hD hd hw (BF hw) hI.hp dh.refl (fun _ _ h=>.inl h) h2 cf.refl)
   rcases td (lh rs i) with hw | hw
   .have e:=hwc hw;subst e;refine abO hC hH (alc cU.op) mo Aq Mt hI.hp (fun u m' S' w' k1 k2 k3 k4=>?_);rw[<-cU.dst];obtain⟨c',Dc,h⟩:=ada hG hI hr hi eM fR hD hd hw k1 k2 k3 k4;exact hK _ _ _ _ _ _ h
   .rcases xj (bj r.op) with hk | hk
    .have Aq:=ad0 hw▸Aq;obtain⟨h1,_,_⟩:=abQ (.inl hk) Aq;exact now hw (by rw[al5 hk (bI c) (bI i)];exact h1)
    .have HC:=aH hk hw;rcases vn i st with VZ | VZ
     .
      rcases hI.sX with h0 | h0
      .omega
      .have aZ:D (st-1):=hI.before _ (by omega) h0;have eh:i≠st-1:=fun e=>hi (e▸aZ)
       obtain⟨rp,hrp,iP⟩:=h0;rcases hG.pair i (st-1) r rp (by omega) hr hrp with h | h
       .exact (fR _ h aZ).elim
       .obtain ⟨hg,sz,ag,t,ie⟩:=(aaf h).2 hk iP;have hl:=Zz (c:=c) hG hr hi ⟨hg,ie⟩ hI.cn (fun j hj Fe=>by
         rcases vn j st with g | g
         .exact hI.before j g Fe
         .exact (hI.HJ j g hj Fe).elim) fR hI.HK (c-(i+1)) (by omega)
        rw[show i+1+(c-(i+1))=c by omega] at hl;refine now hw ?_;rw[ie];simp only[bg,ay];rw[N3 (by simp[kS,jJ])];exact hl
     .have jd:=NM hG hI (x:=i+1) (y:=c) (by omega) HC (yu _);have Mu:=NM hG hI (x:=st) (y:=i) (yu _) VZ (by omega)
      refine quiet_step (Hq:=bI c) (cH:=bC c) hC hH (JD hr hw) cU.op mo (ad0 hw▸Aq) jd.le jd.rK (hI.HK i (by omega)) ?_ Mt hI.hp (fun u m' S' w' k1 k2 k3 k4 k5=>?_)
      .intro id h1 h2
       cases hm:m id with
       | none=>rfl
       | some p=>
        rcases hI.XT id p hm with h | ⟨j,q1,q2,q3,q4,q5⟩
        .have:=Mu.rK;omega
        .rcases Nat.lt_trichotomy j i with g | g | g
         .have:=(NM hG hI (x:=j+1) (y:=i) (by omega) g (by omega)).rK;omega
         .subst g;exact (hi q3).elim
         .have:=(NM hG hI (x:=i+1) (y:=j) (by omega) g (by omega)).rK;omega
      .rw [<-cU.dst];exact hK _ _ _ _ _ _ (N4 hG hI hr hi eM fR hD hd hw (.inr HC) k1 k2 (fun id p h=>(k3 id p h).imp (fun h=>h) (fun h=>⟨VZ,HC,h.1,h.2⟩)) k4 k5)
def left(n:Nat)(listed:Array Bool):Nat:=(List.range n).countP fun i=> !listed.getD i yda
def aod{n:Nat}{listed:Array Bool}{i:Nat}(hi:i<n)(hs:listed.size=n)(hl:listed.getD i ycZ=yda):left n (listed.setIfInBounds i ycZ)+1=left n listed:=by
 have key:∀(l:List Nat),l.Nodup->(i∈l->(l.countP fun j=> !(listed.setIfInBounds i ycZ).getD j yda)+1=l.countP fun j=> !listed.getD j yda)/\(i∉l->(l.countP fun j=> !(listed.setIfInBounds i ycZ).getD j yda)=l.countP fun j=> !listed.getD j yda):=by
  intro l
  induction l with
  | nil=>intro _;exact⟨fun h=>(by cases h),fun _=>rfl⟩
  | cons x l ih=>
   intro mo;have hx:x≠i->(listed.setIfInBounds i ycZ).getD x yda=listed.getD x yda:=fun h=>getD_set_ne yda (ycG h)
   refine⟨fun hm=>?_,fun hm=>?_⟩
   .rw [ybw,ybw];by_cases e:x=i
    .simp_all
    .grind
   .grind
 exact (key _ List.nodup_range).1 (vW.2 hi)
def amg{n:Nat}{listed:Array Bool}(h:left n listed=0):∀i,i<n->listed.getD i yda=ycZ:=by
 unfold left at h
 simp_all
def amh{listed:Array Bool}(hs:listed.size=ops.size)(hb:∀(i:Nat) (o:yV),ops[i]? =FL o->∀e,e∈o.after->Region.binds .any e=ycZ->e.on<i)(h:Region.ready .any ops listed=[]):∀i,i<ops.size->listed.getD i yda=ycZ:=by
 intro i
 induction i using vR with
 | _ i ih=>
  intro hi
  cases hq:listed.getD i yda with
  | true=>rfl
  | false=>
   have:i∈Region.ready .any ops listed:=by
    refine mem_ready.2 ⟨?_,ops[i],by simp[hi],fun e he sU=>?_⟩
    .have aH:i<listed.size:=by lia
     simp only[wi,aH,uT,wX] at hq ⊢;exact hq
    .have:=hb i ops[i] (by simp[hi]) e he sU
     exact ih e.on this (by lia)
   rw[h] at this;cases this
def aqg(hG:zK O H self ops π rs bR bI bC vF)(hI:Inv O ops rs bR bI bC D m0 S0 w0 n0 d0 st c m S w a)(mf:∀i,i<rs.length->D i):
  aS O m S w (bI rs.length) (bC rs.length)/\bV O m S w (bR rs.length) a.tmps/\cf m0 S0 w0 (bI 0) m S w (bI rs.length) (bC 0)/\bC 0<=bC rs.length:=by
 have hc:c=rs.length:=by
  rcases hI.cut with h | ⟨⟨r,h1,_⟩,h2⟩
  .exact h
  .exact (h2 (mf c (xI.1 h1).1)).elim
 subst hc;refine⟨hI.hp,fun t=>?_,hI.Rh,hI.ge⟩;obtain⟨j,h1,h2,h3⟩:=hI.tm t;obtain⟨k,hk⟩:∃k,rs.length=j+k:=⟨rs.length-j,by omega⟩
 have:=Ji (t:=t) (i:=j) hG.run k (by omega) (fun l r g1 g2 hl hd=>by
  have:=(h2 l r hl hd).1 (mf l (xI.1 hl).1)
  omega)
 rw[<-hk] at this;rw[this];exact h3
structure JR(n:Nat)(π:Nat->Nat):Prop where
 inj:∀i j,π i=π j->i=j
 sur:∀x,x<n->∃i,i<n/\π i=x
 lt:∀i,i<n->π i<n
def asV(hC:oV O self)(hH:fh O H)(hG:zK O H self ops π rs bR bI bC vF)(hπ:JR ops.size π)(hn:H.n<=n0)(hQ:∀a' m' S' w',aS O m' S' w' (bI rs.length) (bC rs.length)->bC 0<=bC rs.length->bV O m' S' w' (bR rs.length) a'.tmps->cf m0 S0 w0 (bI 0) m' S' w' (bI rs.length) (bC 0)->a'.tmps.size=n0->a'.defers=d0->Q .normal a' w'):
  ∀(bn:Nat) (listed:Array Bool) (st c:Nat) (m:Mp) (S:Nat->Prop) (w:yj) (a:Act),listed.size=ops.size->left ops.size listed=bn->UF ops (fun i=>listed.getD i yda=ycZ)->
   Inv O ops rs bR bI bC (fun i=>listed.getD (π i) yda=ycZ) m0 S0 w0 n0 d0 st c m S w a->wpAnyIn (WF ro) 0 O.P .any ops Q bn listed a w:=by
 have fin:∀(listed:Array Bool) (st c:Nat) (m:Mp) (S:Nat->Prop) (w:yj) (a:Act),Inv O ops rs bR bI bC (fun i=>listed.getD (π i) yda=ycZ) m0 S0 w0 n0 d0 st c m S w a->(∀i,i<ops.size->listed.getD i yda=ycZ)->Q .normal a w:=by
  intro listed st c m S w a hI mf;obtain⟨h1,h2,h3,h4⟩:=aqg hG hI (fun i hi=>mf _ (hπ.lt i (by rw[<-hG.len];exact hi)))
  exact hQ a m S w h1 h4 h2 h3 hI.size hI.defers
 intro bn
 induction bn with
 | zero=>
  intro listed st c m S w a hs hl hc hI;have mf:=amg hl;refine⟨?_,fin listed st c m S w a hI mf⟩;rw[List.eq_nil_iff_forall_not_mem];intro i hm;obtain⟨h1,o,ho,_⟩:=mem_ready.1 hm;have hi:=(xv.1 ho).1
  have:=mf i hi
  have aH:i<listed.size:=by omega
  simp only[wi,aH,uT,wX] at h1 this;rw[this] at h1;cases h1
 | succ bn ih=>
  intro listed st c m S w a hs hl hc hI;refine⟨fun h=>fin listed st c m S w a hI (amh hs hG.back h),fun x hm=>?_⟩;obtain⟨h1,o,ho,h2⟩:=mem_ready.1 hm;have hx:x<ops.size:=(xv.1 ho).1;obtain⟨i,hi,rfl⟩:=hπ.sur x hx;have hr:rs[i]? =FL (rs[i]'(by rw[hG.len];exact hi)):=by simp[hG.len,hi]
  have aH:π i<listed.size:=by omega
  have hni:¬listed.getD (π i) yda=ycZ:=by
   simp only[wi,aH,uT,wX] at h1 ⊢;rw[h1];simp
  have XW:∀y,(listed.setIfInBounds (π i) ycZ).getD y yda=ycZ↔listed.getD y yda=ycZ\/y=π i:=by
   intro y;by_cases e:y=π i
   .subst e;simp[aH]
   .rw [getD_set_ne yda (ycG e)];simp[e]
  have hD:∀j,(listed.setIfInBounds (π i) ycZ).getD (π j) yda=ycZ↔listed.getD (π j) yda=ycZ\/j=i:=by
   intro j;rw[XW];exact or_congr Iff.rfl ⟨fun e=>hπ.inj _ _ e,fun e=>by rw[e]⟩
  refine aoc (D:=fun i=>listed.getD (π i) yda=ycZ) hC hH hG hn hI hr ho hni (fun j hj=>aa0 hc (π i) o ho h2 (π j) hj) (fun j hj Fg=>?_) hD (fun st' c' m' S' w' a' XX=>ih (listed.setIfInBounds (π i) ycZ) st' c' m' S' w' a' (by simp[hs]) ?_ ?_ XX)
  .have hjl:π j<ops.size:=by
    rcases vn (π j) ops.size with h | h
    .exact h
    .rw [wi,yaC (by omega)] at Fg;simp at Fg
   exact hni (aoa hc (show ops[π j]? =FL ops[π j] by simp[hjl]) Fg hj)
  .have:=aod hx hs h1
   omega
  .intro j oj Mv hj e he hb;rw[XW];rcases (XW j).1 hj with g | g
   .exact .inl (hc j oj Mv g e he hb)
   .subst g;rw[ho] at Mv;injection Mv with Mv
    subst Mv;exact .inl (h2 e he hb)
end
end
section
open Go
section
variable {pm:List Nat}{n:Nat}{P:xp}{s s':St}
def ale{F:Fence}{Q:uD->Act->yj->Prop}{a:Act}{w:yj}{c:vA}(h:c.wpIn F n P Q a w)(hg:∀l a w,¬Q (.goto l) a w):(Code.scope c).wpIn F n P Q a w:=by
 intro b k cs cU hb hr;have h0:(lone (b.atR a (.code (.scope c)::k)) cs w).fenced P F:=fenced_calm hb hr rfl;have s0:step P (lone (b.atR a (.code (.scope c)::k)) cs w)=.next (lone (b.atR a (.code c:: .inScope c::k)) cs w):=step_lone_go (by simp[stepG,stepG.exec,Frame.atR]);have⟨e,a₁,w₁,hq,EE⟩:=h b (.inScope c::k) cs cU hb hr;have hx:∀id,exitTo id (.inScope c::k)=exitTo id k:=fun id=>by simp[exitTo]
 cases e with
 | normal=>
  have s1:step P (lone (b.atR a₁ (.inScope c::k)) cs w₁)=.next (lone (b.atR a₁ k) cs w₁):=step_lone_go (by simp[stepG,stepG.exec,Frame.atR]);exact⟨.normal,a₁,w₁,hq,.head h0 s0 (StepsIn.trans EE (.one (fenced_calm hb hr rfl) s1))⟩
 | exit id=>
  exact⟨.exit id,a₁,w₁,hq,fun k' hk=>.head h0 s0 (EE.1 k' (by rw[hx];exact hk)),fun bh hk=>let ⟨k₁,h1,h2⟩:=EE.2 bh (by rw[hx];exact hk);⟨k₁,h1,.head h0 s0 h2⟩⟩
 | goto l=>exact (hg _ _ _ hq).elim
 | ret=>exact⟨_,a₁,w₁,hq,.of_steps (.one h0 s0) EE⟩
 | panic ch=>exact⟨_,a₁,w₁,hq,.of_steps (.one h0 s0) EE⟩
 | outgrown=>exact⟨_,a₁,w₁,hq,.of_steps (.one h0 s0) EE⟩
def sC:Ex->uD
 | .normal=>.normal
 | .ret=>.ret
 | .exit id=>.exit id
def Marks(lo:Nat)(S:Nat->Prop)(w:yj)(ds:List yam):Prop:=∃rs:List Nat,ds=rs.map (fun r=>{target:=.collected r,args:=#[]})/\rs.Nodup/\
 ∀r,r∈rs->w.heap[r]? =FL (.deferred (FL []))/\¬S r/\lo<=r
def AY(ro:Option Nat)(w:yj):Prop:=∀l,ro=FL l->∃r:uY,w.heap[l]? =FL (.loop r)
section
variable {O:bA}{m:Mp}{S:Nat->Prop}{w:yj}{hp:Hp}{ct:Nat}
def abR(hh:aS O m S w hp ct){b:Nat}(h:ef m hp b):∀x,w.heap[b]?≠FL (.deferred x):=by
 intro x hx;obtain⟨id,o,p,h1,h2,rfl⟩:=h;have h3:=hh.obj id o p h1 h2
 cases o with
 | cells rw pu ex sz cs=>have⟨q,arr,t,g1,g2,_⟩:=h3;rw[h2] at g1;injection g1 with g1;subst g1;rw[hx] at g2;cases g2
 | mp rw ks vs=>have⟨q,es,clock,g1,g2,_⟩:=h3;rw[h2] at g1;injection g1 with g1;subst g1;rw[hx] at g2;cases g2
 | si s pos=>have⟨q,t,g1,g2,_⟩:=h3;rw[h2] at g1;injection g1 with g1;subst g1;rw[hx] at g2;cases g2
 | lp tm ps as_ body st pe=>have⟨q,l,hi,g1,g2,_⟩:=h3;rw[h2] at g1;injection g1 with g1;subst g1;rw[hx] at g2;cases g2
def Ca(hh:aS O m S w hp ct){m':Mp}{S':Nat->Prop}{w':yj}{an:Hp}{base lo:Nat}(hf:cf m S w hp m' S' w' an base){ds:List yam}(h:Marks lo S w ds):Marks lo S' w' ds:=by
 have⟨rs,h1,h2,h3⟩:=h;refine⟨rs,h1,h2,fun r hr=>?_⟩;have⟨this,h4,h5⟩:=h3 r hr;have aH:=(xv.1 this).1;have pR:¬ef m hp r:=fun ho=>abR hh ho _ this
 refine⟨(hf.same r aH pR).trans this,fun hs=>?_,h5⟩;rcases hf.new r hs with h | h | h
 .grind
 .grind
 .lia
def NN{m':Mp}{S':Nat->Prop}{w':yj}{an:Hp}{base:Nat}{ro:Option Nat}(hf:cf m S w hp m' S' w' an base)(h:AY ro w):AY ro w':=fun l hl=>
 let ⟨r,hr⟩:=h l hl
 hf.loops l r hr
def eR(O:bA)(m:Mp)(S:Nat->Prop)(w:yj)(s:St)(ex:Ex)(s':St)(n lo:Nat)(e:uD)(a':Act)(w':yj):Prop:=
 e=sC ex/\∃m' S',bV O m' S' w' s'.tm a'.tmps/\aS O m' S' w' s'.hp s'.ct/\s'.base=s.base/\s.base<=s'.ct/\cf m S w s.hp m' S' w' s'.hp s.base/\a'.tmps.size=n/\Marks lo S' w' a'.defers
def CH(O:bA)(h:Nat)(c:vA)(s:St)(ex:Ex)(s':St):Prop:=
 ∀(ro:Option Nat) (lo:Nat) (m:Mp) (S:Nat->Prop) (w:yj) (a:Act),AY ro w->bV O m S w s.tm a.tmps->aS O m S w s.hp s.ct->s.base<=s.ct->(O.hint h).n<=a.tmps.size->O.w0.heap.size<=lo->lo<=w.heap.size->Marks lo S w a.defers->
  c.wpIn (WF ro) 0 O.P (eR O m S w s ex s' a.tmps.size lo) a w
structure iy(O:bA):Prop where
 hint:∀h,fh O (O.hint h)
 mixed:O.P.follows .mixedOrders=ycZ
 prog:∀n F,O.prog n=FL F->∃fn,O.P.funcs[O.ae n]? =FL fn/\Gh O.P (O.hint n) fn=FL F/\fn.name≠ "runtime.NumGoroutine"
 aI:∀n sp aq r,O.aI.pure n=FL sp->sp aq=FL r->et O n aq r
 G0:∀n sp hp ct aq v an aU,O.aI.heap n=FL sp->sp hp ct aq=FL (v,an,aU)->CG O n hp ct aq v an aU
def FZ{P:xp}{H:Hint}{ops:Array yV}:∀(rs:List aR) (l:List yV) (done:List aR) (ms:List Nat),eL P H ops rs l->eL P H ops (lF done rs ms) l
 | [],l,done,ms,h=>by
  cases ms<;>simpa only[lF] using h
 | r::rs,[],done,ms,h=>by simp[eL] at h
 | r::rs,o::l,done,[],h=>by
  have⟨d,g,op⟩:=r;cases op<;>simpa only[lF] using h
 | r::rs,o::l,done,m::ms,h=>by
  simp only[eL] at h;have⟨h1,h2⟩:=h;have⟨d,g,op⟩:=r
  cases op with
  | jH Dj f xs=>
   simp only[lF,eL];refine⟨?_,FZ rs l _ ms h2⟩;rcases h1 with h1 | ⟨_,h1⟩
   .refine .inl ⟨?_,h1.dst,h1.ok,h1.guard⟩;have⟨c,f',g1,g2,g3,g4⟩:=Tu h1.op;rw[g3,g4];exact .inr (.inl ⟨c,f',_,g1,g2,rfl⟩)
   .simp [bad] at h1
  | st sz x y=>
   simp only[lF,eL];refine⟨?_,FZ rs l _ ms h2⟩;rcases h1 with h1 | ⟨_,h1⟩
   .refine .inl ⟨?_,h1.dst,h1.ok,h1.guard⟩;unfold stOp
    split
    .exact h1.op
    .have ⟨t,x',y',g1,g2,g3,g4⟩:=awT h1.op;exact .inr (.inr (.inl ⟨t,x',y',sz,_,g1,g2,by rw[g3,g4]⟩))
   .simp [bad] at h1
  | db sz b x y=>
   simp only[lF,eL];refine⟨?_,FZ rs l _ ms h2⟩;rcases h1 with h1 | ⟨_,h1⟩
   .refine .inl ⟨?_,h1.dst,h1.ok,h1.guard⟩;unfold agi
    split
    .exact h1.op
    .have ⟨k,hk⟩:=adZ h1.op;exact .inr (.inr (.inr (.inl ⟨k,_,sz,b,x,y,hk,rfl⟩)))
   .simp [bad] at h1
  | _=>
   simp only[lF,eL];exact⟨h1,FZ rs l _ ms h2⟩
def abS{P:xp}{H:Hint}{ops:Array yV}:∀(rs:List aR) (l:List yV) (done:List aR),eL P H ops rs l->eL P H ops (GS done rs) l
 | [],[],_,h=>h
 | [],_::_,_,h=>by simp[eL] at h
 | r::rs,[],done,h=>by simp[eL] at h
 | r::rs,o::l,done,h=>by
  simp only[eL] at h;obtain⟨h1,h2⟩:=h;simp only[GS,eL];refine⟨?_,abS rs l _ h2⟩;obtain⟨d,g,op⟩:=r
  cases op with
  | db sz b x y=>
   simp only
   cases adV done x with
   | false=>exact h1
   | true=>
    simp only[yx];rcases h1 with h1 | ⟨_,h1⟩
    .refine .inl ⟨?_,h1.dst,h1.ok,h1.guard⟩;obtain⟨k,hk⟩:=adZ h1.op;exact .inr (.inr (.inr (.inr (.inl ⟨k,sz,b,x,y,hk,rfl⟩))))
    .simp [bad] at h1
  | _=>exact h1
end
section
variable {O:bA}{self:cl}
def N5{P:xp}{H:Hint}{ops:Array yV}:∀{rs:List aR} {l:List yV},eL P H ops rs l->rs.length=l.length/\∀(i:Nat) (r:aR) (o:yV),rs[i]? =FL r->l[i]? =FL o->Eu P H ops r o\/(r.guard=FM/\r.op=bad)
 | [],[],_=>⟨rfl,fun i r o h=>by simp at h⟩
 | [],_::_,h=>by simp[eL] at h
 | _::_,[],h=>by simp[eL] at h
 | r::rs,o::l,h=>by
  have⟨h1,h2⟩:=N5 h.2;refine⟨by simp[h1],fun i r' o' hr ho=>?_⟩
  cases i with
  | zero=>simp at hr ho;subst hr;subst ho;exact h.1
  | succ i=>exact h2 i r' o' (by simpa using hr) (by simpa using ho)
def aqh{H:Hint}{o:yV}{sz:Nat}{z:List AV}{ps:List (Nat×Nat×X)}(hq:ow P H (.jo n sz z ps) o):∃k,Op.jo n sz z ps=aP P H k o:=by
 rcases hq with h | ⟨_,_,_,_,_,h3⟩ | ⟨_,_,_,_,_,_,_,h3⟩ | ⟨_,_,_,_,_,_,_,h3⟩ | ⟨_,_,_,_,_,_,h3⟩ | ⟨_,_,_,_,_,_,h3⟩
 .exact h
 .cases h3
 .cases h3
 .cases h3
 .cases h3
 .cases h3
def abT{P:xp}{H:Hint}{ops:Array yV}{all:List aR}:∀(rs:List aR) (l:List yV),eL P H ops rs l->eL P H ops (Em all rs) l
 | [],[],h=>h
 | [],_::_,h=>by simp[eL] at h
 | r::rs,[],h=>by simp[eL] at h
 | r::rs,o::l,h=>by
  simp only[eL] at h;obtain⟨h1,h2⟩:=h;simp only[Em,eL];refine⟨?_,abT rs l h2⟩;obtain⟨d,g,op⟩:=r
  cases op with
  | jo n sz z ps=>
   simp only
   cases OQ d all with
   | false=>exact h1
   | true=>
    simp only[yx];rcases h1 with h1 | ⟨_,h1⟩
    .refine .inl ⟨?_,h1.dst,h1.ok,h1.guard⟩;obtain⟨k,hk⟩:=aqh h1.op;exact .inr (.inr (.inr (.inr (.inr ⟨k,n,sz,z,ps,hk,rfl⟩))))
    .simp [bad] at h1
  | _=>exact h1
def CI(l:List yV):List Nat->List yV
 | []=>[]
 | x::r=>match l[x]? with | some o=>o::CI l r | none=>CI l r
def Ug{P:xp}{H:Hint}{ops:Array yV}{rs:List aR}{l:List yV}(h:eL P H ops rs l):∀(pm:List Nat),eL P H ops (CE rs pm) (CI l pm)
 | []=>trivial
 | x::r=>by
  obtain⟨h1,h2⟩:=N5 h;simp only[CE,CI]
  cases hr:rs[x]? with
  | none=>
   have:l[x]? =FM:=by rw[List.getElem?_eq_none_iff] at hr ⊢;omega
   rw[this];exact Ug h r
  | some q=>
   have aH:=(xI.1 hr).1;have hl:l[x]? =FL (l[x]'(by omega)):=by rw[xo]
   rw[hl];exact⟨h2 x q _ hr hl,Ug h r⟩
def aa2{l:List yV}:∀(pm:List Nat),(∀x,x∈pm->x<l.length)->(CI l pm).length=pm.length/\∀(i:Nat),(CI l pm)[i]? =(pm[i]?).bind (l[·]?)
 | [],_=>⟨rfl,fun i=>by simp[CI]⟩
 | x::r,h=>by
  have hx:=h x wA;obtain⟨h1,h2⟩:=aa2 r (fun y hy=>h y (xR _ hy));have hl:l[x]? =FL l[x]:=by rw[xo]
  simp only[CI,hl];refine⟨by simp[h1],fun i=>?_⟩
  cases i with
  | zero=>simp[hl]
  | succ i=>simpa using h2 i
def ZM{m:Nat}:∀(pm:List Nat) (k i:Nat),vJ (Gf m pm k) i=ycZ->k<=i/\∃x,pm[i-k]? =FL x/\vJ m x=ycZ
 | [],k,i,h=>by simp[Gf] at h
 | x::r,k,i,h=>by
  simp only[Gf,ybP,uH] at h;rcases h with h | h
  .cases hx:vJ m x with
   | false=>simp[hx] at h
   | true=>
    simp only[hx,yx,Nat.testBit_two_pow,vU] at h;subst h;exact⟨yu _,x,by simp,hx⟩
  .obtain ⟨h1,y,h2,h3⟩:=ZM r (k+1) i h;refine⟨by omega,y,?_,h3⟩;rw[show i-k=(i-(k+1))+1 by omega,yaD];exact h2
def ZN{ms pm all:List Nat}:∀(l:List Nat) (j:Nat),(Ci ms pm all l)[j]? =(l[j]?).map fun x=>Gf (ms.getD x 0) pm 0
 | [],j=>by simp[Ci]
 | x::r,0=>by simp[Ci]
 | x::r,j+1=>by simpa[Ci] using ZN r j
def aky(h:JN n pm (zI pm n)=ycZ):pm.length=n/\(∀x,x∈pm->x<n)/\JR n (fun i=>pm.getD i i):=by
 simp only[JN,yf] at h;obtain⟨h1,h2⟩:=h;have hl:=yg h1;have sW:(zI pm n).length=n:=by simp[zI]
 have h3:∀i,i<n->pm.getD i i<n/\(zI pm n).getD i i<n/\(zI pm n).getD (pm.getD i i) i=i/\pm.getD ((zI pm n).getD i i) i=i:=fun i hi=>by
  have:=ybv.1 h2 i (vW.2 hi)
  simp only[yf] at this;obtain⟨a,b,c,d⟩:=this;exact⟨qD.1 a,qD.1 b,yg c,yg d⟩
 have out:∀i,n<=i->pm.getD i i=i:=fun i hi=>by rw[xd,List.getElem?_eq_none (by omega)];rfl
 generalize zI pm n=inv at h3 sW;have agr:∀(l:List Nat) (i a b:Nat),i<l.length->l.getD i a=l.getD i b:=fun l i a b hi=>by
  rw[xd,xd,xo hi];rfl
 refine⟨hl,fun x hx=>?_,⟨fun i j pU=>?_,fun x hx=>?_,fun i hi=>(h3 i hi).1⟩⟩
 .obtain ⟨i,hi,rfl⟩:=List.getElem_of_mem hx
  have:=(h3 i (by omega)).1
  rwa[xd,xo hi] at this
 .have pU:pm.getD i i=pm.getD j j:=pU;by_cases hi:i<n
  .by_cases hj:j<n
   .have a:=(h3 i hi).2.2.1;have b:=(h3 j hj).2.2.1;rw[pU] at a;rw[agr inv _ i j (by rw[sW];exact (h3 j hj).1)] at a
    exact a.symm.trans b
   .rw [out j (by omega)] at pU
    have:=(h3 i hi).1
    omega
  .by_cases hj:j<n
   .rw [out i (by omega)] at pU
    have:=(h3 j hj).1
    omega
   .rw [out i (by omega),out j (by omega)] at pU;exact pU
 .obtain ⟨_,b,_,d⟩:=h3 x hx;exact⟨_,b,by show pm.getD _ _=x;rw[agr pm _ _ x (by omega)];exact d⟩
def ZO{H:Hint}{ops:Array yV}{rs:List aR}{Pp:aF}{L:Lib}{Fc:cl}(cO:(nW ops.toList 0&&qB [] rs (kC [] ops.toList))=ycZ)(PP:eL P H ops rs ops.toList)(hv:de Pp L Fc rs s=FL s'):
  ∃rs π,JR ops.size π/\nW ops.toList 0=ycZ/\(rs.length=ops.size/\∀(i:Nat) (r:aR) (o:yV),rs[i]? =FL r->ops[π i]? =FL o->Eu P H ops r o\/(r.guard=FM/\r.op=bad))/\
    (∀(i j:Nat) (x y:aR),i<j->rs[i]? =FL x->rs[j]? =FL y->Ord ops (π i) (π j)\/EG x y ((rs.take j).drop (i+1)))/\de Pp L Fc rs s=FL s':=by
 simp only[yf] at cO;obtain⟨hlen,ak⟩:=N5 PP;refine⟨rs,fun i=>i,⟨fun _ _ h=>h,fun x h=>⟨x,h,rfl⟩,fun _ h=>h⟩,cO.1,⟨by rw[hlen];simp,fun i r o hr ho=>ak i r o hr (by simpa using ho)⟩,fun i j x y pU hx hy=>?_,hv⟩
 obtain⟨mm,g1,g2⟩:=Sf (done:=[]) (i:=i) (j:=j) (a:=x) (b:=y) cO.2 (by simpa using hx) hy (by simpa using pU);refine g2.imp (fun g=>?_) (fun g=>by simpa using g);unfold Ord;rw[xd,g1];exact g
def akh{H:Hint}{ops:Array yV}{l:List aR}{sL:List Nat}{Pp:aF}{L:Lib}{Fc:cl}(Fh:eL P H ops l ops.toList)(XY:Ci (kC [] ops.toList) pm pm pm=sL)(q1:nW ops.toList 0=ycZ)(q2:JN ops.size pm (zI pm ops.size)=ycZ)(q3:qB [] (lF [] (CE (Em l l) pm) sL) sL=ycZ)(hv:de Pp L Fc (lF [] (CE (Em l l) pm) sL) s=FL s'):
  ∃rs π,JR ops.size π/\nW ops.toList 0=ycZ/\(rs.length=ops.size/\∀(i:Nat) (r:aR) (o:yV),rs[i]? =FL r->ops[π i]? =FL o->Eu P H ops r o\/(r.guard=FM/\r.op=bad))/\
    (∀(i j:Nat) (x y:aR),i<j->rs[i]? =FL x->rs[j]? =FL y->Ord ops (π i) (π j)\/EG x y ((rs.take j).drop (i+1)))/\de Pp L Fc rs s=FL s':=by
 obtain⟨hl,aH,hπ⟩:=aky q2;have h1:=FZ _ _ [] sL (Ug (abT (all:=l) _ _ Fh) pm);obtain⟨h2,h3⟩:=N5 h1;obtain⟨h4,h5⟩:=aa2 (l:=ops.toList) pm (fun x hx=>by simpa using aH x hx);refine⟨_,_,hπ,q1,⟨by rw[h2,h4,hl],fun i r o hr ho=>h3 i r o hr ?_⟩,fun i j x y pU hx hy=>?_,hv⟩
 .have hi:i<pm.length:=by have:=(xI.1 hr).1;omega
  rw[h5,xo hi,wF];rw[xd,xo hi,wX] at ho;simpa using ho
 .have hj:j<pm.length:=by have:=(xI.1 hy).1;omega
  obtain⟨mm,g1,g2⟩:=Sf (done:=[]) (i:=i) (j:=j) (a:=x) (b:=y) q3 (by simpa using hx) hy (by simpa using pU);refine g2.imp (fun g=>?_) (fun g=>by simpa using g);rw[<-XY,ZN,xo hj,wM,yc] at g1;subst g1;obtain⟨_,z,g3,g4⟩:=ZM _ _ _ g;unfold Ord
  rw[xd (l:=pm),xo hj,wX]
  rw[xd (l:=pm),show pm[i]? =FL z by simpa using g3,wX];exact g4
def ami{m:Mp}{S:Nat->Prop}{w:yj}{hp:Hp}{ct:Nat}(hh:aS O m S w hp ct):Calm w {w with drawn:=w.drawn+1}:=⟨rfl,rfl,rfl,yu _,fun _ _=>rfl⟩
def asW(hO:iy O)(hC:oV O self)(h:Nat)(id:Nat)(ops:Array yV)(draw:Bool)(k:Nat)(hv:de O.prog O.aI self (Oj O.P (O.hint h) ops draw k).1 s=FL s'):CH O h (.region id ops draw) s .normal s':=by
 intro ro lo m S w a cU ht hh hb hn bc fF bZ;unfold Oj at hv;have Fh:=aad (P:=O.P) (H:=O.hint h) (ops:=ops) ops.toList k;generalize hq:DU O.P (O.hint h) ops ops.toList k=q at hv Fh;obtain⟨l,k'⟩:=q;simp only at hv Fh;have post:∀{a':Act} {m':Mp} {S':Nat->Prop} {w':yj},aS O m' S' w' s'.hp s'.ct->s.ct<=s'.ct->bV O m' S' w' s'.tm a'.tmps->cf m S w s.hp m' S' w' s'.hp s.ct->a'.tmps.size=a.tmps.size->a'.defers=a.defers->s'.base=s.base->eR O m S w s .normal s' a.tmps.size lo .normal a' w':=by
  intro a' m' S' w' h1 h2 h3 h4 h5 h6 h7;exact⟨rfl,m',S',h3,h1,h7,by omega,h4.zO hb,h5,by rw[h6];exact Ca hh h4 bZ⟩
 cases draw with
 | false=>
  simp only[yR] at hv;refine wpIn_region ?_;rw[List.range_eq_range'];have hl:ops.size=ops.toList.length:=by simp
  rw[hl];exact ac7 hC (hO.hint h) ops.toList l 0 s s' a m S w (fun j=>by simp) Fh hv ht hh hn (fun a' m' S' w' h1 h2 h3 h4 h5 h6 h7=>post h1 h2 h3 h4 h5 h6 h7)
 | true=>
  simp only[yx] at hv;have sY:∃rs π,JR ops.size π/\nW ops.toList 0=ycZ/\(rs.length=ops.size/\∀(i:Nat) (r:aR) (o:yV),rs[i]? =FL r->ops[π i]? =FL o->Eu O.P (O.hint h) ops r o\/(r.guard=FM/\r.op=bad))/\
    (∀(i j:Nat) (x y:aR),i<j->rs[i]? =FL x->rs[j]? =FL y->Ord ops (π i) (π j)\/EG x y ((rs.take j).drop (i+1)))/\de O.prog O.aI self rs s=FL s':=by
   have PP:=FZ l ops.toList [] (kC [] ops.toList) Fh
   cases cO:(nW ops.toList 0&&qB [] (lF [] l (kC [] ops.toList)) (kC [] ops.toList)) with
   | true=>
    rw[cO] at hv;exact ZO cO PP hv
   | false=>
    rw[cO] at hv;simp only[yR] at hv
    cases V1:(nW ops.toList 0&&qB [] (GS [] (lF [] l (kC [] ops.toList))) (kC [] ops.toList)) with
    | true=>
     rw[V1] at hv;exact ZO V1 (abS _ _ _ PP) hv
    | false=>
     rw[V1] at hv;simp only[yR] at hv;generalize hpm:places l (kC [] ops.toList)=pm at hv;generalize XY:Ci (kC [] ops.toList) pm pm pm=sL at hv
     cases PQ:(nW ops.toList 0&&(JN ops.size pm (zI pm ops.size)&&qB [] (lF [] (CE (Em l l) pm) sL) sL)) with
     | false=>
      rw[PQ] at hv;simp[de,bad,aY,eQ,ay] at hv
     | true=>
      rw[PQ] at hv;simp only[yx] at hv;simp only[yf] at PQ;obtain⟨q1,q2,q3⟩:=PQ;exact akh Fh XY q1 q2 q3 hv
  clear hv;obtain⟨rs,π,hπ,awU,⟨hlen,ak⟩,awV,hv⟩:=sY
  .obtain ⟨bR,bI,bC,vF,hR,e1,e2,e3,e4,e5,e6,e7⟩:=ac8 hv;have hG:zK O (O.hint h) self ops π rs bR bI bC vF:=by
    refine⟨hR,hlen,fun i r o hr ho=>?_,awV,fun i o ho e he hbd=>?_⟩
    .rcases ak i r o hr ho with g | ⟨g1,g2⟩
     .exact g
     .have:=hR.step i r hr
      simp[fe,g1,qU,g2,bad,aY,eQ,ay] at this
    .have:=Zu awU (j:=i) (o:=o) (by simpa using ho) e he hbd
     omega
   refine wpIn_region_any hO.mixed ?_;have KG:=ami hh;have iN:=B9 hh KG (S':=S) (fun _ h=>h) (fun _ h=>.inl h) hh.slt
   have rJ:cf m S w s.hp m S {w with drawn:=w.drawn+1} s.hp (bC 0):=AO hh KG (fun _ h=>h) (fun _ h=>.inl h);obtain⟨c,c1,c2,c3,c4⟩:=UG rs rs.length 0 (by omega);have hg:∀k',k'<=c->jn (bI 0) (bC 0) (bI (0+k')) (bC (0+k')):=fun k' Ag=>
    NL hR (by rw[e2,e3];exact hh.aH) k' (by omega) (fun j r g1 g2 hr=>JD hr (c3 j g1 (by omega)))
   have jd:=hg c (yu _);rw[yd] at jd;obtain⟨S1,g1,g2,g3,g4⟩:=NZ (by rw[e2,e3];exact iN:aS O m S {w with drawn:=w.drawn+1} (bI 0) (bC 0)) jd
   have zJ:∀i,(uE ops.size yda).getD i yda=ycZ->False:=fun i hi=>by
    simp only[wi] at hi;by_cases aH:i<ops.size
    .simp [aH] at hi
    .rw [yaC (by simpa using aH)] at hi;simp at hi
   refine asV (m0:=m) (S0:=S) (w0:=w) (n0:=a.tmps.size) (d0:=a.defers) hC (hO.hint h) hG hπ hn (fun a' m' S' w' h1 h2 h3 h4 h5 h6=>?_) ops.size _ 0 c m S1 _ a (by simp) ?_ (fun j o _ hj=>(zJ j hj).elim) ?_
   .rw [e5,e6] at h1;rw[e3,e6] at h2;rw[e4] at h3;rw[e2,e3,e5] at h4;exact post h1 h2 h3 h4 h5 h6 e7
   .unfold left;rw[List.countP_eq_length.2]
    .simp
    .intro i hi;simp only[vT]
     cases hq:(uE ops.size yda).getD i yda with
     | false=>rfl
     | true=>exact (zJ i hq).elim
   .refine ⟨tq _,c2,fun i hi=>by omega,c3,c4.imp (fun h=>h) (fun h=>⟨h,fun hd=>zJ _ hd⟩),fun i r _ _ _ hd=>zJ _ hd,g1,fun id p hp=>.inl (by rw[e3];exact hh.lt id p hp),fun t=>⟨0,tq _,fun i r _ _=>⟨fun hd=>(zJ _ hd).elim,fun h=>by omega⟩,?_⟩,?_,jd.rK,rfl,rfl,.inl rfl,fun j hj=>?_⟩
    .rw [e1];exact mB (fun _ _ h=>h) (fun b hb=>g2 b hb) (fun b hb=>KG.same b (hh.slt b hb)) _ _ (ht t)
    .rw [e2];have g5:=g4 (bC 0);rw[e2] at g5;exact rJ.trans g5
    .have:=(hg j hj).lt
     rw[yd] at this;exact this
end
end
end
section
open Go
section
variable {ps:List Nat}{b l:Nat}{P:xp}
section
variable {O:bA}{m:Mp}{S:Nat->Prop}{w:yj}{hp:Hp}{ct:Nat}
def aag(hh:aS O m S w hp ct){g:Nat}{w':yj}(hw:One w w' g)(hg:¬S g)(ho:¬ef m hp g)(bc:O.w0.heap.size<=g):aS O m S w' hp ct:=by
 have aM:fY S w w':=fun b hb=>hw.other b (fun e=>hg (e▸hb))
 refine⟨fun id o p h1 h2=>?_,hh.lt,hh.inj,fun b hb=>by rw[hw.size];exact hh.slt b hb,fun id p h=>by rw[hw.size];exact hh.blt id p h,hh.low,fun b hb=>?_,by rw[hw.size];exact hh.gi,hh.aH⟩
 .exact zn (fun _ _ h=>h) (fun _ h=>h) aM (fun q hq=>hw.other _ (fun e=>ho ⟨id,o,q,h1,hq,e⟩)) (fun _ _ h=>h) (hh.obj id o p h1 h2)
 .rw [hw.other b (by lia)];exact hh.mM b hb
def aah{o:yal}(h:w.heap[b]? =FL o)(hc:∀c t f,o≠.cells c t f):(getObj b).run P w=.ok o w:=by
 simp only[getObj,Sem.run,h]
def Nx{o x:yal}(h:w.heap[b]? =FL o)(hc:∀c t f,o≠.cells c t f):(setObj b x).run P w=.ok () {w with heap:=w.heap.setIfInBounds b x}:=by
 simp only[setObj,Sem.run,h]
def I7{r:uY}(h:w.heap[b]? =FL (.loop r)):(Instr.getLoop b).run P w=.ok r w:=by
 simp only[Instr.getLoop,Sem.run_bind,aah (P:=P) h (fun _ _ _=>by simp),Result.andThen_ok,Sem.run_pure]
def JE(hh:aS O m S w hp ct){tm:Env}{as_ body:VC}{st:Nat}{pe:zM}{p:Pl}(hg:ak hp l=FL (.lp tm ps as_ body st pe))(hm:m l=FL p):
  ∃(r:uY) (h:Nat),w.heap[p.b]? =FL (.loop r)/\¬S p.b/\r.state=CQ st/\st<=2/\r.pending=AX pe/\bV O m S w tm r.tmps/\r.params.toList=ps/\Db O.P (O.hint h) as_ r.assign/\Db O.P (O.hint h) body r.body/\
   (O.hint h).n<=r.tmps.size/\A4 (O.hint h).n ps=ycZ:=by
 have⟨q,r,h,g1,g2,g3⟩:=hh.obj l _ p hg hm
 grind
def aa3(hh:aS O m S w hp ct){tm:Env}{as_ body:VC}{st:Nat}{pe:zM}{p:Pl}(hg:ak hp l=FL (.lp tm ps as_ body st pe))(hm:m l=FL p){r:uY}(hr:w.heap[p.b]? =FL (.loop r)){st':Nat}{pe':zM}(h2:st'<=2):
  aS O m S {w with heap:=w.heap.setIfInBounds p.b (.loop {r with state:=CQ st',pending:=AX pe'})} (aW hp l (.lp tm ps as_ body st' pe')) ct/\
  cf m S w hp m S {w with heap:=w.heap.setIfInBounds p.b (.loop {r with state:=CQ st',pending:=AX pe'})} (aW hp l (.lp tm ps as_ body st' pe')) ct:=by
 have⟨r',h,g1,g2,g3,g4,g5,g6,g7,g8,g9,g10,g11⟩:=JE hh hg hm;rw[hr] at g1;injection g1 with g1
 injection g1 with g1
 subst g1;have gK:=FO w p.b (.loop {r with state:=CQ st',pending:=AX pe'})
 refine Jq hh hg hm g2 gK ⟨p,{r with state:=CQ st',pending:=AX pe'},h,hm,Ns hr,g2,rfl,h2,rfl,?_,g7,g8,g9,g10,g11⟩ (fun _ _=>⟨_,Ns hr⟩);exact B8 (fun _ _ h=>h) (fun _ h=>h) (fun b hb=>gK.other b (fun e=>g2 (e▸hb))) g6
def aa4{n:Nat}:∀{ps:List Nat} {vs:List AV} {us:List yh} {tm tm':Env} {tmps:Array yh},sn tm ps vs=FL tm'->aB O.ae m S w vs us->bV O m S w tm tmps->n<=tmps.size->A4 n ps=ycZ->
  ps.length=us.length/\bV O m S w tm' ((ps.zip us).foldl (fun t (x:Nat×yh)=>t.setIfInBounds x.1 x.2) tmps)/\((ps.zip us).foldl (fun t (x:Nat×yh)=>t.setIfInBounds x.1 x.2) tmps).size=tmps.size
 | [],[],us,tm,tm',tmps,h,hr,ht,hn,ha=>by
  simp only[sn,yc] at h;simp only[aB] at hr
  simp_all
 | [],_::_,us,tm,tm',tmps,h,hr,ht,hn,ha=>by simp[sn] at h
 | _::_,[],us,tm,tm',tmps,h,hr,ht,hn,ha=>by simp[sn] at h
 | p::ps,v::vs,us,tm,tm',tmps,h,hr,ht,hn,ha=>by
  simp only[sn] at h;obtain⟨u,t,rfl,h1,h2⟩:=hr;simp only[A4,yf] at ha;have hp:=qD.1 ha.1;have ht1:bV O m S w ((p,v)::tm) (tmps.setIfInBounds p u):=Tz (a:=⟨tmps,[]⟩) (d:=FL p) ht (fun i hi=>by injection hi with hi;show i<tmps.size;lia) h1
  have⟨g1,g2,g3⟩:=aa4 (n:=n) h h2 ht1 (by simpa using hn) ha.2
  simp_all
def aoe(ps:Array Tmp)(args:Array yh)(tmps:Array yh):(ps.zip args).foldl (fun tmps (x:Tmp×yh)=>tmps.setIfInBounds x.1 x.2) tmps=(ps.toList.zip args.toList).foldl (fun t (x:Nat×yh)=>t.setIfInBounds x.1 x.2) tmps:=by
 rw[<-Array.foldl_toList,Array.toList_zip]
def aki{r:uY}(h:w.heap[b]? =FL (.loop r))(jump:Option vA):
  (Instr.endRound b jump).run P w=.ok (.bool jump.isNone) {w with heap:=w.heap.setIfInBounds b (.loop {r with state:=if jump.isNone then .ready else .done,pending:=jump})}:=by
 simp only[Instr.endRound,Sem.run_bind,I7 h,Result.andThen_ok,Nx (P:=P) h (fun _ _ _=>by simp),Sem.run_pure]
def aj6{r:uY}(h:w.heap[b]? =FL (.loop r))(hs:r.state=.ready):
  (Instr.beginRound b).run P w=.ok () {w with heap:=w.heap.setIfInBounds b (.loop {r with state:=.busy})}:=by
 simp only[Instr.beginRound,Sem.run_bind,I7 h,Result.andThen_ok,Nx (P:=P) h (fun _ _ _=>by simp),hs,Sem.run_pure]
def aof{self:cl}(hS:∀v s ex s',self v s=FL (ex,s')->∀c h l k,(comp O.P (O.hint h) c l k).1=v->CH O h c s ex s'){xs:List AV}{v:AV}{an:Hp}{aU:Nat}(hv:lA self hp ct l xs=FL (v,an,aU)):adW O hp ct l xs v an aU:=by
 intro m S w args p hh hm eF;unfold lA at hv
 split at hv
 case h_2=>cases hv
 rename_i tm ps as_ body pe hg;have⟨r,h,g1,g2,g3,g4,g5,g6,g7,⟨ca,ka,g8⟩,⟨cb,kb,g9⟩,g10,g11⟩:=JE hh hg hm
 cases hb:sn tm ps xs with
 | none=>simp[hb] at hv
 | some tm'=>
  simp only[hb] at hv;have⟨b1,b2,b3⟩:=aa4 hb eF g6 g10 g11;rw[<-g7] at b1 b2 b3;have eG:args.size=r.params.size:=by
   grind
  let tmps:Array yh:=(r.params.zip args).foldl (fun tmps (x:Tmp×yh)=>tmps.setIfInBounds x.1 x.2) r.tmps
  have ags:tmps=(r.params.toList.zip args.toList).foldl (fun t (x:Nat×yh)=>t.setIfInBounds x.1 x.2) r.tmps:=aoe _ _ _;refine⟨r.fn,tmps,r.assign,r.body,?_,?_⟩
  .simp only [Instr.yield,Sem.run_bind,I7 g1,Result.andThen_ok,eG,ne_eq,ycV,xm,Sem.run_pure];rfl
  refine roundIn_of_wpIn (F:=Fence.wide) trivial ?_
  cases h1:self as_ ⟨tm',hp,ct,ct⟩ with
  | none=>simp[h1] at hv
  | some q=>
   have⟨ex1,s1⟩:=q
   cases ex1 with
   | ret=>simp[h1] at hv
   | exit id=>simp[h1] at hv
   | normal=>
    simp only[h1] at hv;have eC:=hS _ _ _ _ h1 r.assign h ca ka g8;have cU:∀w',cf m S w hp m S w' hp ct->AY (FL p.b) w':=fun w' hf=>NN hf (fun l hl=>⟨r,by injection hl with hl;subst hl;exact g1⟩)
    refine wpIn_mono (eC (FL p.b) w.heap.size m S w ⟨tmps,[]⟩ (cU w cf.refl) (by rw[ags];exact b2) hh (yu _) (by show _<=tmps.size;rw[ags,b3];exact g10) hh.gi (yu _) ⟨[],rfl,by simp,by simp⟩) ?_
    rintro e a1 w1 ⟨rfl,m1,S1,k1,k2,k3,k4,k5,k6,k7⟩;simp only[sC,Exit.then];have Dk:m1 l=FL p:=k5.old l p (hh.lt l p hm) hm
    split at hv
    case h_2=>cases hv
    rename_i jb Ab Da En rI jd;have⟨r1,iN,f1,f2,f3,f4,f5,f6,f7,f8,f9,f10,f11⟩:=JE k2 jd Dk;have XZ:=aj6 (P:=O.P) f1 f3;have⟨q1,q2⟩:=aa3 k2 jd Dk f1 (st':=1) (pe':=rI) (by lia)
    have ej:({r1 with state:=CQ 1,pending:=AX rI}:uY)={r1 with state:=.busy}:=by rw[<-f5];rfl
    rw[ej] at q1 q2;refine⟨_,XZ,?_⟩
    cases h2:self body ⟨s1.tm,aW s1.hp l (.lp jb Ab Da En 1 rI),s1.ct,s1.ct⟩ with
    | none=>simp[h2] at hv
    | some q=>
     have⟨ex,s2⟩:=q;simp only[h2] at hv;have Ao:=hS _ _ _ _ h2 r.body h cb kb g9
     have ayH:AY (FL p.b) {w1 with heap:=w1.heap.setIfInBounds p.b (.loop {r1 with state:=.busy})}:=fun l hl=>by
      grind
     have X0:bV O m1 S1 {w1 with heap:=w1.heap.setIfInBounds p.b (.loop {r1 with state:=.busy})} s1.tm a1.tmps:=
      B8 (fun _ _ h=>h) (fun _ h=>h) (fun b hb=>q2.still b hb) k1
     have ayI:(O.hint h).n<=a1.tmps.size:=by
      grind
     refine wpIn_mono (Ao (FL p.b) w.heap.size m1 S1 _ a1 ayH X0 q1 (yu _) ayI hh.gi (xi k5.size q2.size) (Ca k2 q2 k7)) ?_;rintro e a2 w2 ⟨rfl,m2,S2,j1,j2,j3,j4,j5,j6,j7⟩;have X1:m2 l=FL p:=j5.old l p (k2.lt l p Dk) Dk
     split at hv
     case h_2=>cases hv
     rename_i pL BA Mb KD pe2 HL;have⟨r2,Mw,d1,d2,d3,d4,d5,d6,d7,d8,d9,d10,d11⟩:=JE j2 HL X1;have ayJ:cf m S w hp m2 S2 w2 s2.hp ct:=(k5.trans (q2.zO k4)).trans (j5.zO k4);have agt:ct<=s2.ct:=xi k4 j4;have fin:∀(jump:Option vA) (st':Nat) (pe':zM),AX pe'=jump->CQ st'=(if jump.isNone then .ready else .done)->st'<=2->
       ∃v' w',(Instr.endRound p.b jump).run O.P w2=.ok v' w'/\AN O m S w hp ct (.bool jump.isNone) (aW s2.hp l (.lp pL BA Mb KD st' pe')) s2.ct (.returned v') w':=by
      intro jump st' pe' e1 e2 e3;have⟨z1,z2⟩:=aa3 j2 HL X1 d1 (st':=st') (pe':=pe') e3;rw[e1,e2] at z1 z2;exact⟨_,_,aki d1 jump,_,m2,S2,rfl,z1,agt,by simp[af],ayJ.trans (z2.zO agt)⟩
     cases ex with
     | normal=>
      simp only[yc,yo] at hv;obtain⟨rfl,rfl,rfl⟩:=hv;simp only[sC,roundPost];exact fin FM 0 .none rfl rfl (by lia)
     | ret=>
      simp only[UA,yc,yo] at hv;obtain⟨rfl,rfl,rfl⟩:=hv;simp only[sC,roundPost];exact fin (FL .ret) 2 .ret rfl rfl (by lia)
     | exit id=>
      simp only[UA,yc,yo] at hv;obtain⟨rfl,rfl,rfl⟩:=hv;simp only[sC,roundPost];exact fin (FL (.exit id)) 2 (.exit id) rfl rfl (by lia)
end
end
end
section
open Go
section
variable {O:bA}{self:cl}
def F0{P:xp}{f:tS}{fn:yaE}{args:Array yh}{w:yj}(hf:P.funcs[f]? =FL fn)(hb:fn.body.isSome=ycZ)(hn:fn.name≠ "runtime.NumGoroutine"):(callFunc f args).run P w=.ok (.enter f args) w:=by
 have h1:fn.body≠FM:=fun e=>by rw[e] at hb;cases hb
 simp[callFunc,program,Sem.run,hf,h1,hn]
def Sp{P:xp}{H:Hint}{fn:yaE}{F:aA}(h:Gh P H fn=FL F):∃c,fn.body=FL c/\F.body=(comp P H c 0 0).1/\qC P fn.results.toList=FL F.eA/\H.n<=fn.ntmps:=by
 unfold Gh at h
 split at h
 .rename_i c rs h1 h2
  cases hb:yE H.n fn.ntmps with
  | false=>rw[hb] at h;cases h
  | true=>
   rw[hb] at h;simp only[yx,yc] at h;subst h
   simp_all
 .cases h
def aog{m:Mp}{S:Nat->Prop}{w:yj}{hp:Hp}{ct:Nat}{tm:Env}{a:Act}{ro:Option Nat}(fn:tS)(ps:Array Tmp)(assign body:vA){as_ b':VC}{h:Nat}(hh:aS O m S w hp ct)(ht:bV O m S w tm a.tmps)(cU:AY ro w)(X2:Db O.P (O.hint h) as_ assign)(X3:Db O.P (O.hint h) b' body)(hn:(O.hint h).n<=a.tmps.size)(jc:A4 (O.hint h).n ps.toList=ycZ){lo:Nat}(fF:lo<=w.heap.size)(bZ:Marks lo S w a.defers):
  ∃l mark w1,(Instr.enterLoop fn a.tmps ps assign body ro).run O.P w=.ok (l,mark) w1/\aS O (fL m ct ⟨l,0,0,0⟩) S w1 ((ct,.lp tm ps.toList as_ b' 0 .none)::hp) (ct+1)/\
   cf m S w hp (fL m ct ⟨l,0,0,0⟩) S w1 ((ct,.lp tm ps.toList as_ b' 0 .none)::hp) ct/\m ct=FM/\Marks lo S w1 (mark++a.defers)/\w.heap.size<=l:=by
 have bK:m ct=FM:=by
  cases hq:m ct with
  | none=>rfl
  | some p=>have:=hh.lt ct p hq;omega
 have lay:∀(w':yj) (d:Nat),Calm w w'->Marks lo S w' a.defers->
   aS O (fL m ct ⟨w'.heap.size,0,0,0⟩) S (w'.alloc (.loop {state:=.ready,pending:=FM,fn:=fn,tmps:=a.tmps,params:=ps,assign:=assign,body:=body,defers:=d})) ((ct,.lp tm ps.toList as_ b' 0 .none)::hp) (ct+1)/\
   cf m S w hp (fL m ct ⟨w'.heap.size,0,0,0⟩) S (w'.alloc (.loop {state:=.ready,pending:=FM,fn:=fn,tmps:=a.tmps,params:=ps,assign:=assign,body:=body,defers:=d})) ((ct,.lp tm ps.toList as_ b' 0 .none)::hp) ct:=by
  intro w' d hw agu;have iN:aS O m S w' hp ct:=B9 hh hw (fun _ h=>h) (fun _ h=>.inl h) (fun b hb=>yP (hh.slt b hb) hw.size);have rJ:cf m S w hp m S w' hp ct:=AO hh hw (fun _ h=>h) (fun _ h=>.inl h);have hg:jn hp ct ((ct,.lp tm ps.toList as_ b' 0 .none)::hp) (ct+1):=by
   refine⟨fun id o ho=>⟨o,?_,jA.refl o⟩,by omega,fun id o ho=>?_,fun id o ho hi=>?_⟩
   .rw [fH,yt (by have:=hh.aH id o ho;omega)];exact ho
   .rw [fH] at ho;by_cases hc:ct=id
    .omega
    .simp only [hc,xm] at ho;have:=hh.aH id o ho;omega
   .rw [fH,yt (by omega)] at ho;exact⟨o,ho⟩
  have cG:∀i q,ak ((ct,Obj.lp tm ps.toList as_ b' 0 .none)::hp) i=FL q->i≠ct->ak hp i=FL q:=fun i q h hi=>by
   rw[fH,yt (fun e=>hi e.symm)] at h;exact h
  have Mw:aS O m S w' ((ct,.lp tm ps.toList as_ b' 0 .none)::hp) (ct+1):=by
   have eh:∀id p,m id=FL p->id≠ct:=fun id p hm e=>by have:=hh.lt id p hm;omega
   exact⟨fun id o p ho hm=>iN.obj id o p (cG id o ho (eh id p hm)) hm,fun id p hm=>by have:=hh.lt id p hm;omega,
    fun i j oi oj pi pj hi hj bK gN e=>iN.inj i j oi oj pi pj (cG i oi hi (eh i pi bK)) (cG j oj hj (eh j pj gN)) bK gN e,iN.slt,iN.blt,iN.low,iN.mM,iN.gi,hg.lt⟩
  have pP:fk O (fL m ct ⟨w'.heap.size,0,0,0⟩) S (w'.alloc (.loop {state:=.ready,pending:=FM,fn:=fn,tmps:=a.tmps,params:=ps,assign:=assign,body:=body,defers:=d})) ct (.lp tm ps.toList as_ b' 0 .none):=by
   refine⟨⟨w'.heap.size,0,0,0⟩,_,h,dE,heap_alloc_new w' _,?_,rfl,by omega,rfl,?_,rfl,X2,X3,hn,jc⟩
   .intro hS
    have:=iN.slt _ hS
    simp at this
   .exact B8 (jF bK) (fun _ h=>h) (fun b hb=>(I9 iN _ b hb).trans (hw.same b (hh.slt b hb))) ht
  obtain⟨S',k1,k2,k3⟩:=Tp (i:=ct) (p:=⟨w'.heap.size,0,0,0⟩) Mw bK (by omega) rfl (fun o ho=>by
   rw[fH] at ho;simp only[xA,yc] at ho;subst ho
   exact .inl ⟨pP,by simp[jj]⟩)
  have k1':aS O (fL m ct ⟨w'.heap.size,0,0,0⟩) S (w'.alloc (.loop {state:=.ready,pending:=FM,fn:=fn,tmps:=a.tmps,params:=ps,assign:=assign,body:=body,defers:=d})) ((ct,.lp tm ps.toList as_ b' 0 .none)::hp) (ct+1):=by
   have Mi:∀id q,m id=FL q->q.b≠w'.heap.size:=fun id q hq=>by have:=iN.blt id q hq;lia
   refine⟨?_,k1.lt,k1.inj,fun b hb=>k1.slt b (k2 b hb),k1.blt,k1.low,k1.mM,k1.gi,k1.aH⟩;intro id o q ho hm;by_cases hc:id=ct
   .subst hc;rw[fH] at ho
    grind
   .rw [ep hc] at hm;exact zn (jF bK) (fun _ h=>h) (I9 iN _) (fun q' bO=>alloc_old (iN.blt id q' bO)) (fun _ _ h=>h) (iN.obj id o q (cG id o ho hc) hm)
  refine⟨k1',rJ.trans ⟨rfl,rfl,rfl,by simp,fun b hb _=>alloc_old hb,fun _ h=>h,fun b hb=>I9 iN _ b hb,fun b hb=>.inl hb,?_,fun i q _ hq=>jF bK i q hq,fun b r hb=>⟨r,(alloc_old (xv.1 hb).1).trans hb⟩⟩⟩;rintro b ⟨i,o,q,g1,g2,g3⟩;by_cases hc:i=ct
  .subst hc;rw[dE] at g2
   grind
  .rw [ep hc] at g2;exact .inl ⟨i,o,q,cG i o g1 hc,g2,g3⟩
 cases ro with
 | none=>
  have KG:Calm w (w.alloc (.deferred (FL []))):=⟨rfl,rfl,rfl,by simp,fun b hb=>alloc_old hb⟩;have⟨rs,r1,r2,r3⟩:=bZ;have V2:Marks lo S (w.alloc (.deferred (FL []))) a.defers:=⟨rs,r1,r2,fun r hr=>⟨(alloc_old (xv.1 (r3 r hr).1).1).trans (r3 r hr).1,(r3 r hr).2⟩⟩;have⟨k1,k2⟩:=lay (w.alloc (.deferred (FL []))) w.heap.size KG V2
  refine⟨(w.alloc (.deferred (FL []))).heap.size,[{target:=.collected w.heap.size,args:=#[]}],_,?_,k1,k2,bK,?_,by simp⟩
  .simp [Instr.enterLoop,newObj,Sem.run]
  .have hold:∀(b:Nat) (x:yal),(w.alloc (.deferred (FL []))).heap[b]? =FL x->((w.alloc (.deferred (FL []))).alloc (.loop {state:=.ready,pending:=FM,fn:=fn,tmps:=a.tmps,params:=ps,assign:=assign,body:=body,defers:=w.heap.size})).heap[b]? =FL x:=fun b x hb=>
    (alloc_old (xv.1 hb).1).trans hb
   refine⟨w.heap.size::rs,by rw[r1];rfl,?_,?_⟩
   .grind
   .intro r hr;rcases xu.1 hr with rfl | hr
    .exact ⟨hold _ _ (heap_alloc_new w _),fun hs=>by have:=hh.slt _ hs;lia,fF⟩
    .exact ⟨hold _ _ ((alloc_old (xv.1 (r3 r hr).1).1).trans (r3 r hr).1),(r3 r hr).2⟩
 | some l0=>
  have⟨r0,jU⟩:=cU l0 rfl;have⟨k1,k2⟩:=lay w r0.defers Calm.refl bZ;refine⟨w.heap.size,[],_,?_,k1,k2,bK,?_,yu _⟩
  .simp [Instr.enterLoop,I7 jU,newObj,Sem.run]
  .exact Ca hh k2 bZ
def awW(hO:iy O)(hC:oV O self){h:Nat}{f:xt}{ps:Array Tmp}{assign body:vA}{as_ b':VC}(X2:Db O.P (O.hint h) as_ assign)(X3:Db O.P (O.hint h) b' body)(jc:A4 (O.hint h).n ps.toList=ycZ){s:St}{ex:Ex}{s':St}(hv:bD O.prog O.aI self (.rf (aJ (O.hint h) f) ps.toList as_ b') s=FL (ex,s')):CH O h (.rangeFunc f ps assign body) s ex s':=by
 intro ro lo m S w a cU ht hh hb hn bc fF bZ;simp only[bD] at hv
 split at hv
 case h_2=>cases hv
 rename_i n first cap hx
 split at hv
 case h_1=>cases hv
 rename_i hL
 cases he:jl O.prog O.aI self ((s.ct,.lp s.tm ps.toList as_ b' 0 .none)::s.hp) (s.ct+1) n (first++(.fn (.y s.ct) [] []::cap)) with
 | none=>simp[he] at hv
 | some q=>
  have⟨v,aZ,pT⟩:=q;simp only[he] at hv
  split at hv
  case h_2=>cases hv
  rename_i pL BA Mb KD st pe HL
  cases aM:yq st 1 with
  | true=>rw[aM] at hv;cases hv
  | false=>
   rw[aM] at hv;simp only[yR] at hv;refine wpIn_rangeFunc (fun fn _=>?_);have⟨l,mark,w1,e1,e2,e3,e4,e5,e6⟩:=aog (ro:=ro) fn ps assign body hh ht cU X2 X3 hn jc fF bZ;have rf:=bW (hO.hint h) ht f;rw[hx] at rf;simp only[af] at rf;have⟨fi,ca,hf,r2,r3⟩:=rf;have hle:=jF e4 (p:=⟨l,0,0,0⟩);have G1:fY S w w1:=fun b hb=>e3.still b hb
   have eF:aB O.ae (fL m s.ct ⟨l,0,0,0⟩) S w1 (first++(.fn (.y s.ct) [] []::cap)) (fi++#[Value.func (.yield l) #[] #[]]++ca).toList:=by
    have:=mz (ir hle (fun _ h=>h) G1 _ _ r2) (mz (a:=[.fn (.y s.ct) [] []]) (x:=[Value.func (.yield l) #[] #[]]) (by
     simp only[aB]
     exact⟨_,[],rfl,by simp only[af];exact⟨_,dE,rfl⟩,rfl⟩) (ir hle (fun _ h=>h) G1 _ _ r3))
    grind
   have Vc:=hC.heap _ _ _ _ _ _ _ he _ S w1 _ e2 eF;have hP:∃F,O.prog n=FL F:=by
    unfold jl at he;rw[hL] at he
    cases hq:O.prog n with
    | none=>simp[hq] at he
    | some F=>exact⟨F,rfl⟩
   have⟨F,hF⟩:=hP;have⟨fn',q1,q2,q3⟩:=hO.prog n F hF;have⟨cb,q4,_⟩:=Sp q2;have fM:(callFunc (O.ae n) (fi++#[Value.func (.yield l) #[] #[]]++ca)).run O.P w1=.ok (.enter (O.ae n) (fi++#[Value.func (.yield l) #[] #[]]++ca)) w1:=F0 q1 (by rw[q4];rfl) q3
   refine⟨l,mark,w1,{target:=.fn (.func (O.ae n)) ca,args:=fi++#[Value.func (.yield l) #[] #[]]},w1,O.ae n,fi++#[Value.func (.yield l) #[] #[]]++ca,w1,e1,?_,fun _ _=>trivial,?_,fun hd=>by simp[WF,Fence.wide] at hd,?_⟩
   .show Sem.run O.P (Deferred.ofValue (a.eval f) _) w1=_
    rw[hf];simp[Deferred.ofValue,Act.eval]
   .simp only [invoke];exact fM
   .rcases Vc with ⟨_,Vc⟩ | ⟨u,w',h1,_⟩
    case inr=>rw[fM] at h1;cases h1
    have asX:CallsIn (WF ro) 0 O.P (O.ae n) (fi++#[Value.func (.yield l) #[] #[]]++ca) w1 (AN O (fL m s.ct ⟨l,0,0,0⟩) S w1 ((s.ct,.lp s.tm ps.toList as_ b' 0 .none)::s.hp) (s.ct+1) v aZ pT):=Vc;refine CallsIn.mono asX ?_;rintro e w3 ⟨u,m',S',rfl,k1,k2,k3,k4⟩;have iK:m' s.ct=FL ⟨l,0,0,0⟩:=k4.old s.ct _ (yag _) dE;have⟨r,Mw,d1,d2,d3,d4,d5,d6,_⟩:=JE k1 HL iK;have rL:(r.state==LoopState.busy)=yda:=by
     rw[d3];rcases st with _ | _ | st
     .rfl
     .simp_all
     .have:st=0:=by lia
      subst this;rfl
    have gK:=FO w3 l (.loop {r with state:=.exhausted});have hdl:=abN k1 s.ct;have pR:¬ef m' (cT aZ s.ct) l:=ZH k1 HL iK
    have z1:aS O m' S' {w3 with heap:=w3.heap.setIfInBounds l (.loop {r with state:=.exhausted})} (VE.cT aZ s.ct) pT:=aag hdl gK d2 pR (by have:=hh.gi;lia)
    have z2:cf m' S' w3 aZ m' S' {w3 with heap:=w3.heap.setIfInBounds l (.loop {r with state:=.exhausted})} (VE.cT aZ s.ct) s.base:=by
     refine⟨rfl,rfl,rfl,by rw[gK.size];exact yu _,fun b _ hb=>gK.other b (fun e=>hb (e▸JP HL iK)),fun _ h=>h,fun b hb=>gK.other b (fun e=>d2 (e▸hb)),fun b hb=>.inl hb,fun b hb=>.inl (ac5 hb),fun _ _ _ h=>h,fun b x hb=>?_⟩
     grind
    have V3:cf m S w s.hp m' S' {w3 with heap:=w3.heap.setIfInBounds l (.loop {r with state:=.exhausted})} (VE.cT aZ s.ct) s.base:=
     ((e3.zO hb).trans (k4.zO (by lia))).trans z2
    have PR:(Instr.endLoop l).run O.P w3=.ok (AX pe) {w3 with heap:=w3.heap.setIfInBounds l (.loop {r with state:=.exhausted})}:=by
     simp only[Instr.endLoop,Sem.run_bind,I7 d1,Result.andThen_ok,rL,yC,xm,Sem.run_pure,Nx (P:=O.P) d1 (fun _ _ _=>by simp),d5]
    have agu:Marks lo S' {w3 with heap:=w3.heap.setIfInBounds l (.loop {r with state:=.exhausted})} (mark++a.defers):=Ca k1 z2 (Ca e2 k4 e5)
    have BJ:bV O m' S' {w3 with heap:=w3.heap.setIfInBounds l (.loop {r with state:=.exhausted})} s.tm a.tmps:=by
     refine B8 (fun id p hp=>?_) V3.sub (fun b hb=>V3.still b hb) ht;have h1:=hh.lt id p hp;exact k4.old id p (by lia) (hle id p hp)
    have post:∀X4,s'={s with hp:=VE.cT aZ s.ct,ct:=pT}->ex=X4->eR O m S w s ex s' a.tmps.size lo (sC X4) {a with defers:=mark++a.defers} {w3 with heap:=w3.heap.setIfInBounds l (.loop {r with state:=.exhausted})}:=by
     rintro X4 rfl rfl;exact⟨rfl,m',S',BJ,z1,rfl,by show s.base<=pT;lia,V3,rfl,agu⟩
    refine⟨_,_,PR,?_⟩
    cases pe with
    | none=>
     simp only[yc,yo] at hv;exact post .normal hv.2.symm hv.1.symm
    | ret=>
     simp only[yc,yo] at hv;exact wpIn_ret (post .ret hv.2.symm hv.1.symm)
    | exit id=>
     simp only[yc,yo] at hv;exact wpIn_exit (post (.exit id) hv.2.symm hv.1.symm)
end
end
def Le(f g:cl):Prop:=∀c s r,f c s=FL r->g c s=FL r
section
variable {P:aF}{L:Lib}{f g:cl}
def Se(h:Le f g)(n:Nat)(aq:List AV)(r:AV)(hr:bL P L f n aq=FL r):bL P L g n aq=FL r:=by
 unfold bL at hr ⊢
 cases hL:L.pure n with
 | some sp=>simpa only[hL] using hr
 | none=>
  simp only[hL] at hr ⊢
  cases hP:P n with
  | none=>simp[hP] at hr
  | some F=>
   simp only[hP] at hr ⊢
   cases hf:f F.body ⟨fI 0 aq,[],0,0⟩ with
   | none=>simp[hf] at hr
   | some q=>rw[h _ _ _ hf];simpa only[hf] using hr
def Sq(h:Le f g)(hp:Hp)(ct:Nat)(n:Nat)(aq:List AV)(r:AV×Hp×Nat)(hr:jl P L f hp ct n aq=FL r):jl P L g hp ct n aq=FL r:=by
 unfold jl at hr ⊢
 cases hL:L.heap n with
 | some sp=>simpa only[hL] using hr
 | none=>
  simp only[hL] at hr ⊢
  cases hP:P n with
  | none=>simp[hP] at hr
  | some F=>
   simp only[hP] at hr ⊢
   cases hf:f F.body ⟨fI 0 aq,hp,ct,ct⟩ with
   | none=>simp[hf] at hr
   | some q=>rw[h _ _ _ hf];simpa only[hf] using hr
def ZA(h:Le f g)(hp:Hp)(ct:Nat)(l:Nat)(xs:List AV)(r:AV×Hp×Nat)(hr:lA f hp ct l xs=FL r):lA g hp ct l xs=FL r:=by
 unfold lA at hr ⊢
 cases hl:ak hp l with
 | none=>simp[hl] at hr
 | some o=>
  simp only[hl] at hr ⊢
  split at hr
  .rename_i tm ps as_ body pe sZ
   cases hb:sn tm ps xs with
   | none=>simp[hb] at hr
   | some tm'=>
    simp only[hb] at hr ⊢
    cases h1:f as_ ⟨tm',hp,ct,ct⟩ with
    | none=>simp[h1] at hr
    | some q=>
     rw[h _ _ _ h1];simp only[h1] at hr ⊢
     split at hr
     .rename_i s1 ayK
      split at hr
      .rename_i jb Ab Da En rI ayL
       cases h2:f body ⟨s1.tm,aW s1.hp l (.lp jb Ab Da En 1 rI),s1.ct,s1.ct⟩ with
       | none=>simp[h2] at hr
       | some q2=>rw[h _ _ _ h2];simpa only[h2] using hr
      .simp at hr
     .simp at hr
  .simp at hr
def ZP(h:Le f g)(hp:Hp)(ct:Nat)(m:Md)(fv:AV)(xs:List AV)(r:AV×Hp×Nat)(hr:eQ P L f hp ct m fv xs=FL r):eQ P L g hp ct m fv xs=FL r:=by
 unfold eQ at hr ⊢
 split at hr
 .rename_i n first cap
  cases m with
  | pure=>
   cases hz:cE deep hp (first++(xs++cap)) with
   | none=>simp[hz] at hr
   | some q=>
    simp only[hz] at hr ⊢
    cases hc:bL P L f n q.1 with
    | none=>simp[hc] at hr
    | some u=>rw[Se h n q.1 u hc];simpa only[hc] using hr
  | own=>
   cases hz:cE deep hp (first++(xs++cap)) with
   | none=>simp[hz] at hr
   | some q=>
    simp only[hz] at hr ⊢
    cases hc:bL P L f n q.1 with
    | none=>simp[hc] at hr
    | some u=>rw[Se h n q.1 u hc];simpa only[hc] using hr
  | heap=>exact Sq h _ _ _ _ _ hr
  | dyn=>
   cases hz:aG (first++(xs++cap)) with
   | true=>
    simp only[hz,yx] at hr ⊢
    cases hc:bL P L f n (first++(xs++cap)) with
    | none=>simp[hc] at hr
    | some u=>rw[Se h n _ u hc];simpa only[hc] using hr
   | false=>
    simp only[hz,yR] at hr ⊢;exact Sq h _ _ _ _ _ hr
 .split at hr
  .exact ZA h _ _ _ _ _ hr
  .exact ZA h _ _ _ _ _ hr
  .simp at hr
 .simp at hr
def aa5(h:Le f g)(tm:Env)(hp:Hp)(ct:Nat)(o:Op)(r:AV×Hp×Nat)(hr:aY P L f tm hp ct o=FL r):aY P L g tm hp ct o=FL r:=by
 unfold aY at hr ⊢
 split at hr
 .exact ZP h _ _ _ _ _ _ hr
 .rename_i rs fv xs
  cases hc:eQ P L f hp ct .dyn (ay tm fv) (dG tm xs) with
  | none=>simp[hc] at hr
  | some q=>rw[ZP h _ _ _ _ _ _ hc];simpa only[hc] using hr
 all_goals simpa only using hr
def Ny(h:Le f g):∀(ops:List aR) (s s':St),de P L f ops s=FL s'->de P L g ops s=FL s'
 | [],s,s',hr=>by simpa only[de] using hr
 | ⟨d,gd,o⟩::r,s,s',hr=>by
  simp only[de] at hr ⊢
  split at hr
  .rename_i hw
   cases ho:aY P L f s.tm s.hp s.ct o with
   | none=>simp[ho] at hr
   | some q=>rw[aa5 h _ _ _ _ _ ho];simp only[ho] at hr ⊢;exact Ny h r _ _ hr
  .rename_i hw
   (try simp only[hw]);exact Ny h r _ _ hr
  .simp at hr
def rY(h:Le f g):∀(c:VC) (s:St) (r:Ex×St),bD P L f c s=FL r->bD P L g c s=FL r
 | .skip,s,r,hr=>by simpa only[bD] using hr
 | .ml ops,s,r,hr=>by
  simp only[bD] at hr ⊢
  cases ho:de P L f ops s with
  | none=>simp[ho] at hr
  | some s'=>rw[Ny h _ _ _ ho];simpa only[ho] using hr
 | .seq a b,s,r,hr=>by
  simp only[bD] at hr ⊢
  cases ha:bD P L f a s with
  | none=>simp[ha] at hr
  | some q=>
   rw[rY h a s q ha];obtain⟨ex,s1⟩:=q
   cases ex with
   | normal=>simp only[ha] at hr ⊢;exact rY h b s1 r hr
   | ret=>simpa only[ha] using hr
   | exit id=>simpa only[ha] using hr
 | .cond x a b,s,r,hr=>by
  simp only[bD] at hr ⊢
  split at hr
  .rename_i t ht
   cases t with
   | true=>simp only[yx] at hr ⊢;exact rY h a s r hr
   | false=>simp only[yR] at hr ⊢;exact rY h b s r hr
  .simp at hr
 | .ew id a,s,r,hr=>by
  simp only[bD] at hr ⊢
  cases ha:bD P L f a s with
  | none=>simp[ha] at hr
  | some q=>rw[rY h a s q ha];simpa only[ha] using hr
 | .kp live,s,r,hr=>by simpa only[bD] using hr
 | .fz ts,s,r,hr=>by simpa only[bD] using hr
 | .loop live a,s,r,hr=>by
  simp only[bD] at hr ⊢
  cases ha:bD P L f a (bk live s) with
  | none=>simp[ha] at hr
  | some q=>
   rw[rY h a _ q ha];obtain⟨ex,s1⟩:=q
   cases ex with
   | normal=>simp only[ha] at hr ⊢;exact h _ _ _ hr
   | ret=>simpa only[ha] using hr
   | exit id=>simpa only[ha] using hr
 | .rf fv ps as_ body,s,r,hr=>by
  simp only[bD] at hr ⊢
  split at hr
  .rename_i n first cap hx
   split at hr
   .grind
   .rename_i hL
    cases hc:jl P L f ((s.ct,.lp s.tm ps as_ body 0 .none)::s.hp) (s.ct+1) n (first++(.fn (.y s.ct) [] []::cap)) with
    | none=>simp[hc] at hr
    | some q=>rw[Sq h _ _ _ _ _ hc];simpa only[hc] using hr
  .simp at hr
 | .exit id,s,r,hr=>by simpa only[bD] using hr
 | .ret,s,r,hr=>by simpa only[bD] using hr
end
def JF(P:aF)(L:Lib)(c:VC)(s:St):ev P L 0 c s=FM:=rfl
def Ou(P:aF)(L:Lib)(n:Nat):ev P L (n+1)=bD P L (ev P L n):=rfl
def aeO(P:aF)(L:Lib):∀n,Le (ev P L n) (ev P L (n+1))
 | 0=>fun c s r h=>by rw[JF] at h;cases h
 | n+1=>fun c s r h=>by
  exact rY (aeO P L n) c s r h
def Uh(P:aF)(L:Lib){n m:Nat}(h:n<=m):Le (ev P L n) (ev P L m):=by
 induction h with
 | refl=>exact fun _ _ _ h=>h
 | step _ ih=>exact fun c s r hr=>aeO P L _ c s r (ih c s r hr)
section
open Go
section
variable {ex:Ex}{lo n:Nat}{s:St}{w w':yj}
section
variable {O:bA}{self:cl}
def eR.none{m:Mp}{S:Nat->Prop}{s':St}{a:Act}(l:Nat):¬eR O m S w s ex s' n lo (.goto l) a w':=by
 rintro⟨h,_⟩;cases ex<;>cases h
def eR.then{m m1:Mp}{S S1:Nat->Prop}{w1:yj}{s1 s2:St}{a':Act}{e:uD}{ex1:Ex}(h1:s1.base=s.base)(hf:cf m S w s.hp m1 S1 w1 s1.hp s.base)(h:eR O m1 S1 w1 s1 ex s2 n lo e a' w'):eR O m S w s ex s2 n lo e a' w':=by
 have⟨h2,m',S',k1,k2,k3,k4,k5,k6,k7⟩:=h;rw[h1] at k3 k4 k5;exact⟨h2,m',S',k1,k2,k3,k4,hf.trans k5,k6,k7⟩
def eR.bm{m:Mp}{S:Nat->Prop}{s1:St}{a':Act}{e:uD}(live:List Nat)(h:eR O m S w s ex s1 n lo e a' w'):eR O m S w s ex (bk live s1) n lo e a' w':=by
 have⟨h2,m',S',k1,k2,k3,k4,k5,k6,k7⟩:=h;have⟨m2,g1,g2,g3,g4,g5⟩:=SA (live:=live) k1 k2 (by rw[k3];exact k4)
 rw[k3] at g3 g4 g5;exact⟨h2,m2,S',g1,g2,g3,g4,k5.trans g5,k6,Ca k2 g5 k7⟩
def aeP{m:Mp}{w:yj}{tmps:Array yh}:∀{ts:List Nat} {s s1:St} {S:Nat->Prop},bV O m S w s.tm tmps->aS O m S w s.hp s.ct->qS ts s=FL s1->
  ∃S1,bV O m S1 w s1.tm tmps/\aS O m S1 w s1.hp s1.ct/\s1.base=s.base/\s1.ct=s.ct/\∀base,cf m S w s.hp m S1 w s1.hp base
 | [],s,s1,S,ht,hh,h=>by
  simp only[qS,yc] at h;subst h;exact⟨S,ht,hh,rfl,rfl,fun _=>cf.refl⟩
 | t::r,s,s1,S,ht,hh,h=>by
  simp only[qS] at h
  cases hz:freeze deep s.hp (aj s.tm t) with
  | none=>simp[hz] at h
  | some q=>
   have⟨v,hp⟩:=q;simp only[hz] at h;have⟨h1,h2,h3⟩:=SU (O:=O) hz;have hg:jn s.hp s.ct hp s.ct:=⟨h1,yu _,fun id o ho=>(by
     have:=h2 id
     rw[ho] at this
     cases hq:ak s.hp id with
     | none=>rw[hq] at this;simp at this
     | some o'=>exact hh.aH id o' hq),fun id o ho _=>(by
     have:=h2 id
     rw[ho] at this
     cases hq:ak s.hp id with
     | none=>rw[hq] at this;simp at this
     | some o'=>exact⟨o',rfl⟩)⟩
   have⟨S',k1,k2,k3,k4⟩:=NZ hh hg;have BJ:bV O m S' w ((t,v)::s.tm) tmps:=by
    intro i;simp only[aj]
    cases hb:yq t i with
    | true=>
     have:=yg hb
     subst this;exact (h3 hp m S' w s.ct cR.refl k1).1 _ (mB (fun _ _ h=>h) k2 (fun _ _=>rfl) _ _ (ht t))
    | false=>
     exact mB (fun _ _ h=>h) k2 (fun _ _=>rfl) _ _ (ht i)
   have⟨S1,g1,g2,g3,g4,g5⟩:=aeP (s:={s with tm:=(t,v)::s.tm,hp:=hp}) BJ k1 h;exact⟨S1,g1,g2,g3,g4,fun base=>(k4 base).trans (g5 base)⟩
def adb(hO:iy O)(n:Nat)(hC:∀k,k<=n->oV O (ev O.prog O.aI k))(h:Nat):∀(c:vA) (l k:Nat) (j:Nat),j<=n->∀(s:St) (ex:Ex) (s':St),
  bD O.prog O.aI (ev O.prog O.aI j) (comp O.P (O.hint h) c l k).1 s=FL (ex,s')->CH O h c s ex s':=by
 have refl:∀{s:St} {ex:Ex} {m:Mp} {S:Nat->Prop} {w:yj} {a:Act} {lo:Nat},bV O m S w s.tm a.tmps->aS O m S w s.hp s.ct->s.base<=s.ct->Marks lo S w a.defers->eR O m S w s ex s a.tmps.size lo (sC ex) a w:=
  fun h1 h2 h3 h4=>⟨rfl,_,_,h1,h2,rfl,h3,cf.refl,rfl,h4⟩
 have V4:∀{self:cl} {s:St} {r:Ex×St},bD O.prog O.aI self (.ml [⟨FM,FM,bad⟩]) s=FL r->False:=by
  intro self s r hv;simp[bD,de,bad,aY,eQ,ay] at hv
 intro c
 induction c with
 | skip=>
  intro l k j hj s ex s' hv ro lo m S w a cU ht hh hb hn bc fF bZ;simp only[comp,bD,yc,yo] at hv;obtain⟨rfl,rfl⟩:=hv;exact wpIn_skip (refl ht hh hb bZ)
 | label x=>
  intro l k j hj s ex s' hv ro lo m S w a cU ht hh hb hn bc fF bZ;simp only[comp,bD,yc,yo] at hv;obtain⟨rfl,rfl⟩:=hv;exact wpIn_label (refl ht hh hb bZ)
 | exit id=>
  intro l k j hj s ex s' hv ro lo m S w a cU ht hh hb hn bc fF bZ;simp only[comp,bD,yc,yo] at hv;obtain⟨rfl,rfl⟩:=hv
  exact wpIn_exit (refl (ex:=.exit id) ht hh hb bZ)
 | ret=>
  intro l k j hj s ex s' hv ro lo m S w a cU ht hh hb hn bc fF bZ;simp only[comp,bD,yc,yo] at hv;obtain⟨rfl,rfl⟩:=hv
  exact wpIn_ret (refl (ex:=.ret) ht hh hb bZ)
 | goto x=>intro l k j hj s ex s' hv;exact (V4 (by simpa only[comp] using hv)).elim
 | refuse x=>intro l k j hj s ex s' hv;exact (V4 (by simpa only[comp] using hv)).elim
 | region id ops d=>
  intro l k j hj s ex s' hv;simp only[comp] at hv;generalize hq:Oj O.P (O.hint h) ops d k=q at hv;have⟨r,k'⟩:=q;have main:∀{s s':St} {ex:Ex},bD O.prog O.aI (ev O.prog O.aI j) (.ml r) s=FL (ex,s')->CH O h (.region id ops d) s ex s':=by
   intro s s' ex hv;simp only[bD] at hv
   cases ho:de O.prog O.aI (ev O.prog O.aI j) r s with
   | none=>simp[ho] at hv
   | some s1=>
    simp only[ho,yc,yo] at hv;obtain⟨rfl,rfl⟩:=hv;exact asW hO (hC j hj) h id ops d k (by rw[hq];exact ho)
  simp only at hv
  split at hv
  .exact main hv
  .rename_i t ts _;simp only[bD] at hv
   cases hf:qS (t::ts) s with
   | none=>simp[hf] at hv
   | some s1=>
    simp only[hf] at hv;intro ro lo m S w a cU ht hh hb hn bc fF bZ;have⟨S1,g1,g2,g3,g4,g5⟩:=aeP ht hh hf;have h1:=main (s:=s1) (by simpa only[bD] using hv) ro lo m S1 w a cU g1 g2 (by rw[g3,g4];exact hb) hn bc fF (Ca hh (g5 s.base) bZ)
    refine wpIn_mono h1 (fun e a' w' hp=>?_)
    exact eR.then (ex1:=.normal) g3 (g5 s.base) hp
 | seq x y ihx ihy=>
  intro l k j hj s ex s' hv ro lo m S w a cU ht hh hb hn bc fF bZ;simp only[comp] at hv;generalize Ar:comp O.P (O.hint h) x l k=qx at hv;have⟨x',l1,k1⟩:=qx;simp only at hv;generalize Mx:comp O.P (O.hint h) y l1 k1=qy at hv;have⟨y',l2,k2⟩:=qy;simp only[bD] at hv
  cases hx:bD O.prog O.aI (ev O.prog O.aI j) x' s with
  | none=>simp[hx] at hv
  | some r=>
   have⟨ex1,s1⟩:=r;have h1:=ihx l k j hj s ex1 s1 (by rw[Ar];exact hx) ro lo m S w a cU ht hh hb hn bc fF bZ
   refine wpIn_seq (wpIn_mono h1 ?_);rintro e a1 w1 ⟨rfl,m1,S1,g1,g2,g3,g4,g5,g6,g7⟩;have stop:ex1≠.normal->ex=ex1/\s'=s1:=by
    intro eh;rw[hx] at hv
    cases ex1 with
    | normal=>exact absurd rfl eh
    | ret=>simp only[yc,yo] at hv;exact⟨hv.1.symm,hv.2.symm⟩
    | exit id=>simp only[yc,yo] at hv;exact⟨hv.1.symm,hv.2.symm⟩
   cases ex1 with
   | normal=>
    simp only[hx] at hv;simp only[sC,Exit.then];have h2:=ihy l1 k1 j hj s1 ex s' (by rw[Mx];exact hv) ro lo m1 S1 w1 a1 (NN g5 cU) g1 g2 (by rw[g3];exact g4) (by rw[g6];exact hn) bc (xi fF g5.size) g7
    rw[g6] at h2
    exact wpIn_mono h2 (fun e a' w' hp=>eR.then (ex1:=.normal) g3 g5 hp)
   | ret=>
    obtain⟨rfl,rfl⟩:=stop (by simp);exact⟨rfl,m1,S1,g1,g2,g3,g4,g5,g6,g7⟩
   | exit id=>
    obtain⟨rfl,rfl⟩:=stop (by simp);exact⟨rfl,m1,S1,g1,g2,g3,g4,g5,g6,g7⟩
 | cond x p q ihp ihq=>
  intro l k j hj s ex s' hv ro lo m S w a cU ht hh hb hn bc fF bZ;simp only[comp] at hv;generalize Ar:comp O.P (O.hint h) p (l+1) k=qx at hv;have⟨p',l1,k1⟩:=qx;simp only at hv;generalize Mx:comp O.P (O.hint h) q l1 k1=qy at hv;have⟨q',l2,k2⟩:=qy;simp only at hv;have main:∀(ex:Ex) (s':St),bD O.prog O.aI (ev O.prog O.aI j) (.cond (aJ (O.hint h) x) p' q') s=FL (ex,s')->(Code.cond x p q).wpIn (WF ro) 0 O.P (eR O m S w s ex s' a.tmps.size lo) a w:=by
   intro ex s' hv;simp only[bD] at hv;have rx:=bW (hO.hint h) ht x
   split at hv
   .rename_i t hx;rw[hx] at rx;simp only[af] at rx
    cases t with
    | true=>
     simp only[yx] at hv;exact wpIn_cond_true rx (ihp (l+1) k j hj s ex s' (by rw[Ar];exact hv) ro lo m S w a cU ht hh hb hn bc fF bZ)
    | false=>
     simp only[yR] at hv;exact wpIn_cond_false rx (ihq l1 k1 j hj s ex s' (by rw[Mx];exact hv) ro lo m S w a cU ht hh hb hn bc fF bZ)
   .cases hv
  cases G2:(O.hint h).out l with
  | none=>rw[G2] at hv;exact main ex s' hv
  | some live=>
   rw[G2] at hv;simp only at hv;rw[show bD O.prog O.aI (ev O.prog O.aI j) (.seq (.cond (aJ (O.hint h) x) p' q') (.kp live)) s=match bD O.prog O.aI (ev O.prog O.aI j) (.cond (aJ (O.hint h) x) p' q') s with | some (.normal,s1)=>FL (.normal,bk live s1) | r=>r from rfl] at hv
   cases hx:bD O.prog O.aI (ev O.prog O.aI j) (.cond (aJ (O.hint h) x) p' q') s with
   | none=>simp[hx] at hv
   | some r=>
    have⟨ex1,s1⟩:=r;have h1:=main ex1 s1 hx;rw[hx] at hv
    cases ex1 with
    | normal=>
     simp only[yc,yo] at hv;obtain⟨rfl,rfl⟩:=hv;exact wpIn_mono h1 (fun e a' w' hp=>eR.bm live hp)
    | ret=>simp only[yc,yo] at hv;obtain⟨rfl,rfl⟩:=hv;exact h1
    | exit id=>simp only[yc,yo] at hv;obtain⟨rfl,rfl⟩:=hv;exact h1
 | block id x ih=>
  intro l k j hj s ex s' hv ro lo m S w a cU ht hh hb hn bc fF bZ;simp only[comp] at hv;generalize Ar:comp O.P (O.hint h) x l k=qx at hv;have⟨x',r⟩:=qx;simp only at hv;have main:∀(ex:Ex) (s':St),bD O.prog O.aI (ev O.prog O.aI j) (.ew id x') s=FL (ex,s')->(Code.block id x).wpIn (WF ro) 0 O.P (eR O m S w s ex s' a.tmps.size lo) a w:=by
   intro ex s' hv;simp only[bD] at hv
   cases hx:bD O.prog O.aI (ev O.prog O.aI j) x' s with
   | none=>simp[hx] at hv
   | some q=>
    have⟨ex1,s1⟩:=q;have h1:=ih l k j hj s ex1 s1 (by rw[Ar];exact hx) ro lo m S w a cU ht hh hb hn bc fF bZ
    refine wpIn_block (wpIn_mono h1 ?_);rintro e a1 w1 ⟨rfl,g⟩
    cases ex1 with
    | normal=>
     simp only[hx,yc,yo] at hv;obtain⟨rfl,rfl⟩:=hv;exact⟨rfl,g⟩
    | ret=>
     simp only[hx,yc,yo] at hv;obtain⟨rfl,rfl⟩:=hv;exact⟨rfl,g⟩
    | exit i=>
     simp only[hx] at hv
     cases Rj:yq i id with
     | true=>
      rw[Rj] at hv;simp only[yx,yc,yo] at hv;obtain⟨rfl,rfl⟩:=hv
      have:=yg Rj
      subst this;simp only[sC,Exit.inBlock,xA];exact⟨rfl,g⟩
     | false=>
      rw[Rj] at hv;simp only[yR,yc,yo] at hv;obtain⟨rfl,rfl⟩:=hv;have eh:i≠id:=fun e=>by subst e;simp at Rj
      simp only[sC,Exit.inBlock,eh,xm];exact⟨rfl,g⟩
  have awX:∀live:List Nat,bD O.prog O.aI (ev O.prog O.aI j) (.seq (.ew id x') (.kp live)) s=FL (ex,s')->(Code.block id x).wpIn (WF ro) 0 O.P (eR O m S w s ex s' a.tmps.size lo) a w:=by
   intro live hv;rw[show bD O.prog O.aI (ev O.prog O.aI j) (.seq (.ew id x') (.kp live)) s=match bD O.prog O.aI (ev O.prog O.aI j) (.ew id x') s with | some (.normal,s1)=>FL (.normal,bk live s1) | r=>r from rfl] at hv
   cases hx:bD O.prog O.aI (ev O.prog O.aI j) (.ew id x') s with
   | none=>simp[hx] at hv
   | some r=>
    have⟨ex1,s1⟩:=r;have h1:=main ex1 s1 hx;rw[hx] at hv
    cases ex1 with
    | normal=>
     simp only[yc,yo] at hv;obtain⟨rfl,rfl⟩:=hv;exact wpIn_mono h1 (fun e a' w' hp=>eR.bm live hp)
    | ret=>simp only[yc,yo] at hv;obtain⟨rfl,rfl⟩:=hv;exact h1
    | exit id=>simp only[yc,yo] at hv;obtain⟨rfl,rfl⟩:=hv;exact h1
  split at hv
  .exact awX _ hv
  .exact main ex s' hv
 | loop x ih=>
  intro l k j hj s ex s' hv;simp only[comp] at hv;generalize Ar:comp O.P (O.hint h) x (l+1) k=qx at hv;have⟨x',r⟩:=qx;simp only at hv;have rounds:∀(j:Nat),j<=n->∀(s:St) (ex:Ex) (s':St),bD O.prog O.aI (ev O.prog O.aI j) (.loop ((O.hint h).live l) x') s=FL (ex,s')->∃K,∀(ro:Option Nat) (lo:Nat) (m:Mp) (S:Nat->Prop) (w:yj) (a:Act),AY ro w->bV O m S w s.tm a.tmps->aS O m S w s.hp s.ct->s.base<=s.ct->(O.hint h).n<=a.tmps.size->O.w0.heap.size<=lo->lo<=w.heap.size->Marks lo S w a.defers->
    Code.roundsIn (WF ro) 0 O.P x (eR O m S w s ex s' a.tmps.size lo) K a w:=by
   intro j
   induction j with
   | zero=>
    intro hj s ex s' hv;simp only[bD] at hv
    cases hx:bD O.prog O.aI (ev O.prog O.aI 0) x' (bk ((O.hint h).live l) s) with
    | none=>simp[hx] at hv
    | some q=>
     have⟨ex1,s1⟩:=q;have stop:ex1≠.normal->ex=ex1/\s'=s1:=by
      intro eh;rw[hx] at hv
      cases ex1 with
      | normal=>exact absurd rfl eh
      | ret=>simp only[yc,yo] at hv;exact⟨hv.1.symm,hv.2.symm⟩
      | exit id=>simp only[yc,yo] at hv;exact⟨hv.1.symm,hv.2.symm⟩
     refine⟨1,fun ro lo m S w a cU ht hh hb hn bc fF bZ=>?_⟩;rw[roundsIn_succ];have⟨m1,c1,c2,c3,c4,c5⟩:=SA (live:=(O.hint h).live l) ht hh hb;have h1:=ih (l+1) k 0 hj _ ex1 s1 (by rw[Ar];exact hx) ro lo m1 S w a cU c1 c2 (by rw[c3];exact c4) hn bc fF bZ
     refine wpIn_mono h1 ?_;rintro e a1 w1 hp;have an:=eR.then (O:=O) (m:=m) (S:=S) (w:=w) (s:=s) (ex1:=.normal) c3 c5 hp;obtain⟨rfl,_⟩:=hp
     cases ex1 with
     | normal=>simp only[hx,JF] at hv;cases hv
     | ret=>obtain⟨rfl,rfl⟩:=stop (by simp);exact an
     | exit id=>obtain⟨rfl,rfl⟩:=stop (by simp);exact an
   | succ j ihj=>
    intro hj s ex s' hv;simp only[bD] at hv
    cases hx:bD O.prog O.aI (ev O.prog O.aI (j+1)) x' (bk ((O.hint h).live l) s) with
    | none=>simp[hx] at hv
    | some q=>
     have⟨ex1,s1⟩:=q;have stop:ex1≠.normal->ex=ex1/\s'=s1:=by
      intro eh;rw[hx] at hv
      cases ex1 with
      | normal=>exact absurd rfl eh
      | ret=>simp only[yc,yo] at hv;exact⟨hv.1.symm,hv.2.symm⟩
      | exit id=>simp only[yc,yo] at hv;exact⟨hv.1.symm,hv.2.symm⟩
     have more:∃K,ex1=.normal->∀(ro:Option Nat) (lo:Nat) (m:Mp) (S:Nat->Prop) (w:yj) (a:Act),AY ro w->bV O m S w s1.tm a.tmps->aS O m S w s1.hp s1.ct->s1.base<=s1.ct->(O.hint h).n<=a.tmps.size->O.w0.heap.size<=lo->lo<=w.heap.size->Marks lo S w a.defers->
       Code.roundsIn (WF ro) 0 O.P x (eR O m S w s1 ex s' a.tmps.size lo) K a w:=by
      cases ex1 with
      | normal=>
       rw[hx] at hv;have eS:ev O.prog O.aI (j+1) (.loop ((O.hint h).live l) x') s1=FL (ex,s'):=hv;rw[Ou] at eS;have⟨K,hK⟩:=ihj (by lia) s1 ex s' eS;exact⟨K,fun _=>hK⟩
      | ret=>exact⟨0,fun h=>by cases h⟩
      | exit id=>exact⟨0,fun h=>by cases h⟩
     have⟨K,hK⟩:=more;refine⟨K+1,fun ro lo m S w a cU ht hh hb hn bc fF bZ=>?_⟩;rw[roundsIn_succ];have⟨m1,c1,c2,c3,c4,c5⟩:=SA (live:=(O.hint h).live l) ht hh hb;have h1:=ih (l+1) k (j+1) hj _ ex1 s1 (by rw[Ar];exact hx) ro lo m1 S w a cU c1 c2 (by rw[c3];exact c4) hn bc fF bZ
     refine wpIn_mono h1 ?_;rintro e a1 w1 hp;have an:=eR.then (O:=O) (m:=m) (S:=S) (w:=w) (s:=s) (ex1:=.normal) c3 c5 hp;obtain⟨rfl,_⟩:=hp
     cases ex1 with
     | normal=>
      simp only[sC,Exit.then];have⟨_,m2,S2,g1,g2,g3,g4,g5,g6,g7⟩:=an;have h2:=hK rfl ro lo m2 S2 w1 a1 (NN g5 cU) g1 g2 (by rw[g3];exact g4) (by rw[g6];exact hn) bc (xi fF g5.size) g7
      rw[g6] at h2;revert h2;generalize hA:a.tmps.size=sz;intro h2;have step:∀(K:Nat) (a':Act) (w':yj),Code.roundsIn (WF ro) 0 O.P x (eR O m2 S2 w1 s1 ex s' sz lo) K a' w'->Code.roundsIn (WF ro) 0 O.P x (eR O m S w s ex s' sz lo) K a' w':=by
       intro K
       induction K with
       | zero=>intro a' w' Dg;exact Dg
       | succ K ihK=>
        intro a' w' Dg;rw[roundsIn_succ] at Dg ⊢;refine wpIn_mono Dg (fun e a'' Q7 hq=>?_)
        cases e with
        | normal=>exact ihK a'' Q7 hq
        | exit id=>exact eR.then (ex1:=.normal) g3 g5 hq
        | goto x=>exact eR.then (ex1:=.normal) g3 g5 hq
        | ret=>exact eR.then (ex1:=.normal) g3 g5 hq
        | panic x=>exact eR.then (ex1:=.normal) g3 g5 hq
        | outgrown=>exact eR.then (ex1:=.normal) g3 g5 hq
      exact step K a1 w1 h2
     | ret=>obtain⟨rfl,rfl⟩:=stop (by simp);exact an
     | exit id=>obtain⟨rfl,rfl⟩:=stop (by simp);exact an
  have⟨K,hK⟩:=rounds j hj s ex s' hv;intro ro lo m S w a cU ht hh hb hn bc fF bZ;exact wpIn_loop_rounds K (hK ro lo m S w a cU ht hh hb hn bc fF bZ)
 | scope x ih=>
  intro l k j hj s ex s' hv ro lo m S w a cU ht hh hb hn bc fF bZ;simp only[comp] at hv;exact ale (ih l k j hj s ex s' hv ro lo m S w a cU ht hh hb hn bc fF bZ) (fun l a w=>eR.none l)
 | rangeFunc f ps as_ body iha ihb=>
  intro l k j hj s ex s' hv;simp only[comp] at hv;generalize Ar:comp O.P (O.hint h) as_ l k=qx at hv;have⟨x',l1,k1⟩:=qx;simp only at hv;generalize Mx:comp O.P (O.hint h) body l1 k1=qy at hv;have⟨y',l2,k2⟩:=qy;simp only at hv
  cases ha:A4 (O.hint h).n ps.toList with
  | false=>rw[ha] at hv;exact (V4 hv).elim
  | true=>
   rw[ha] at hv;exact awW hO (hC j hj) ⟨l,k,by rw[Ar]⟩ ⟨l1,k1,by rw[Mx]⟩ ha hv
end
end
end
section
open Go
section
variable {v:AV}{args:Array yh}{aq:List AV}{n:Nat}{s:St}
section
variable {O:bA}{m:Mp}{S:Nat->Prop}{w:yj}
def aa6:∀(aq:List AV) (j i:Nat),aj (fI j aq) (j+i)=aq.getD i .undef
 | [],j,i=>by simp[fI,aj]
 | v::r,j,i=>by
  cases i with
  | zero=>simp[fI,aj]
  | succ i=>
   simp only[fI,aj];have hb:yq j (j+(i+1))=yda:=by
    cases hq:yq j (j+(i+1)) with
    | false=>rfl
    | true=>have:=yg hq;lia
   rw[hb,show j+(i+1)=j+1+i by lia];rw[aa6 r (j+1) i]
   simp
def aa7(n:Nat)(h:aB O.ae m S w aq args.toList):bV O m S w (fI 0 aq) (args++uE n undef):=by
 intro i
 have:=aa6 aq 0 i
 rw[yd] at this;rw[this,xd]
 cases hv:aq[i]? with
 | none=>simp only[Option.getD_none,af]
 | some v=>
  have⟨u,h1,h2⟩:=Tn h hv;have hl:i<args.size:=by
   grind
  have:(args++uE n undef).getD i undef=u:=by
   rw[wi,yaq hl]
   grind
  grind
def G3(tmps:Array yh):ycF->Sem yh
 | .tmp t=>pure (tmps.getD t undef)
 | .cell a t=>do loadVar t (<-asAddr (tmps.getD a undef))
def alf(fn:yaE)(tmps:Array yh):results fn tmps=(do let vs <-fn.results.mapM (G3 tmps);pure (if h:vs.size=1 then vs[0] else .tuple vs)):=by
 rfl
def SC{s:St}{ct:Nat}{tmps:Array yh}(hh:aS O m S w s.hp ct)(ht:bV O m S w s.tm tmps):∀{rs:List ycF} {rv:List RV} {vs:List AV},qC O.P rs=FL rv->mA s rv=FL vs->
  ∃us,(rs.mapM (G3 tmps)).run O.P w=.ok us w/\aB O.ae m S w vs us
 | [],rv,vs,h1,h2=>by
  simp only[qC,yc] at h1;subst h1;simp only[mA,yc] at h2;subst h2;exact⟨[],by simp,by simp[aB]⟩
 | .tmp t::rs,rv,vs,h1,h2=>by
  simp only[qC] at h1
  cases hc:qC O.P rs with
  | none=>simp[hc] at h1
  | some l=>
   simp only[hc,yc] at h1;subst h1;simp only[mA,results1] at h2
   cases hl:mA s l with
   | none=>simp[hl] at h2
   | some Ma=>
    simp only[hl,yc] at h2;subst h2;have⟨us,g1,g2⟩:=SC hh ht hc hl;refine⟨tmps.getD t undef::us,?_,by simp only[aB];exact⟨_,_,rfl,ht t,g2⟩⟩
    rw[uS];simp only[G3,Sem.run_bind,Sem.run_pure,Result.andThen_ok];rw[g1];rfl
 | .cell a t::rs,rv,vs,h1,h2=>by
  simp only[qC] at h1
  cases hz:cu O.P t with
  | none=>simp[hz] at h1
  | some sz=>
   cases Ai:du O.P t with
   | none=>simp[hz,Ai] at h1
   | some ag=>
    cases hc:qC O.P rs with
    | none=>simp[hz,Ai,hc] at h1
    | some l=>
     simp only[hz,Ai,hc,yc] at h1;subst h1;simp only[mA] at h2
     cases ej:results1 s (.cell a sz ag) with
     | none=>simp[ej] at h2
     | some v=>
      cases hl:mA s l with
      | none=>simp[ej,hl] at h2
      | some Ma=>
       simp only[ej,hl,yc] at h2;subst h2;have⟨us,g1,g2⟩:=SC hh ht hc hl;have ra:=ht a;have key:∃b o u,tmps.getD a undef=.pointer (FL ⟨b,o,FM⟩)/\(loadVar t ⟨b,o,FM⟩).run O.P w=.ok u w/\af O.ae m S w v u:=by
        simp only[results1] at ej;cases hta:aj s.tm a<;>rw[hta] at ej ra<;>simp only[reduceCtorEq] at ej
        .rename_i id o;simp only[af] at ra;have⟨p,hm,hp⟩:=ra
         cases hg:ak s.hp id with
         | none=>simp[hg] at ej
         | some ob=>
          cases ob<;>simp only[hg,reduceCtorEq] at ej
          have X5:=Tm (o:=0) (n:=0) hh hg hm;have⟨u,q1,q2⟩:=Ol hz Ai (rZ o _ p.b p.o X5) ej;exact⟨p.b,p.o+o,u,hp,q1,q2⟩
        .rename_i cs;simp only[af] at ra;have⟨b,o,hp,_,_,X5⟩:=ra;have⟨u,q1,q2⟩:=Ol hz Ai X5 ej;exact⟨b,o,u,hp,q1,q2⟩
       have⟨b,o,u,q1,q2,q3⟩:=key;refine⟨u::us,?_,by simp only[aB];exact⟨_,_,rfl,q3,g2⟩⟩
       rw[uS]
       have:(G3 tmps (.cell a t)).run O.P w=.ok u w:=by
        simp only[G3];rw[q1];simp[asAddr,q2]
       rw[Sem.run_bind,this,Result.andThen_ok,Sem.run_bind,g1];rfl
def akz{ct:Nat}{tmps:Array yh}{fn:yaE}{rv:List RV}(hh:aS O m S w s.hp ct)(ht:bV O m S w s.tm tmps)(h1:qC O.P fn.results.toList=FL rv)(h2:jE s rv=FL v):
  ∃u,(results fn tmps).run O.P w=.ok u w/\af O.ae m S w v u:=by
 unfold jE at h2
 cases hl:mA s rv with
 | none=>simp[hl] at h2
 | some vs=>
  have⟨us,g1,g2⟩:=SC hh ht h1 hl;have hlen:=gU _ _ g2;have hm:(fn.results.mapM (G3 tmps)).run O.P w=.ok us.toArray w:=by
   rw[Array.mapM_eq_mapM_toList];simp[g1]
  have dT:(results fn tmps).run O.P w=.ok (if h:us.toArray.size=1 then us.toArray[0] else .tuple us.toArray) w:=by
   rw[alf,Sem.run_bind,hm];rfl
  rw[hl] at h2
  split at h2
  .rename_i v' sZ;simp only[yc] at sZ h2;subst sZ;simp only[aB] at g2
   grind
  .rename_i eB eh sZ;simp only[yc] at sZ h2;subst sZ;subst h2;have h1:¬us.toArray.size=1:=by
    intro h
    have:vs.length=1:=by simp_all
    cases vs with
    | nil=>simp at this
    | cons x t=>
     cases t with
     | nil=>exact eh x rfl
     | cons y t=>simp at this
   simp only[af]
   grind
  .grind
def SZ{s:St}{tmps:Array yh}{fn:yaE}{rv:List RV}{v:AV}{m0:Mp}{S0:Nat->Prop}{w0:yj}{hp0:Hp}{Rk:Nat}(h1:qC O.P fn.results.toList=FL rv)(h2:jE s rv=FL v)(fw:Rk<=s.ct):∀(rs:List Nat) (w:yj),
  rs.Nodup->(∀r,r∈rs->w.heap[r]? =FL (.deferred (FL []))/\¬S r/\w0.heap.size<=r)->O.w0.heap.size<=w0.heap.size->aS O m S w s.hp s.ct->bV O m S w s.tm tmps->cf m0 S0 w0 hp0 m S w s.hp Rk->
  ycH Fence.wide 0 O.P fn tmps (AN O m0 S0 w0 hp0 Rk v s.hp s.ct) (rs.map (fun r=>{target:=.collected r,args:=#[]})) .returning w
 | [],w,_,_,_,hh,ht,hf=>by
  have⟨u,g1,g2⟩:=akz hh ht h1 h2;exact⟨u,g1,u,m,S,rfl,hh,fw,g2,hf⟩
 | r::rs,w,mo,hr,bc,hh,ht,hf=>by
  have⟨kG,dQ⟩:=List.nodup_cons.1 mo;have⟨a1,a2,a3⟩:=hr r wA;have gK:=FO w r (.deferred FM);have pR:¬ef m s.hp r:=fun ho=>abR hh ho _ a1
  have Dg:=aag hh gK a2 pR (xi bc a3)
  have aM:fY S w {w with heap:=w.heap.setIfInBounds r (.deferred FM)}:=fun b hb=>gK.other b (fun e=>a2 (e▸hb))
  have nK:cf m0 S0 w0 hp0 m S {w with heap:=w.heap.setIfInBounds r (.deferred FM)} s.hp Rk:=by
   refine⟨hf.os,hf.tape,hf.output,by rw[gK.size];exact hf.size,fun b hb ho=>(gK.other b (by lia)).trans (hf.same b hb ho),hf.sub,fun b hb=>(gK.other b (fun e=>a2 (e▸hf.sub b hb))).trans (hf.still b hb),hf.new,hf.own,hf.old,fun b x hb=>?_⟩
   have⟨x',hx⟩:=hf.loops b x hb;exact⟨x',(gK.other b (fun e=>by subst e;rw[a1] at hx;cases hx)).trans hx⟩
  refine⟨by simp,.inl ⟨r,_,rfl,?_,SZ h1 h2 fw rs _ dQ (fun r' bh=>?_) bc Dg (B8 (fun _ _ h=>h) (fun _ h=>h) aM ht) nK⟩⟩
  .simp only [Instr.takeDeferred,Sem.run_bind,aah (P:=O.P) a1 (fun _ _ _=>by simp),Result.andThen_ok,Nx (P:=O.P) a1 (fun _ _ _=>by simp),Sem.run_pure]
  .have ⟨b1,b2,b3⟩:=hr r' (xR _ bh);exact⟨(gK.other r' (fun e=>kG (e▸bh))).trans b1,b2,b3⟩
end
section
variable {O:bA}{self:cl}
def awY(hO:iy O)(hS:∀v s ex s',self v s=FL (ex,s')->∀c h l k,(comp O.P (O.hint h) c l k).1=v->CH O h c s ex s'){F:aA}(hF:O.prog n=FL F){hp:Hp}{ct:Nat}{ex:Ex}(hv:self F.body ⟨fI 0 aq,hp,ct,ct⟩=FL (ex,s))(hex:ex=.normal\/ex=.ret)(hr:jE s F.eA=FL v):CG O n hp ct aq v s.hp s.ct:=by
 intro m S w args hh eF;have⟨fn,q1,q2,q3⟩:=hO.prog n F hF;have⟨c,q4,q5,q6,q7⟩:=Sp q2;refine .inl ⟨F0 q1 (by rw[q4];rfl) q3,?_⟩
 have hc:=hS _ _ _ _ hv c n 0 0 q5.symm;have hw:=hc FM w.heap.size m S w {tmps:=args++uE (fn.ntmps-args.size) undef,defers:=[]} (fun l hl=>by cases hl) (aa7 _ eF) hh (yu _) (by simp;lia) hh.gi (yu _) ⟨[],rfl,by simp,by simp⟩
 refine callsIn_of_wp_marks (F:=Fence.wide) q1 q4 trivial (wpIn_mono hw ?_);rintro e a' w' ⟨rfl,m',S',k1,k2,k3,k4,k5,k6,rs,k7,k8,k9⟩;have main:ycH Fence.wide 0 O.P fn a'.tmps (AN O m S w hp ct v s.hp s.ct) a'.defers .returning w':=by
  rw[k7];exact SZ q6 hr k4 rs w' k8 k9 hh.gi k2 k1 k5
 rcases hex with rfl | rfl
 .exact main
 .exact main
def Cj.mono{P:xp}{f:tS}{w:yj}{R R':yaS->yj->Prop}(h:Cj P f args w R)(hr:∀e w',R e w'->R' e w'):Cj P f args w R':=by
 rcases h with ⟨h1,h2⟩ | ⟨u,w',h1,h2⟩
 .exact .inl ⟨h1,CallsIn.mono h2 hr⟩
 .exact .inr ⟨u,w',h1,hr _ _ h2⟩
def amj{w:yj}{S:Nat->Prop}(hg:CF O w)(hs:∀b,S b->b<w.heap.size):aS O fa S w [] 0:=
 ⟨(fun id o p h _=>by simp[ak] at h),(fun id p h=>by cases h),(fun i j oi oj pi pj h=>by simp[ak] at h),hs,(fun id p h=>by cases h),(fun id p h=>by cases h),hg.1,hg.2,(fun id o h=>by simp[ak] at h)⟩
def TB{b:Nat}(h:ef fa [] b):False:=by
 have⟨_,_,_,h,_⟩:=h;simp[ak] at h
def Si{r:AV}(h:CG O n [] 0 aq v s.hp s.ct)(hr:result s.hp v=FL r):et O n aq r:=by
 intro w S args hg hs eF hp;refine Cj.mono (h fa S w args (amj hg hs) eF) ?_;rintro e w' ⟨u,m',S',rfl,k1,k2,k3,k4⟩;have bc:∀b,ef m' s.hp b->w.heap.size<=b:=fun b hb=>(k4.own b hb).elim (fun h=>(TB h).elim) (fun h=>h)
 have⟨S2,g1,g2,g3,g4⟩:=al9 (lo:=w.heap.size) k1 hr k3 bc;refine⟨u,S2,rfl,⟨k4.os,k4.tape,k4.output,k4.size,fun b hb=>k4.same b hb TB⟩,fun b hb=>g1 b (k4.sub b hb),fun b hb=>?_,g3,g4⟩;rcases g2 b hb with h | h
 .rcases k4.new b h with h | h | h
  .exact .inl h
  .exact (TB h).elim
  .exact .inr h
 .exact .inr (bc b h)
def alg(hO:iy O)(hS:∀v s ex s',self v s=FL (ex,s')->∀c h l k,(comp O.P (O.hint h) c l k).1=v->CH O h c s ex s'):oV O self:=by
 have heap:∀(n:Nat) (F:aA),O.prog n=FL F->∀(hp:Hp) (ct:Nat) (aq:List AV) (ex:Ex) (s:St) (v:AV),self F.body ⟨fI 0 aq,hp,ct,ct⟩=FL (ex,s)->(ex=.normal\/ex=.ret)->jE s F.eA=FL v->CG O n hp ct aq v s.hp s.ct:=
  fun n F hF hp ct aq ex s v h1 h2 h3=>awY hO hS hF h1 h2 h3
 refine⟨?_,?_,fun hp ct l xs v an aU hv=>aof hS hv⟩
 .intro n aq r hv;unfold bL at hv
  cases hL:O.aI.pure n with
  | some sp=>rw[hL] at hv;exact hO.aI n sp aq r hL hv
  | none=>
   simp only[hL] at hv
   cases hF:O.prog n with
   | none=>simp[hF] at hv
   | some F=>
    simp only[hF] at hv
    split at hv
    .rename_i s hb
     cases hr:jE s F.eA with
     | none=>simp[hr] at hv
     | some v=>simp only[hr] at hv;exact Si (heap n F hF [] 0 aq .normal s v hb (.inl rfl) hr) hv
    .rename_i s hb
     cases hr:jE s F.eA with
     | none=>simp[hr] at hv
     | some v=>simp only[hr] at hv;exact Si (heap n F hF [] 0 aq .ret s v hb (.inr rfl) hr) hv
    .cases hv
 .intro hp ct n aq v an aU hv;unfold jl at hv
  cases hL:O.aI.heap n with
  | some sp=>rw[hL] at hv;exact hO.G0 n sp hp ct aq v an aU hL hv
  | none=>
   simp only[hL] at hv
   cases hF:O.prog n with
   | none=>simp[hF] at hv
   | some F=>
    grind
def ZQ(hO:iy O):∀n,oV O (ev O.prog O.aI n):=by
 intro n
 induction n using vR with
 | _ n ih=>
  refine alg hO (fun v s ex s' hv c h l k hc=>?_)
  cases n with
  | zero=>rw[JF] at hv;cases hv
  | succ n=>
   rw[Ou,<-hc] at hv;exact adb hO n (fun k hk=>ih k (by lia)) h c l k n (yu _) s ex s' hv
def sound(hO:iy O){f:Nat}{r:AV}(h:XG O.prog O.aI n f aq=FL r):et O f aq r:=(ZQ hO n).pure f aq r h
end
end
end
def gY:List Nat->List Nat->Bool
 | [],_=>ycZ
 | a::x,b::y=>yq a b&&gY x y
 | _::_,[]=>yda
def ns(sub:List Nat):List Nat->Nat->Option Nat
 | [],k=>bif gY sub [] then FL k else FM
 | b::r,k=>bif gY sub (b::r) then FL k else ns sub r (k+1)
def PS:List AV->Option AV
 | [.str s,.str sep]=>
  bif yO s.length 4294967281 then
   match ns sep s 0 with
   | some i=>FL (.aw [.str (s.take i),.str (s.drop (i+sep.length)),.bool ycZ])
   | none=>FL (.aw [.str s,.str [],.bool yda])
  else FM
 | _=>FM
def Nz:List AV->Option AV
 | [.str s,.str p]=>FL (bif gY p s then .aw [.str (s.drop p.length),.bool ycZ] else .aw [.str s,.bool yda])
 | _=>FM
def NA:List AV->Option AV
 | [.str s,.str p]=>FL (.bool (gY p s))
 | _=>FM
def Nl:List AV->Option AV
 | [.str s,.str p]=>FL (.str (bif gY p s then s.drop p.length else s))
 | _=>FM
def G4(i:Nat):List Nat->Bool
 | []=>yda
 | j::r=>bif yq j i then ycZ else G4 i r
def lZ(set:List Nat):List Nat->List Nat
 | []=>[]
 | b::r=>bif G4 b set then lZ set r else b::r
def Gk:List Nat->Bool
 | []=>ycZ
 | b::r=>yO b 128&&Gk r
def trimS:List AV->Option AV
 | [.str s,.str set]=>bif Gk set&&(yO s.length 4294967281&&yO set.length 4294967281) then FL (.str (lZ set (lZ set s.reverse).reverse)) else FM
 | _=>FM
def iI(s:List Nat):Nat->List Nat
 | 0=>[]
 | n+1=>s++iI s n
def Cl:List AV->Option AV
 | [.str s,.int .i64 (.ofNat n)]=>bif yE n 1099511627776&&yE (s.length*n) 1099511627776 then FL (.str (iI s n)) else FM
 | _=>FM
def nZ:Nat->Nat->List Nat->List Nat
 | 0,_,acc=>acc
 | f+1,n,acc=>bif yO n 10 then (48+n)::acc else nZ f (n/10) ((48+n%10)::acc)
def aC(n:Nat):List Nat:=nZ (n+1) n []
def aV:Int->List Nat
 | .ofNat n=>aC n
 | .negSucc n=>45::aC (n+1)
def CJ:Int->Bool
 | .ofNat n=>yO n 9223372036854775808
 | .negSucc n=>yO n 9223372036854775808
def KH:List AV->Option AV
 | [.int .i64 n]=>bif CJ n then FL (.str (aV n)) else FM
 | _=>FM
def B5:List AV->Option AV
 | [.int .u64 (.ofNat n),.int .i64 10]=>bif yO n 18446744073709551616 then FL (.str (aC n)) else FM
 | _=>FM
def cM:List Nat->Nat->Option Nat
 | [],a=>FL a
 | b::r,a=>bif yE 48 b&&yE b 57 then cM r (10*a+(b-48)) else FM
def KI:List AV->Option AV
 | [.str s]=>
  bif yO 0 s.length&&yE s.length 18 then
   match cM s 0 with | some n=>FL (.aw [.int .i64 n,.undef]) | none=>FM
  else FM
 | _=>FM
def oW:List AV->Option AV
 | [.int .u64 (.ofNat x),.int .u64 (.ofNat y),.int .u64 (.ofNat c)]=>
  bif yE c 1&&(yO x 18446744073709551616&&yO y 18446744073709551616) then FL (.aw [.int .u64 ((x+y+c)%18446744073709551616:Nat),.int .u64 ((x+y+c)/18446744073709551616:Nat)]) else FM
 | _=>FM
def Cp:List AV->Option AV
 | [.int .u64 (.ofNat x),.int .u64 (.ofNat y),.int .u64 (.ofNat c)]=>
  bif yE c 1&&(yO x 18446744073709551616&&yO y 18446744073709551616) then FL (.aw [.int .u64 ((x+18446744073709551616*2-y-c)%18446744073709551616:Nat),.int .u64 (bif yE (y+c) x then 0 else 1)]) else FM
 | _=>FM
def zC:List AV->Option AV
 | [.int .u64 (.ofNat x),.int .u64 (.ofNat y)]=>bif yO x 18446744073709551616&&yO y 18446744073709551616 then FL (.aw [.int .u64 (x*y/18446744073709551616:Nat),.int .u64 (x*y%18446744073709551616:Nat)]) else FM
 | _=>FM
def eN:Nat->Nat->Nat
 | 0,_=>0
 | f+1,n=>bif yq n 0 then 0 else 1+eN f (n/2)
def JS:List AV->Option AV
 | [.int .u64 (.ofNat x)]=>bif yO x 18446744073709551616 then FL (.int .i64 (eN 64 x)) else FM
 | _=>FM
def GW:List AV->Option AV
 | [.int .u64 (.ofNat x)]=>bif yO x 18446744073709551616 then FL (.int .i64 (64-eN 64 x:Nat)) else FM
 | _=>FM
def TC:List AV->Option AV
 | [.av .f64 b]=>FL (.int .u64 b)
 | _=>FM
def Sj:List AV->Option AV
 | [.int .u64 (.ofNat n)]=>FL (.av .f64 n)
 | _=>FM
section
open Go
section
variable {a:AV}{args:Array yh}{aq:List AV}{s:List Nat}{w:yj}
section
variable {O:bA}{n:Nat}
def Ja{w':yj}(h:RowKit.Below w.heap.size w w'):Calm w w':=⟨h.os,h.tape,h.output,h.size,h.block⟩
def amk(k:Nat):Calm w (w.drewN k):=⟨rfl,rfl,rfl,yu _,fun _ _=>rfl⟩
def aml(h:CF O w){a:Addr}{v:yh}(hc:O.w0.cell? a=FL v):w.cell? a=FL v:=by
 have hb:a.block<O.w0.heap.size:=by
  unfold World.cell? at hc
  cases hq:O.w0.heap[a.block]? with
  | none=>simp[hq] at hc
  | some o=>exact (xv.1 hq).1
 unfold World.cell? at hc ⊢;rw[h.1 _ hb];exact hc
def oR{r:AV}(hr:∀S w' lo u,af O.ae fa S w' r u->po O.ae S w' lo r u)(fM:∀args w,(callFunc (O.ae n) args).run O.P w=.ok (.enter (O.ae n) args) w)(h:∀w S args,CF O w->aB O.ae fa S w aq args.toList->wz O.P (O.ae n) args w fun e w'=>∃u,e=.returned u/\Calm w w'/\∀S,af O.ae fa S w' r u):et O n aq r:=by
 intro w S args hg hS dN _;refine .inl ⟨fM args w,Go.callsIn_wide.2 ((h w S args hg dN).mono ?_)⟩;rintro e w' ⟨u,rfl,hc,hu⟩;exact⟨u,S,rfl,hc,fun _ h=>h,fun _ h=>.inl h,fun b hb=>yP (hS b hb) hc.size,hr S w' _ u (hu S)⟩
def NO{r:AV}(hr:∀S w' lo u,af O.ae fa S w' r u->po O.ae S w' lo r u)(h:∀w S args,aB O.ae fa S w aq args.toList->∃u,(callFunc (O.ae n) args).run O.P w=.ok (.value u) w/\∀S,af O.ae fa S w r u):et O n aq r:=by
 intro w S args _ hS dN _;have⟨u,h1,h2⟩:=h w S args dN;exact .inr ⟨u,w,h1,u,S,rfl,Calm.refl,fun _ h=>h,fun _ h=>.inl h,hS,hr S w _ u (h2 S)⟩
def JG:∀S w' lo u,af O.ae fa S w' (.str s) u->po O.ae S w' lo (.str s) u:=fun S w' lo u h=>⟨[],rfl,h,rfl⟩
def Ui{k:IntKind}{z:Int}:∀S w' lo u,af O.ae fa S w' (.int k z) u->po O.ae S w' lo (.int k z) u:=fun S w' lo u h=>⟨[],rfl,h,rfl⟩
def aqi{k:FloatKind}{z:Nat}:∀S w' lo u,af O.ae fa S w' (.av k z) u->po O.ae S w' lo (.av k z) u:=fun S w' lo u h=>⟨[],rfl,h,rfl⟩
def abU{b:Bool}:∀S w' lo u,af O.ae fa S w' (.bool b) u->po O.ae S w' lo (.bool b) u:=fun S w' lo u h=>⟨[],rfl,h,rfl⟩
def aai{S:Nat->Prop}{w':yj}{lo:Nat}:∀{vs:List AV} {us:List yh},(∀v,v∈vs->(∀ex sz k cs,v≠.c7 ex sz k cs)/\aX v=ycZ)->aB O.ae fa S w' vs us->mg O.ae S w' lo vs us []
 | [],us,_,h=>by simp only[aB] at h;exact⟨h,rfl⟩
 | v::vs,us,hv,h=>by
  simp only[aB] at h;obtain⟨u,t,rfl,h1,h2⟩:=h;have h3:=hv v (by simp);refine⟨u,t,[],[],rfl,rfl,?_,aai (fun v hm=>hv v (by simp[hm])) h2⟩;cases v<;>first | exact⟨rfl,h1,h3.2⟩ | exact absurd rfl (h3.1 _ _ _ _)
def F8{vs:List AV}(hv:∀v,v∈vs->(∀ex sz k cs,v≠.c7 ex sz k cs)/\aX v=ycZ):∀S w' lo u,af O.ae fa S w' (.aw vs) u->po O.ae S w' lo (.aw vs) u:=by
 intro S w' lo u h;obtain⟨xs,rfl,h⟩:=h;exact⟨xs,[],rfl,aai hv h,by simp⟩
def Ev{S:Nat->Prop}(h:aB O.ae fa S w [a] args.toList):∃u,args=#[u]/\af O.ae fa S w a u:=by
 simp only[aB] at h
 grind
def CK{S:Nat->Prop}{b:AV}(h:aB O.ae fa S w [a,b] args.toList):∃u v,args=#[u,v]/\af O.ae fa S w a u/\af O.ae fa S w b v:=by
 simp only[aB] at h
 grind
def aeQ{S:Nat->Prop}{b c:AV}(h:aB O.ae fa S w [a,b,c] args.toList):∃u v x,args=#[u,v,x]/\af O.ae fa S w a u/\af O.ae fa S w b v/\af O.ae fa S w c x:=by
 simp only[aB] at h
 grind
def Jb{S:Nat->Prop}{l:List UInt8}(h:l.map xk=s):af O.ae fa S w (.str s) (.string ⟨l.toArray⟩):=by
 simp only[af];exact⟨_,rfl,h⟩
def toNat_inj{a b:UInt8}:yq a.toNat b.toNat=(a==b):=by
 by_cases h:a=b
 .simp_all
 .have h':a.toNat≠b.toNat:=fun e=>h (UInt8.toNat_inj.1 e)
  have e:(a==b)=yda:=by simp_all
  rw[e]
  cases hq:yq a.toNat b.toNat with
  | false=>rfl
  | true=>exact absurd (yg hq) h'
def Jj:∀(p s:List UInt8),gY (p.map xk) (s.map xk)=p.isPrefixOf s
 | [],s=>by cases s<;>rfl
 | a::p,[]=>rfl
 | a::p,b::s=>by
  simp only[y7,gY,List.isPrefixOf,Jj p s,toNat_inj]
def aaj:∀(s sep:List UInt8) (k:Nat),ns (sep.map xk) (s.map xk) k=if 0<=Lib.index s sep then FL (k+(Lib.index s sep).toNat) else FM
 | [],sep,k=>by
  simp only[List.map_nil,ns,Lib.index]
  cases sep with
  | nil=>simp[gY]
  | cons a r=>simp[gY]
 | b::s,sep,k=>by
  have ih:=aaj s sep (k+1);have hp:=Jj sep (b::s);simp only[y7,ns,hp,Lib.index]
  grind
def abV(b:UInt8):∀cs:List UInt8,G4 b.toNat (cs.map xk)=cs.contains b
 | []=>rfl
 | c::cs=>by
  simp only[y7,G4,abV b cs,List.contains_cons,toNat_inj]
  grind
def S3(cs:List UInt8):∀l:List UInt8,lZ (cs.map xk) (l.map xk)=(l.dropWhile (cs.contains ·)).map xk
 | []=>rfl
 | b::l=>by
  simp only[y7,lZ,abV,List.dropWhile_cons,S3 cs l]
  grind
def abW(l:List UInt8):∀n,iI (l.map xk) n=(Lib.repeatL l n).map xk
 | 0=>rfl
 | n+1=>by simp only[iI,Lib.repeatL,xb,abW l n]
def ZR:∀(f n:Nat) (acc:List Nat),n<f->nZ f n acc=(Lib.decDigits n).map xk++acc
 | 0,n,acc,h=>by lia
 | f+1,n,acc,h=>by
  rw[nZ,Lib.decDigits];by_cases hn:n<10
  .rw [show yO n 10=ycZ from yB hn,yx,dif_pos hn]
   have:(ycd (48+n)).toNat=48+n:=by
    rw[yaW];lia
   grind
  .have hb:yO n 10=yda:=by
    cases hq:yO n 10 with
    | false=>rfl
    | true=>exact absurd (yv hq) (by lia)
   rw[hb,yR,dif_neg hn,ZR f (n/10) _ (by lia),xb,List.append_assoc]
   have:(ycd (48+n%10)).toNat=48+n%10:=by
    rw[yaW];lia
   grind
def TD(n:Nat):aC n=(Lib.decDigits n).map xk:=by
 rw[aC,ZR (n+1) n [] (by lia),List.append_nil]
def aoh(n:Int):aV n=(Lib.itoa n).map xk:=by
 cases n with
 | ofNat k=>
  have:¬ybE k<0:=by simp
  simp only[aV,Lib.itoa,this,xm,TD];rfl
 | negSucc k=>
  have:Int.negSucc k<0:=Int.negSucc_lt_zero k
  simp only[aV,Lib.itoa,this,xA,TD,y7];rfl
def TE:∀f x:Nat,eN f x=Lib.bitLenAux f x
 | 0,_=>rfl
 | f+1,x=>by
  rw[eN,Lib.bitLenAux];by_cases h:x=0
  .simp_all
  .have hb:yq x 0=yda:=by
    cases hq:yq x 0 with
    | false=>rfl
    | true=>exact absurd (yg hq) h
   rw[hb,yR,yt h,TE f]
def aak:∀{cs:List UInt8},Gk (cs.map xk)=ycZ->∀(j:Nat) b,cs[j]? =FL b->b.toNat<128
 | [],_,j,b,h=>by simp at h
 | c::cs,h,j,b,hb=>by
  simp only[y7,Gk,yf] at h
  cases j with
  | zero=>
   simp_all
  | succ j=>exact aak h.2 j b (by simpa using hb)
def abX:∀{l:List UInt8} {a z:Nat},cM (l.map xk) a=FL z->Lib.decFrom a l=FL z
 | [],a,z,h=>h
 | b::l,a,z,h=>by
  simp only[y7,cM] at h
  cases hb:(yE 48 b.toNat&&yE b.toNat 57) with
  | false=>rw[hb] at h;cases h
  | true=>
   rw[hb] at h;simp only[yf] at hb;have h1:=yv hb.1;have h2:=yv hb.2
   have:=abX h
   rw[Lib.decFrom,Lib.digitVal,yD ⟨h1,h2⟩]
   grind
def aoi{l:List UInt8}{z:Nat}(h:cM (l.map xk) 0=FL z)(h0:0<l.length):Lib.atoi l=FL (z:Int):=by
 cases l with
 | nil=>simp at h0
 | cons b r=>
  have hd:=abX h;have hb:48<=b.toNat:=by
   simp only[y7,cM] at h
   cases hb:(yE 48 b.toNat&&yE b.toNat 57) with
   | false=>rw[hb] at h;cases h
   | true=>
    simp_all
  have h1:(b==45)=yda:=by
   have:b≠45:=fun e=>by subst e;exact absurd hb (by decide)
   grind
  have h2:(b==43)=yda:=by
   have:b≠43:=fun e=>by subst e;exact absurd hb (by decide)
   grind
  simp only[Lib.atoi,h1,h2,yC,xm,Lib.decNat,List.isEmpty_cons,hd,wM]
section
variable {f:tS}
def aka(hf:O.ae n=f)(fM:∀args w,(callFunc f args).run O.P w=.ok (.enter f args) w)(hc:∀(s p:ByteArray) (w:yj),wz O.P f #[.string s,.string p] w fun e w'=>e=.returned (.tuple #[.string ⟨(Lib.trimPrefix s.data.toList p.data.toList).toArray⟩,.bool (Lib.hasPrefix s.data.toList p.data.toList)])/\w'=w):
  ∀aq r,Nz aq=FL r->et O n aq r:=by
 intro aq r h;unfold Nz at h
 split at h
 .rename_i s p;simp only[yc] at h;subst h;refine oR ?_ (by rw[hf];exact fM) ?_
  .cases gY p s<;>exact F8 (by simp[aX])
  .intro w S args hg dN;obtain⟨u,v,rfl,h1,h2⟩:=CK dN;obtain⟨t1,rfl,rfl⟩:=h1;obtain⟨t2,rfl,rfl⟩:=h2;rw[hf];refine (hc t1 t2 w).mono ?_;rintro e w' ⟨rfl,rfl⟩;refine⟨_,rfl,Calm.refl,fun S=>?_⟩;rw[Jj,yU];unfold Lib.trimPrefix Lib.hasPrefix
   cases hp:t2.data.toList.isPrefixOf t1.data.toList with
   | true=>
    simp only[yx,xA,af,aB]
    simp_all
   | false=>
    simp only[yR,yC,xm,af,aB]
    grind
 .cases h
def akb(hf:O.ae n=f)(fM:∀args w,(callFunc f args).run O.P w=.ok (.enter f args) w)(hc:∀(s p:ByteArray) (w:yj),wz O.P f #[.string s,.string p] w fun e w'=>e=.returned (.bool (Lib.hasPrefix s.data.toList p.data.toList))/\w'=w):
  ∀aq r,NA aq=FL r->et O n aq r:=by
 intro aq r h;unfold NA at h
 split at h
 .rename_i s p;simp only[yc] at h;subst h;refine oR abU (by rw[hf];exact fM) ?_
  intro w S args hg dN;obtain⟨u,v,rfl,h1,h2⟩:=CK dN;obtain⟨t1,rfl,rfl⟩:=h1;obtain⟨t2,rfl,rfl⟩:=h2;rw[hf];refine (hc t1 t2 w).mono ?_;rintro e w' ⟨rfl,rfl⟩;refine⟨_,rfl,Calm.refl,fun S=>?_⟩;rw[Jj];simp only[af,Lib.hasPrefix]
 .cases h
def aj7(hf:O.ae n=f)(fM:∀args w,(callFunc f args).run O.P w=.ok (.enter f args) w)(hc:∀(s p:ByteArray) (w:yj),wz O.P f #[.string s,.string p] w fun e w'=>e=.returned (.string ⟨(Lib.trimPrefix s.data.toList p.data.toList).toArray⟩)/\w'=w):
  ∀aq r,Nl aq=FL r->et O n aq r:=by
 intro aq r h;unfold Nl at h
 split at h
 .rename_i s p;simp only[yc] at h;subst h;refine oR JG (by rw[hf];exact fM) ?_
  intro w S args hg dN;obtain⟨u,v,rfl,h1,h2⟩:=CK dN;obtain⟨t1,rfl,rfl⟩:=h1;obtain⟨t2,rfl,rfl⟩:=h2;rw[hf];refine (hc t1 t2 w).mono ?_;rintro e w' ⟨rfl,rfl⟩;refine⟨_,rfl,Calm.refl,fun S=>?_⟩;rw[Jj,yU];refine Jb ?_;unfold Lib.trimPrefix Lib.hasPrefix
  cases hp:t2.data.toList.isPrefixOf t1.data.toList with
  | true=>simp[List.map_drop]
  | false=>simp
 .cases h
def aqj(hf:O.ae n=f)(fM:∀args w,(callFunc f args).run O.P w=.ok (.enter f args) w){a:Addr}{m:Int}(hm:O.w0.cell? a=FL (.int .i64 m))(hc:∀(s sep:ByteArray) (w:yj),s.size<4294967281->w.cell? a=FL (.int .i64 m)->wz O.P f #[.string s,.string sep] w fun e w'=>e=.returned (.tuple #[.string ⟨(Lib.cut s.data.toList sep.data.toList).1.toArray⟩,.string ⟨(Lib.cut s.data.toList sep.data.toList).2.1.toArray⟩,.bool (Lib.cut s.data.toList sep.data.toList).2.2])/\∃n,w'=w.drewN n):
  ∀aq r,PS aq=FL r->et O n aq r:=by
 intro aq r h;unfold PS at h
 split at h
 .rename_i s sep
  cases hb:yO s.length 4294967281 with
  | false=>rw[hb] at h;cases h
  | true=>
   rw[hb] at h;have key:∀(q:List UInt8×List UInt8×Bool),(∀t1 t2:ByteArray,t1.data.toList.map xk=s->t2.data.toList.map xk=sep->r=.aw [.str ((Lib.cut t1.data.toList t2.data.toList).1.map xk),.str ((Lib.cut t1.data.toList t2.data.toList).2.1.map xk),.bool (Lib.cut t1.data.toList t2.data.toList).2.2])->
     (∃a b c,r=.aw [.str a,.str b,.bool c])->et O n [.str s,.str sep] r:=by
    intro q hq asY;obtain⟨a',b',c',rfl⟩:=asY;refine oR (F8 (by simp[aX])) (by rw[hf];exact fM) ?_
    intro w S args hg dN;obtain⟨u,v,rfl,h1,h2⟩:=CK dN;obtain⟨t1,rfl,e1⟩:=h1;obtain⟨t2,rfl,e2⟩:=h2;rw[hf];have hl:t1.size<4294967281:=by
     have:=oc hb
     rw[<-e1,yU] at this
     simp_all
    refine (hc t1 t2 w hl (aml hg hm)).mono ?_;rintro e w' ⟨rfl,k,rfl⟩;refine⟨_,rfl,amk k,fun S=>?_⟩;simp only[af,aB]
    grind
   refine key ([],[],yda) ?_ ?_
   .intro t1 t2 e1 e2;subst e1;subst e2;rw[aaj] at h;unfold Lib.cut;by_cases h0:0<=Lib.index t1.data.toList t2.data.toList
    .simp_all
    .grind
   .grind
 .cases h
def aoj(hf:O.ae n=f)(fM:∀args w,(callFunc f args).run O.P w=.ok (.enter f args) w)(hc:∀(s cs:ByteArray) (w:yj),s.size<=9223372036854775807->cs.size<4294967281->(∀(j:Nat) b,cs.data.toList[j]? =FL b->b.toNat<128)->wz O.P f #[.string s,.string cs] w fun e w'=>e=.returned (.string ⟨(Lib.trimS s.data.toList cs.data.toList).toArray⟩)/\RowKit.Below w.heap.size w w'):
  ∀aq r,trimS aq=FL r->et O n aq r:=by
 intro aq r h;unfold trimS at h
 split at h
 .rename_i s cs
  cases hb:(Gk cs&&(yO s.length 4294967281&&yO cs.length 4294967281)) with
  | false=>rw[hb] at h;cases h
  | true=>
   rw[hb] at h;simp only[yx,yc] at h;subst h;simp only[yf] at hb;refine oR JG (by rw[hf];exact fM) ?_
   intro w S args hg dN;obtain⟨u,v,rfl,h1,h2⟩:=CK dN;obtain⟨t1,rfl,rfl⟩:=h1;obtain⟨t2,rfl,rfl⟩:=h2;have pO:=oc hb.2.1;have sM:=oc hb.2.2;rw[yU] at pO sM;rw[hf];refine (hc t1 t2 w (by rw[Lib.size_eq];lia) (by rw[Lib.size_eq];lia) (aak hb.1)).mono ?_
   rintro e w' ⟨rfl,hw⟩;refine⟨_,rfl,Ja hw,fun S=>Jb ?_⟩;simp only[Lib.trimS,Lib.trimLeftS,Lib.trimRightS];rw[<-yav,S3,<-yav,S3]
 .cases h
def alh(hf:O.ae n=f)(fM:∀args w,(callFunc f args).run O.P w=.ok (.enter f args) w)(hc:∀(s:ByteArray) (c:Nat) (w:yj),c<=9223372036854775807->s.size*c<=140737488355328->wz O.P f #[.string s,.int .i64 c] w fun e w'=>e=.returned (.string ⟨(Lib.repeatL s.data.toList c).toArray⟩)/\RowKit.Below w.heap.size w w'):
  ∀aq r,Cl aq=FL r->et O n aq r:=by
 intro aq r h;unfold Cl at h
 split at h
 .rename_i s c
  cases hb:(yE c 1099511627776&&yE (s.length*c) 1099511627776) with
  | false=>rw[hb] at h;cases h
  | true=>
   rw[hb] at h;simp only[yx,yc] at h;subst h;simp only[yf] at hb;have l1:=yv hb.1;have l2:=yv hb.2;refine oR JG (by rw[hf];exact fM) ?_
   intro w S args hg dN;obtain⟨u,v,rfl,h1,h2⟩:=CK dN;obtain⟨t1,rfl,rfl⟩:=h1;subst h2;rw[hf];rw[yU] at l2;refine (hc t1 c w (by lia) (by rw[Lib.size_eq];lia)).mono ?_
   rintro e w' ⟨rfl,hw⟩;exact⟨_,rfl,Ja hw,fun S=>Jb (abW _ _).symm⟩
 .cases h
def aok(hf:O.ae n=f)(fM:∀args w,(callFunc f args).run O.P w=.ok (.enter f args) w)(hc:∀(z:Int) (w:yj),-9223372036854775808<=z->z<=9223372036854775807->CF O w->wz O.P f #[.int .i64 z] w fun e w'=>e=.returned (.string ⟨(Lib.itoa z).toArray⟩)/\Calm w w'):
  ∀aq r,KH aq=FL r->et O n aq r:=by
 intro aq r h;unfold KH at h
 split at h
 .rename_i z
  cases hb:CJ z with
  | false=>rw[hb] at h;cases h
  | true=>
   rw[hb] at h;simp only[yx,yc] at h;subst h;have hz: -9223372036854775808<=z/\z<=9223372036854775807:=by
    cases z with
    | ofNat k=>have:=oc hb;show -9223372036854775808<=(k:Int)/\(k:Int)<=9223372036854775807;lia
    | negSucc k=>have:=oc hb;lia
   refine oR JG (by rw[hf];exact fM) ?_
   intro w S args hg dN;obtain⟨u,rfl,h1⟩:=Ev dN;subst h1;rw[hf];refine (hc z w hz.1 hz.2 hg).mono ?_;rintro e w' ⟨rfl,hw⟩;exact⟨_,rfl,hw,fun S=>Jb (aoh z).symm⟩
 .cases h
def aj8(hf:O.ae n=f)(fM:∀args w,(callFunc f args).run O.P w=.ok (.enter f args) w)(hc:∀(z:Nat) (w:yj),z<18446744073709551616->CF O w->wz O.P f #[.int .u64 z,.int .i64 10] w fun e w'=>e=.returned (.string ⟨(Lib.decDigits z).toArray⟩)/\Calm w w'):
  ∀aq r,B5 aq=FL r->et O n aq r:=by
 intro aq r h;unfold B5 at h
 split at h
 .rename_i z
  cases hb:yO z 18446744073709551616 with
  | false=>rw[hb] at h;cases h
  | true=>
   rw[hb] at h;simp only[yx,yc] at h;subst h;refine oR JG (by rw[hf];exact fM) ?_
   intro w S args hg dN;obtain⟨u,v,rfl,h1,h2⟩:=CK dN;subst h1;subst h2;rw[hf];refine (hc z w (oc hb) hg).mono ?_;rintro e w' ⟨rfl,hw⟩;exact⟨_,rfl,hw,fun S=>Jb (TD z).symm⟩
 .cases h
def aol(hf:O.ae n=f)(fM:∀args w,(callFunc f args).run O.P w=.ok (.enter f args) w)(hc:∀(s:ByteArray) (z:Int) (w:yj),s.size<=18->Lib.atoi s.data.toList=FL z->wz O.P f #[.string s] w fun e w'=>e=.returned (.tuple #[.int .i64 z,.nilIface])/\Calm w w'):
  ∀aq r,KI aq=FL r->et O n aq r:=by
 intro aq r h;unfold KI at h
 split at h
 .rename_i s
  cases hb:(yO 0 s.length&&yE s.length 18) with
  | false=>rw[hb] at h;cases h
  | true=>
   rw[hb] at h;simp only[yx] at h;simp only[yf] at hb;have l1:=oc hb.1;have l2:=yv hb.2
   split at h
   .rename_i z hz;simp only[yc] at h;subst h;refine oR (F8 (by simp[aX])) (by rw[hf];exact fM) ?_
    intro w S args hg dN;obtain⟨u,rfl,h1⟩:=Ev dN;obtain⟨t1,rfl,rfl⟩:=h1;rw[yU] at l1 l2;have ha:Lib.atoi t1.data.toList=FL (z:Int):=aoi hz l1;rw[hf];refine (hc t1 z w (by rw[Lib.size_eq];exact l2) ha).mono ?_
    simp only[af,aB]
    grind
   .cases h
 .cases h
def amm(hf:O.ae n=f)(fM:∀args w,(callFunc f args).run O.P w=.ok (.enter f args) w)(hc:∀(x y:Nat) (w:yj),x<18446744073709551616->y<18446744073709551616->wz O.P f #[.int .u64 x,.int .u64 y] w fun e w'=>e=.returned (.tuple #[.int .u64 ((x*y/18446744073709551616:Nat):Int),.int .u64 ((x*y%18446744073709551616:Nat):Int)])/\w'=w):
  ∀aq r,zC aq=FL r->et O n aq r:=by
 intro aq r h;unfold zC at h
 split at h
 .rename_i x y
  cases hb:(yO x 18446744073709551616&&yO y 18446744073709551616) with
  | false=>rw[hb] at h;cases h
  | true=>
   rw[hb] at h;simp only[yx,yc] at h;subst h;simp only[yf] at hb;refine oR (F8 (by simp[aX])) (by rw[hf];exact fM) ?_
   intro w S args hg dN;obtain⟨u,v,rfl,h1,h2⟩:=CK dN;subst h1;subst h2;rw[hf];refine (hc x y w (oc hb.1) (oc hb.2)).mono ?_;rintro e w' ⟨rfl,rfl⟩;refine⟨_,rfl,Calm.refl,fun S=>?_⟩;simp only[af,aB]
   grind
 .cases h
def amn(hf:O.ae n=f)(fM:∀args w,(callFunc f args).run O.P w=.ok (.enter f args) w)(hc:∀(x:Int) (w:yj),0<=x->x<=18446744073709551615->wz O.P f #[.int .u64 x] w fun e w'=>e=.returned (.int .i64 (Lib.bitLen x.toNat:Nat))/\w'=w):
  ∀aq r,JS aq=FL r->et O n aq r:=by
 intro aq r h;unfold JS at h
 split at h
 .rename_i x
  cases hb:yO x 18446744073709551616 with
  | false=>rw[hb] at h;cases h
  | true=>
   rw[hb] at h;simp only[yx,yc] at h;subst h
   have:=oc hb
   refine oR Ui (by rw[hf];exact fM) ?_
   intro w S args hg dN;obtain⟨u,rfl,h1⟩:=Ev dN;subst h1;rw[hf];refine (hc (ybE x) w (yas x) (by show (x:Int)<=_;lia)).mono ?_
   rintro e w' ⟨rfl,rfl⟩;refine⟨_,rfl,Calm.refl,fun S=>?_⟩;rw[TE];rfl
 .cases h
def aom(hf:O.ae n=f)(fM:∀args w,(callFunc f args).run O.P w=.ok (.enter f args) w)(hc:∀(x:Int) (w:yj),0<=x->x<=18446744073709551615->wz O.P f #[.int .u64 x] w fun e w'=>e=.returned (.int .i64 (64-(Lib.bitLen x.toNat:Nat)))/\w'=w):
  ∀aq r,GW aq=FL r->et O n aq r:=by
 intro aq r h;unfold GW at h
 split at h
 .rename_i x
  cases hb:yO x 18446744073709551616 with
  | false=>rw[hb] at h;cases h
  | true=>
   rw[hb] at h;simp only[yx,yc] at h;subst h
   have:=oc hb
   have hle:∀f x,Lib.bitLenAux f x<=f:=by
    intro f
    induction f with
    | zero=>intro x;exact yu _
    | succ f ih=>
     intro x;rw[Lib.bitLenAux]
     grind
   refine oR Ui (by rw[hf];exact fM) ?_
   intro w S args hg dN;obtain⟨u,rfl,h1⟩:=Ev dN;subst h1;rw[hf];refine (hc (ybE x) w (yas x) (by show (x:Int)<=_;lia)).mono ?_
   rintro e w' ⟨rfl,rfl⟩;refine⟨_,rfl,Calm.refl,fun S=>?_⟩;simp only[af,TE];show Value.int .i64 (64-(Lib.bitLenAux 64 x:Int))=Value.int .i64 ((64-Lib.bitLenAux 64 x:Nat):Int)
   grind
 .cases h
def akA(hf:O.ae n=f)(hc:∀(b:Nat) (w:yj),(callFunc f #[.float .f64 b]).run O.P w=.ok (.value (.int .u64 b)) w):
  ∀aq r,TC aq=FL r->et O n aq r:=by
 intro aq r h;unfold TC at h
 split at h
 .rename_i b;simp only[yc] at h;subst h;refine NO Ui ?_;intro w S args dN;obtain⟨u,rfl,h1⟩:=Ev dN;simp only[af] at h1;subst h1;rw[hf];exact⟨_,hc b w,fun S=>rfl⟩
 .cases h
def aj4(hf:O.ae n=f)(hc:∀(b:Nat) (w:yj),(callFunc f #[.int .u64 b]).run O.P w=.ok (.value (.float .f64 b)) w):
  ∀aq r,Sj aq=FL r->et O n aq r:=by
 intro aq r h;unfold Sj at h
 split at h
 .rename_i b;simp only[yc] at h;subst h;refine NO aqi ?_;intro w S args dN;obtain⟨u,rfl,h1⟩:=Ev dN;simp only[af] at h1;subst h1;rw[hf];exact⟨_,hc b w,fun S=>rfl⟩
 .cases h
def amo(hf:O.ae n=f)(hc:∀(x y c:Nat) (w:yj),c<=1->(callFunc f #[.int .u64 x,.int .u64 y,.int .u64 c]).run O.P w=.ok (.value (.tuple #[.int .u64 (((x+y+c)%18446744073709551616:Nat):Int),.int .u64 (((x+y+c)/18446744073709551616:Nat):Int)])) w):
  ∀aq r,oW aq=FL r->et O n aq r:=by
 intro aq r h;unfold oW at h
 split at h
 .rename_i x y c
  cases hb:(yE c 1&&(yO x 18446744073709551616&&yO y 18446744073709551616)) with
  | false=>rw[hb] at h;cases h
  | true=>
   rw[hb] at h;simp only[yx,yc] at h;subst h;simp only[yf] at hb;refine NO (F8 (by simp[aX])) ?_;intro w S args dN;obtain⟨u,v,z,rfl,h1,h2,h3⟩:=aeQ dN;subst h1;subst h2;subst h3;rw[hf];refine⟨_,hc x y c w (yv hb.1),fun S=>?_⟩;simp only[af,aB]
   grind
 .cases h
def amp(hf:O.ae n=f)(hc:∀(x y b:Nat) (w:yj),b<=1->(callFunc f #[.int .u64 x,.int .u64 y,.int .u64 b]).run O.P w=.ok (.value (.tuple #[.int .u64 (((x+18446744073709551616-y-b)%18446744073709551616:Nat):Int),.int .u64 ((if x<y+b then 1 else 0:Nat):Int)])) w):
  ∀aq r,Cp aq=FL r->et O n aq r:=by
 intro aq r h;unfold Cp at h
 split at h
 .rename_i x y c
  cases hb:(yE c 1&&(yO x 18446744073709551616&&yO y 18446744073709551616)) with
  | false=>rw[hb] at h;cases h
  | true=>
   rw[hb] at h;simp only[yx,yc] at h;subst h;simp only[yf] at hb;have eC:=yv hb.1;have hy:=oc hb.2.2;refine NO (F8 (by simp[aX])) ?_;intro w S args dN;obtain⟨u,v,z,rfl,h1,h2,h3⟩:=aeQ dN;subst h1;subst h2;subst h3;rw[hf];refine⟨_,hc x y c w eC,fun S=>?_⟩;simp only[af,aB];refine⟨_,rfl,_,_,rfl,?_,_,_,rfl,?_,rfl⟩
   .grind
   .congr 1
    by_cases h:x<y+c
    .have:yE (y+c) x=yda:=by
      cases hq:yE (y+c) x with
      | false=>rfl
      | true=>have:=yv hq;lia
     grind
    .rw [yB (by lia),yt h];rfl
 .cases h
end
end
end
end
end VE
