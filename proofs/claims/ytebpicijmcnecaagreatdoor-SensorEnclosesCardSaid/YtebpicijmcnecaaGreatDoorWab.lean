import Derived.RangeFuncLeaves
import Derived.OrdersIn
import Derived.LoopNIn
import Derived.RangeFuncIn
import Derived.Lib.Index
import Derived.Lib.ItoaNum
import Derived.Lib.Atoi
import Derived.Lib.BitFns
import Derived.Lib.Repeat
import Derived.Lib.SlTrimSet
import Derived.Shelf.Strings.Cut
import Derived.Shelf.Strings.Prefix
import Derived.Shelf.Small.Bits
import Derived.RowKit
import Derived.Test.YtebpicijmcnecaaGreatDoorWaa
set_option linter.all false
set_option maxRecDepth 100000
open Array renaming getD_eq_getD_getElem?->wj,getElem?_append_left->yaO,getElem?_eq_getElem->uV,getElem?_eq_none->ybc,getElem?_eq_some_iff->xE,replicate->uK
open Bool renaming and_eq_true->ye,false_eq_true->yD,not_eq_true'->vW,or_eq_false_iff->ybp,or_eq_true->uN
open Classical renaming em->tg
open Go renaming Call->yax,Calls->wC,Code->vA,Deferred->yaK,Ending->ybq,Exit->uJ,Func->ybe,FuncId->yal,LeavesInM->ycX,Loop->td,Next->ybf,Obj->yaJ,Oper->yV,Operand->xB,Program->xy,ResultVar->ycV,RoundIn->ybM,TypeId->yA,Value->yh,World->yk
open Int renaming natCast_nonneg->yaR,ofNat->ybV
open List renaming all_eq_true->ybO,countP_cons->ybP,getD_eq_getElem?_getD->yS,getElem?_cons_succ->ybd,getElem?_cons_zero->uy,getElem?_eq_getElem->xb,getElem?_eq_some_iff->xN,length_append->yJ,length_cons->yv,length_drop->xU,length_map->xi,length_nil->yI,length_take->yR,mapM_cons->uU,map_append->xG,map_cons->xe,map_reverse->yaX,mem_append->wD,mem_cons->wB,mem_cons_of_mem->wJ,mem_cons_self->vj,mem_range->yat,size_toArray->tF
open Nat renaming add_mul->xY,add_zero->yZ,beq->yo,ble->yC,ble_eq_true_of_le->yy,blt->yM,eq_of_beq_eq_true->yf,eq_of_mul_eq_mul_right->uW,eq_or_lt_of_le->vJ,eq_zero_or_pos->xx,le_of_ble_eq_true->yt,le_of_lt_succ->ud,le_refl->yx,le_trans->xu,lt_of_lt_of_le->yG,lt_or_ge->vI,lt_succ_self->yaC,mul_le_mul_right->yT,strongRecOn->vT,testBit->vH,testBit_or->yce,zero_add->yd,zero_le->tD
open Ne renaming symm->ycW
open Option renaming bind_some->wE,getD_some->xW,map_some->wO
open Option.some renaming injEq->yc
open Prod.mk renaming injEq->ym
open UInt8 renaming ofNat->yct,toNat->xn,toNat_ofNat'->ybt
open Option renaming some->F5,none->F6
open Bool renaming true->ydo,false->ydp
namespace VE
open Go (IntKind)
section
open Go
section
variable {tmps:Array yh}{seen:List Nat}
section
variable {O:bq}{m m':Mp}{S:Nat->Prop}{w:yk}{f:Nat->Option Nat}
def G0(f:Nat->Option Nat)(m m':Mp):Prop:=∀id j,f id=F5 j->m' j=m id
mutual
def acV{ab:Nat->Nat}(hf:G0 f m m'):∀(v:AV) (u:yh),ae ab m S w v u->ae ab m' S w (br f v) u
 | .int _ _,_,h | .bool _,_,h | .ao _ _,_,h | .df _ _ _,_,h | .str _,_,h | .kL,_,h | .af,_,h | .ir,_,h | .jw,_,h | .undef,_,h=>by
  simpa only[br,ae] using h
 | .ptr id o,u,h=>by
  simp only[br]
  cases hi:f id with
  | none=>simp only[ae]
  | some j=>
   simp only[ae] at h ⊢;rw[hf id j hi];exact h
 | .bt cs,u,h=>by
  simp only[br];exact sR (fun _ h=>h) (fun _ _=>rfl) _ _ (by simp[aV]) h
 | .ap ex n cs,u,h=>by
  simp only[br];exact sR (fun _ h=>h) (fun _ _=>rfl) _ _ (by simp[aV]) h
 | .cM _ _ _ _,u,h=>by simp only[ae] at h
 | .ay id o n,u,h=>by
  simp only[br]
  cases hi:f id with
  | none=>simp only[ae]
  | some j=>
   simp only[ae] at h ⊢;rw[hf id j hi];exact h
 | .fn (.f g) first cap,u,h=>by
  simp only[br,ae] at h ⊢;obtain⟨fi,ca,h1,h2,h3⟩:=h;exact⟨fi,ca,h1,Cq hf first _ h2,Cq hf cap _ h3⟩
 | .fn (.y l) first cap,u,h=>by
  simp only[br]
  cases hi:f l with
  | none=>simp only[ae]
  | some j=>
   simp only[ae] at h ⊢;rw[hf l j hi];exact h
 | .map id,u,h=>by
  simp only[br]
  cases hi:f id with
  | none=>simp only[ae]
  | some j=>
   simp only[ae] at h ⊢;rw[hf id j hi];exact h
 | .jx ks vs,u,h=>by
  simp only[br];exact sR (fun _ h=>h) (fun _ _=>rfl) _ _ (by simp[aV]) h
 | .it id,u,h=>by
  simp only[br]
  cases hi:f id with
  | none=>simp only[ae]
  | some j=>
   simp only[ae] at h ⊢;rw[hf id j hi];exact h
 | .agg cs,u,h=>by
  simp only[br,ae] at h ⊢;obtain⟨xs,h1,h2⟩:=h;exact⟨xs,h1,Cq hf cs _ h2⟩
 | .aw cs,u,h=>by
  simp only[br,ae] at h ⊢;obtain⟨xs,h1,h2⟩:=h;exact⟨xs,h1,Cq hf cs _ h2⟩
def Cq{ab:Nat->Nat}(hf:G0 f m m'):∀(vs:List AV) (us:List yh),aB ab m S w vs us->aB ab m' S w (dP f vs) us
 | [],us,h=>by simpa only[dP,aB] using h
 | v::r,us,h=>by
  simp only[dP,aB] at h ⊢;have⟨u,t,h1,h2,h3⟩:=h;exact⟨u,t,h1,acV hf v u h2,Cq hf r t h3⟩
end
def amd{ab:Nat->Nat}(hf:G0 f m m'){cs:List AV}{b o:Nat}(h:bR ab m S w cs b o):bR ab m' S w (dP f cs) b o:=by
 have⟨us,h1,_,h3⟩:=zR cs b o h;exact Gf _ us o (Cq hf cs us h1) h3
def TG:∀cs:List AV,(dP f cs).length=cs.length
 | []=>rfl
 | c::r=>by simp[dP,TG r]
def abu:∀(tm:Env) (i:Nat),aj (gn f tm) i=br f (aj tm i)
 | [],i=>by simp[gn,aj,br]
 | (j,v)::r,i=>by
  simp only[gn,aj]
  cases yo j i with
  | true=>rfl
  | false=>exact abu r i
def aaz(tm:Env)(i:Nat):∀live:List Nat,aj (cd tm live) i=aj tm i\/aj (cd tm live) i=.undef
 | []=>.inr rfl
 | j::r=>by
  simp only[cd,aj]
  cases hb:yo j i with
  | true=>rw[yf hb];exact .inl rfl
  | false=>exact aaz tm i r
def abw{tm:Env}(hf:G0 f m m')(h:bT O m S w tm tmps):bT O m' S w (gn f tm) tmps:=fun i=>by
 rw[abu];exact acV hf _ _ (h i)
def an6{id j:Nat}{o:Obj}{p:Pl}(hf:G0 f m m')(hm:m id=F5 p)(hj:m' j=F5 p)(h:fk O m S w id o):fk O m' S w j (jh f o):=by
 cases o with
 | cells rw pu ex sz cs=>
  have⟨q,arr,t,h1,h2,h3,h4,h5,h6,h7,h8,h9,iW⟩:=h;rw[hm] at h1;injection h1 with h1;subst h1
  cases pu with
  | true=>exact⟨p,arr,t,hj,h2,h3,h4,h5,h6,Ci (fun _ h=>h) (fun _ _=>rfl) _ _ _ (h8 rfl) rfl h7,h8,h9,iW⟩
  | false=>exact⟨p,arr,t,hj,h2,h3,by rw[yO,TG];exact h4,h5,by rw[yO,TG];exact h6,amd hf h7,by simp,h9,iW⟩
 | mp rw ks vs=>
  have⟨q,es,clock,h1,h2,h3,h4,h5,h6⟩:=h;rw[hm] at h1;injection h1 with h1;subst h1
  exact⟨p,es,clock,hj,h2,Cq hf _ _ h3,Cq hf _ _ h4,h5,h6⟩
 | si s pos=>
  have⟨q,t,h1,h2,h3,h4⟩:=h;rw[hm] at h1;injection h1 with h1;subst h1
  exact⟨p,t,hj,h2,h3,h4⟩
 | lp tm ps as_ body st pe=>
  have⟨q,l,hi,h1,h2,h3,h4,h5,h6,h7,h8⟩:=h;rw[hm] at h1;injection h1 with h1;subst h1
  exact⟨p,l,hi,hj,h2,h3,h4,h5,h6,abw hf h7,h8⟩
def aaA{i:Nat}:∀{l:List Nat} {k j:Nat},iw i l k=F5 j->k<=j/\l[j-k]? =F5 i
 | [],k,j,h=>by simp[iw] at h
 | x::r,k,j,h=>by
  simp only[iw] at h
  cases hb:yo x i with
  | true=>
   simp_all
  | false=>
   rw[hb] at h;have⟨h1,h2⟩:=aaA h
   grind
def rz{a b:Nat}:yM a b=ydo↔a<b:=by simp_all
def Nz{hp:Hp}{j:Nat}{o':Obj}:∀{l:List Nat} {k:Nat} {acc:Hp},ak (eY hp f l k acc) j=F5 o'->
  (∃i id o,l[i]? =F5 id/\j=k+i/\ak hp id=F5 o/\o'=jh f o)\/ak acc j=F5 o'
 | [],k,acc,h=>.inr h
 | x::r,k,acc,h=>by
  simp only[eY] at h
  cases hx:ak hp x with
  | none=>
   simp only[hx] at h;rcases Nz h with ⟨i,id,o,h1,h2,h3,h4⟩ | h
   .exact .inl ⟨i+1,id,o,by simpa using h1,by lia,h3,h4⟩
   .grind
  | some o=>
   simp only[hx] at h;rcases Nz h with ⟨i,id,o,h1,h2,h3,h4⟩ | h
   .exact .inl ⟨i+1,id,o,by simpa using h1,by lia,h3,h4⟩
   .rw [fF] at h;by_cases hc:k=j
    .simp only [hc,xJ,yc] at h;exact .inl ⟨0,x,o,by simp,by lia,hx,h.symm⟩
    .grind
def NA{base:Nat}{j:Nat}{o':Obj}:∀{hp:Hp},ak (gj base f hp) j=F5 o'->j<base/\∃o,ak hp j=F5 o/\o'=jh f o
 | [],h=>by simp[gj,ak] at h
 | (i,q)::r,h=>by
  simp only[gj] at h
  cases hb:yM i base with
  | true=>
   rw[hb] at h;simp only[yu] at h;rw[fF] at h;by_cases hc:i=j
   .simp only [hc,xJ,yc] at h;exact⟨by rw[<-hc];exact rz.1 hb,q,by rw[fF];simp[hc],h.symm⟩
   .simp only [hc,xz] at h;have⟨h1,o,h2,h3⟩:=NA h;exact⟨h1,o,by rw[fF];simp[hc,h2],h3⟩
  | false=>
   rw[hb] at h;have⟨h1,o,h2,h3⟩:=NA h;have hc:¬i=j:=fun e=>by
    have:=rz.2 h1
    grind
   exact⟨h1,o,by rw[fF];simp[hc,h2],h3⟩
def rN(m:Mp)(base:Nat)(seen:List Nat):Mp:=fun j=>
 if j<base then m j else match seen[j-base]? with
  | some id=>if ij base seen id=F5 j then m id else F6
  | none=>F6
def Tg{base:Nat}{j:Nat}{p:Pl}(h:rN m base seen j=F5 p):∃id,ij base seen id=F5 j/\m id=F5 p/\(j<base->id=j):=by
 unfold rN at h
 split at h
 .rename_i hj;exact⟨j,by simp[ij,rz.2 hj],h,fun _=>rfl⟩
 .grind
def an7{base:Nat}:G0 (ij base seen) m (rN m base seen):=by
 intro id j h;have h0:=h;unfold ij at h
 cases hb:yM id base with
 | true=>
  rw[hb] at h;simp only[yu,yc] at h;subst h;simp[rN,rz.1 hb]
 | false=>
  rw[hb] at h;have⟨h1,h2⟩:=aaA h
  have:¬j<base:=by lia
  simp only[rN,this,xz,h2,h0,xJ]
def SO{s:St}{live:List Nat}(ht:bT O m S w s.tm tmps)(hh:aT O m S w s.hp s.ct)(hb:s.base<=s.ct):
  ∃m',bT O m' S w (bE live s).tm tmps/\aT O m' S w (bE live s).hp (bE live s).ct/\(bE live s).base=s.base/\s.base<=(bE live s).ct/\cg m S w s.hp m' S w (bE live s).hp s.base:=by
 simp only[bE];generalize Pj:reach s.hp s.base 100000 (fj (cd s.tm live)++dO s.base s.hp) []=seen;have hr:=an7 (m:=m) (base:=s.base) (seen:=seen);have aM:∀j p,rN m s.base seen j=F5 p->j<s.base+seen.length:=by
  intro j p h;unfold rN at h
  grind
 have back:∀j o' p,ak (eY s.hp (ij s.base seen) seen s.base (gj s.base (ij s.base seen) s.hp)) j=F5 o'->rN m s.base seen j=F5 p->
   ∃id o,ij s.base seen id=F5 j/\ak s.hp id=F5 o/\m id=F5 p/\o'=jh (ij s.base seen) o:=by
  intro j o' p ho hm;have⟨id,h1,h2,h3⟩:=Tg hm;rcases Nz ho with ⟨i,XB,o,g1,g2,g3,g4⟩ | ho
  .have hj:¬j<s.base:=by lia
   have:rN m s.base seen j=if ij s.base seen XB=F5 j then m XB else F6:=by
    simp only[rN,hj,xz,show j-s.base=i by lia,g1]
   grind
  .have ⟨g1,o,g2,g3⟩:=NA ho
   grind
 refine⟨rN m s.base seen,?_,⟨?_,aM,?_,hh.slt,?_,?_,hh.mW,hh.gH,fun j o' ho=>(by
  rcases Nz ho with ⟨i,XB,o,g1,g2,g3,g4⟩ | ho
  .grind
  .have:=(NA ho).1;lia)⟩,by trivial,by lia,⟨rfl,rfl,rfl,yx _,fun _ _ _=>rfl,fun _ h=>h,fun _ _=>rfl,fun _ h=>.inl h,?_,?_,fun _ r h=>⟨r,h⟩⟩⟩
 .refine abw hr (fun i=>?_);rcases aaz s.tm i live with h | h
  .rw [h];exact ht i
  .rw [h];simp only[ae]
 .intro j o' p ho hm;obtain⟨id,o,h1,h2,h3,rfl⟩:=back j o' p ho hm;exact an6 hr h3 hm (hh.obj id o p h2 h3)
 .intro i j oi oj pi pj hi hj bG gX e;have⟨idi,o1,a1,a2,a3,_⟩:=back i oi pi hi bG;have⟨idj,o2,b1,b2,b3,_⟩:=back j oj pj hj gX
  have:=hh.inj idi idj o1 o2 pi pj a2 b2 a3 b3 e
  grind
 .intro j p hm;have⟨id,_,h2,_⟩:=Tg hm;exact hh.blt id p h2
 .intro j p hm;have⟨id,_,h2,_⟩:=Tg hm;exact hh.low id p h2
 .rintro b ⟨j,o',p,h1,h2,h3⟩;have⟨id,o,_,g2,g3,_⟩:=back j o' p h1 h2;exact .inl ⟨id,o,p,g2,g3,h3⟩
 .intro id p hid hm;simp[rN,hid,hm]
end
end
end
section
open Go
section
variable {v:AV}{an:Hp}{lo:Nat}{u:yh}
section
variable {O:bq}{m:Mp}{S:Nat->Prop}{w:yk}{hp:Hp}{ct:Nat}
def abx(hh:aT O m S w hp ct)(id:Nat):aT O m S w (c7 hp id) ct:=by
 have sub:∀i o,ak (c7 hp id) i=F5 o->ak hp i=F5 o:=fun i o h=>by
  rw[JA] at h
  grind
 exact⟨fun i o p h hm=>hh.obj i o p (sub i o h) hm,hh.lt,fun i j oi oj pi pj hi hj=>hh.inj i j oi oj pi pj (sub i oi hi) (sub j oj hj),hh.slt,hh.blt,hh.low,hh.mW,hh.gH,fun i o h=>hh.aM i o (sub i o h)⟩
def acW{id b:Nat}(h:er m (c7 hp id) b):er m hp b:=by
 have⟨i,o,p,h1,h2,h3⟩:=h;rw[JA] at h1;by_cases hc:id=i
 .grind
 .simp only [hc,xz] at h1;exact⟨i,o,p,h1,h2,h3⟩
def Zl(hh:aT O m S w hp ct){id:Nat}{o:Obj}{p:Pl}(hg:ak hp id=F5 o)(hm:m id=F5 p):¬er m (c7 hp id) p.b:=by
 rintro⟨i,o',q,h1,h2,h3⟩;rw[JA] at h1;by_cases hc:id=i
 .grind
 .simp only [hc,xz] at h1;exact hc (hh.inj i id o' o q p h1 hg h2 hm h3).symm
def aqk(hd:lE hp an){b:Nat}(h:er m an b):er m hp b:=by
 have⟨i,o,p,h1,h2,h3⟩:=h
 have:=hd i
 rw[h1] at this
 cases hq:ak hp i with
 | none=>rw[hq] at this;cases this
 | some q=>exact⟨i,q,p,hq,h2,h3⟩
def ZP{v':AV}{n:Nat}(hh:aT O m S w hp ct)(hf:freeze n hp v=F5 (v',an))(hv:ae O.ab m S w v u):
  ∃S',aT O m S' w an ct/\(∀b,S b->S' b)/\(∀b,S' b->S b\/er m hp b)/\aV v'=ydo/\ae O.ab ff S' w v' u/\jA O.ab S' w lo v' u []:=by
 have⟨h1,h2,h3⟩:=Tc (O:=O) hf;have⟨S',g1,g2,g3⟩:=acN hh h1 (fun id o p ho hm=>by
  have:=h2 id
  rw[ho] at this
  cases hq:ak hp id with
  | none=>rw[hq] at this;cases this
  | some q=>exact⟨q,rfl⟩) (yx _) (fun id o ho=>(by
  have:=h2 id
  rw[ho] at this
  cases hq:ak hp id with
  | none=>rw[hq] at this;cases this
  | some q=>exact hh.aM id q hq))
 have⟨k1,k2⟩:=h3 an m S' w ct cR.refl g1;have hr:=k1 u (mN (fun _ _ h=>h) g2 (fun _ _=>rfl) v u hv);have bB:ae O.ab ff S' w v' u:=sR (fun _ h=>h) (fun _ _=>rfl) v' u k2 hr;refine⟨S',g1,g2,g3,k2,bB,?_⟩
 cases v' with
 | cM _ _ _ _=>simp[aV] at k2
 | _=>exact⟨rfl,bB,k2⟩
def ame{S':Nat->Prop}{bs:List Nat}(hS:∀b,S b->S' b)(hn:∀b,b∈bs->¬S' b)(h:jA O.ab S w lo v u bs):jA O.ab S' w lo v u bs:=by
 cases v with
 | cM ex sz n cs=>
  obtain⟨b,o,c,arr,t,rfl,rfl,g1,g2,g3,g4,g5,g6,g7,g8,g9⟩:=h;exact⟨b,o,c,arr,t,rfl,rfl,g1,g2,g3,hn b (by simp),g5,g6,g7,Ci hS (fun _ _=>rfl) cs b o g9 rfl g8,g9⟩
 | _=>simp only[jA] at h ⊢;exact⟨h.1,sR hS (fun _ _=>rfl) _ _ h.2.2 h.2.1,h.2.2⟩
def aaB{v':AV}{n:Nat}(hh:aT O m S w hp ct)(hf:pX n hp v=F5 (v',an))(hv:ae O.ab m S w v u)(aZ:∀b,er m hp b->lo<=b):
  ∃S' bs,aT O m S' w an ct/\(∀b,S b->S' b)/\(∀b,S' b->S b\/er m hp b)/\jA O.ab S' w lo v' u bs/\bs.Nodup/\(∀b,b∈bs->er m hp b/\¬er m an b)/\(∀b,er m an b->er m hp b):=by
 have frozen:freeze n hp v=F5 (v',an)->∃S' bs,aT O m S' w an ct/\(∀b,S b->S' b)/\(∀b,S' b->S b\/er m hp b)/\jA O.ab S' w lo v' u bs/\bs.Nodup/\(∀b,b∈bs->er m hp b/\¬er m an b)/\(∀b,er m an b->er m hp b):=by
  intro hz;have⟨S',g1,g2,g3,g4,g5,g6⟩:=ZP (lo:=lo) hh hz hv
  exact⟨S',[],g1,g2,g3,g6,by simp,by simp,fun b hb=>aqk (Tc (O:=O) hz).2.1 hb⟩
 unfold pX at hf
 split at hf
 .rename_i id o k
  split at hf
  .rename_i ex sz cs hg
   cases hc:yC (o+k*sz) cs.length with
   | false=>rw[hc] at hf;cases hf
   | true=>
    rw[hc] at hf;obtain⟨rfl,rfl⟩:=hf;have hle:=yt hc;obtain⟨p,c,hm,rfl,h1,h2⟩:=hv;have⟨p',arr,t,g1,g2,g3,g4,g5,g6,g7,g8,g9,g10⟩:=hh.obj id _ _ hg hm;rw[hm] at g1;injection g1 with g1
    subst g1;rw[g3] at h2;refine⟨S,[p.b],abx hh id,fun _ h=>h,fun _ h=>.inl h,?_,by simp,?_,fun b hb=>acW hb⟩
    .refine ⟨p.b,p.o+o,c,arr,t,rfl,rfl,h1,?_,aZ _ (Ke hg hm),g9 rfl,g2,?_,by lia,?_,Ch _ (A6 _ _ (g8 rfl))⟩
     .intro hx;simp only[ye] at hx;have e1:=yf hx.2;have e2:=rz.1 hx.1.2;have e3:=g6 hx.1.1
      have:c*sz=k*sz:=by lia
      exact uW e2 this
     .simp only [slice,yR,xU];lia
     .exact Ci (fun _ h=>h) (fun _ _=>rfl) _ _ _ (Ch _ (A6 _ _ (g8 rfl))) rfl (A5 _ _ _ _ (sN _ _ _ _ g7))
    .intro b hb;simp only[List.mem_singleton] at hb;subst hb;exact⟨Ke hg hm,Zl hh hg hm⟩
  .grind
 .grind
def ZQ{lo n:Nat}:∀{vs eF:List AV} {us:List yh} {hp an:Hp} {S:Nat->Prop},aT O m S w hp ct->Cv n hp vs=F5 (eF,an)->aB O.ab m S w vs us->(∀b,er m hp b->lo<=b)->
  ∃S' bs,(∀b,S b->S' b)/\(∀b,S' b->S b\/er m hp b)/\mz O.ab S' w lo eF us bs/\bs.Nodup/\(∀b,b∈bs->er m hp b)/\(∀b,S' b->b<w.heap.size)
 | [],eF,us,hp,an,S,hh,hf,hv,aZ=>by
  obtain⟨rfl,rfl⟩:=hf;exact⟨S,[],fun _ h=>h,fun _ h=>.inl h,by simp only[mz];exact⟨hv,by trivial⟩,by simp,by simp,hh.slt⟩
 | v::r,eF,us,hp,an,S,hh,hf,hv,aZ=>by
  simp only[Cv] at hf
  cases h1:pX n hp v with
  | none=>simp[h1] at hf
  | some q=>
   have⟨v1,aY⟩:=q;simp only[h1] at hf
   cases h2:Cv n aY r with
   | none=>simp[h2] at hf
   | some q2=>
    simp only[h2,yc,ym] at hf;obtain⟨rfl,rfl⟩:=hf;obtain⟨u,t,rfl,dY,dM⟩:=hv;have⟨S1,b1,k1,k2,k3,k4,k5,k6,k7⟩:=aaB (lo:=lo) hh h1 dY aZ;have⟨S2,b2,g1,g2,g3,g4,g5,g6⟩:=ZQ (us:=t) k1 h2 (iJ (fun _ _ h=>h) k2 (fun _ _=>rfl) _ _ dM) (fun b hb=>aZ b (k7 b hb));have VV:∀b,b∈b1->¬S2 b:=by
     intro b hb hs;rcases g2 b hs with h | h
     .cases v1 with
      | cM ex sz n cs=>
       simp only[jA] at k4
       grind
      | _=>simp only[jA] at k4;rw[k4.1] at hb;cases hb
     .grind
    refine⟨S2,b1++b2,fun b hb=>g1 b (k2 b hb),fun b hb=>?_,?_,?_,?_,g6⟩
    .grind
    .simp only [mz];exact⟨u,t,b1,b2,rfl,rfl,ame g1 VV k4,g3⟩
    .grind
    .grind
def Th{lo:Nat}:∀{cs:List AV} {us:List yh},aE cs=ydo->aB O.ab ff S w cs us->mz O.ab S w lo cs us []
 | [],us,_,h=>by simp only[aB] at h;exact⟨h,by trivial⟩
 | c::r,us,hp,h=>by
  obtain⟨u,t,rfl,h1,h2⟩:=h;simp only[aE,ye] at hp;refine⟨u,t,[],[],rfl,rfl,?_,Th hp.2 h2⟩
  cases c with
  | cM _ _ _ _=>simp[aV] at hp
  | _=>exact⟨rfl,h1,hp.1⟩
def amf{r:AV}(hh:aT O m S w hp ct)(hr:result hp v=F5 r)(hv:ae O.ab m S w v u)(aZ:∀b,er m hp b->lo<=b):
  ∃S',(∀b,S b->S' b)/\(∀b,S' b->S b\/er m hp b)/\(∀b,S' b->b<w.heap.size)/\qh O.ab S' w lo r u:=by
 unfold result at hr
 split at hr
 .rename_i vs
  split at hr
  .cases h1:Cv deep hp vs with
   | none=>simp[h1] at hr
   | some q=>
    simp only[h1,yc] at hr;subst hr;obtain⟨us,rfl,hv⟩:=hv;have⟨S',bs,g1,g2,g3,g4,g5,g6⟩:=ZQ (lo:=lo) hh h1 hv aZ;exact⟨S',g1,g2,g6,us,bs,rfl,g3,g4⟩
  .cases h1:freeze deep hp (.aw vs) with
   | none=>simp[h1] at hr
   | some q=>
    have⟨v',an⟩:=q;simp only[h1,yc] at hr;subst hr;have⟨S',g1,g2,g3,g4,g5,g6⟩:=ZP (lo:=lo) hh h1 hv;refine⟨S',g2,g3,g1.slt,?_⟩
    cases v' with
    | aw cs=>
     obtain⟨xs,rfl,g5⟩:=g5;exact⟨xs,[],rfl,Th (by simpa[aV] using g4) g5,by simp⟩
    | _=>exact⟨[],g6⟩
 .rename_i Rg
  cases h1:pX deep hp v with
  | none=>simp[h1] at hr
  | some q=>
   have⟨v',an⟩:=q;simp only[h1,yc] at hr;subst hr;have⟨S',bs,g1,g2,g3,g4,_⟩:=aaB (lo:=lo) hh h1 hv aZ;refine⟨S',g2,g3,g1.slt,?_⟩
   cases v' with
   | aw cs=>
    obtain⟨rfl,h2,h3⟩:=g4;obtain⟨xs,rfl,h2⟩:=h2;exact⟨xs,[],rfl,Th (by simpa[aV] using h3) h2,by simp⟩
   | _=>exact⟨bs,g4⟩
end
end
end
section
open Go
def WF(ro:Option Nat):Fence:={Fence.wide with round:=ro}
section
variable {O:bq}
def adT(O:bq)(hp:Hp)(ct:Nat)(l:Nat)(xs:List AV)(v:AV)(an:Hp)(aH:Nat):Prop:=
 ∀(m:Mp) (S:Nat->Prop) (w:yk) (args:Array yh) (p:Pl),aT O m S w hp ct->m l=F5 p->aB O.ab m S w xs args.toList->
  ∃f tmps assign body,(Instr.yield p.b args).run O.P w=.ok (.round p.b f tmps assign body) w/\ybM Fence.wide 0 O.P p.b f tmps assign body w (Bb O m S w hp ct v an aH)
structure pW(O:bq)(run:cu):Prop where
 pure:∀n aq r,bW O.prog O.aI run n aq=F5 r->eD O n aq r
 heap:∀hp ct n aq v an aH,js O.prog O.aI run hp ct n aq=F5 (v,an,aH)->CU O n hp ct aq v an aH
 round:∀hp ct l xs v an aH,ie run hp ct l xs=F5 (v,an,aH)->adT O hp ct l xs v an aH
end
section
variable {P:xy}{o:yV}{a:Act}{w:yk}{ro:Option Nat}{next:Act->yk->Prop}{Q:uJ->Act->yk->Prop}
def NB{c:yax}{f:xB}(ho:o.op=.call c)(hc:c.callee=.value f){g:yal}{fi ca:Array yh}(hf:a.eval f=.func (.func g) fi ca){R:ybq->yk->Prop}(h:Cx P g (fi++c.args.map a.eval++ca) w R)(hn:∀e w',R e w'->∃u,e=.returned u/\next (a.put o.dst u) w'):o.wpIn (WF ro) 0 P a w next Q:=by
 have dV:(o.semAt ro a.eval).run P w=(callFunc g (fi++c.args.map a.eval++ca)).run P w:=by
  rw[Oper.semAt_eq _ _ _ (fun c' h'=>by rw[ho] at h';cases h')];simp only[execOp,ho,resolve,hc,Deferred.ofValue,hf,Sem.run_bind,Sem.run_pure,Result.andThen_ok,invoke]
 refine⟨fun _ _=>trivial,?_⟩;show o.uponIn (WF ro) 0 P a next Q ((o.semAt ro a.eval).run P w)
 rw[dV];rcases h with ⟨h1,h2⟩ | ⟨u,w',h1,h2⟩
 .rw [h1,Oper.uponIn_enter];refine⟨fun h=>by simp[WF,Fence.wide] at h,?_⟩;have h3:CallsIn (WF ro) 0 P g (fi++c.args.map a.eval++ca) w R:=h2;refine CallsIn.mono h3 (fun e w' he=>?_);obtain⟨u,rfl,hq⟩:=hn e w' he;exact hq
 .rw [h1];have⟨u',e,hq⟩:=hn _ _ h2;injection e with e
  subst e;exact hq
def an8{c:yax}{f:xB}(ho:o.op=.call c)(hc:c.callee=.value f){l:Nat}(hf:a.eval f=.func (.yield l) #[] #[]){R:ybq->yk->Prop}{g:yal}{tmps:Array yh}{assign body:vA}(hy:(Instr.yield l (c.args.map a.eval)).run P w=.ok (.round l g tmps assign body) w)(h:ybM Fence.wide 0 P l g tmps assign body w R)(hn:∀e w',R e w'->∃u,e=.returned u/\next (a.put o.dst u) w'):o.wpIn (WF ro) 0 P a w next Q:=by
 have dV:(o.semAt ro a.eval).run P w=.ok (.round l g tmps assign body) w:=by
  rw[Oper.semAt_eq _ _ _ (fun c' h'=>by rw[ho] at h';cases h')];simp only[execOp,ho,resolve,hc,Deferred.ofValue,hf,Sem.run_bind,Sem.run_pure,Result.andThen_ok,invoke,Array.empty_append];exact hy
 refine⟨fun _ _=>trivial,?_⟩;show o.uponIn (WF ro) 0 P a next Q ((o.semAt ro a.eval).run P w)
 rw[dV,Oper.uponIn_round];refine⟨fun h=>by simp[WF,Fence.wide] at h,?_⟩;have h3:ybM (WF ro) 0 P l g tmps assign body w R:=h;refine RoundIn.mono h3 (fun e w' he=>?_);obtain⟨u,rfl,hq⟩:=hn e w' he;exact hq
def Gx{n:ybf}{u:yh}{w':yk}(hd:∀c,o.op≠.defer c)(h:(execOp a.eval o).run P w=.ok n w')(hn:n=.value u\/(n=.skip/\u=undef))(hq:next (a.put o.dst u) w'):o.wpIn (WF ro) 0 P a w next Q:=by
 refine⟨fun _ _=>trivial,?_⟩;show o.uponIn (WF ro) 0 P a next Q ((o.semAt ro a.eval).run P w)
 rw[Oper.semAt_eq _ _ _ hd,h];rcases hn with rfl | ⟨rfl,rfl⟩
 .exact hq
 .exact hq
end
def oU(P:xy)(H:Hint)(q:Op)(o:yV):Prop:=
 (∃k,q=aQ P H k o)\/(∃c f rs,o.op=.call c/\c.callee=.value f/\q=.jQ rs (aJ H f) (iQ H c.args.toList))\/
  (∃t x y sz rs,o.op=.store t x y/\cy P t=F5 sz/\q=.lM rs sz (aJ H x) (aJ H y))\/
  (∃k rs sz b x y,Op.cQ sz b x y=aQ P H k o/\q=.lO rs sz b x y)\/(∃k sz b x y,Op.cQ sz b x y=aQ P H k o/\q=.rZ sz b x y)\/∃k n sz z ps,Op.iv n sz z ps=aQ P H k o/\q=.ni n sz z ps
def jT:Op->Op
 | .jQ _ f xs=>.jQ [] f xs
 | .lM _ s x v=>.st s x v
 | .lO _ s b x v=>.cQ s b x v
 | o=>o
section
variable {O:bq}{H:Hint}{m:Mp}{S:Nat->Prop}{w:yk}{tm:Env}{a:Act}{hp:Hp}{ct:Nat}{self:cu}{ro:Option Nat}{next:Act->yk->Prop}{Q:uJ->Act->yk->Prop}
def Oz{o:yV}{k:Nat}{md:Md}{x:X}{xs:List X}(h:aQ O.P H k o=.call md x xs)(hb:x≠.c .undef):∃c f,o.op=.call c/\c.callee=.value f/\x=aJ H f/\xs=iQ H c.args.toList:=by
 have nb:bad=.call md x xs->False:=fun h=>by simp only[bad,Op.call.injEq] at h;exact hb h.2.1.symm
 cases ho:o.op with
 | call c=>
  have⟨callee,args,ts⟩:=c;simp only[aQ,ho] at h
  split at h
  .rename_i f;cases hm:H.mode k<;>simp only[hm,Op.call.injEq,reduceCtorEq] at h
   all_goals exact⟨_,f,rfl,rfl,h.2.1.symm,h.2.2.symm⟩
  .repeat' split at h
   all_goals first
    | exact (nb h).elim
    | (cases h;done)
    | (revert h;generalize yo _ _=bb;intro h;cases bb<;>first | exact (nb h).elim | (cases h;done))
  .exact (nb h).elim
 | binOp op t x' y ty=>
  cases op<;>simp only[aQ,ho,oG,pV] at h
  case eql=>
        repeat' split at h
        all_goals first
         | exact (nb h).elim
         | (cases h;done)
         | (cases bI:(O.P.stoodInHeld t||O.P.eqGuardType O.P.depth t)<;>rw[bI] at h<;>first | exact (nb h).elim | (cases h;done))
  case neq=>
        repeat' split at h
        all_goals first
         | exact (nb h).elim
         | (cases h;done)
         | (cases bI:(O.P.stoodInHeld t||O.P.eqGuardType O.P.depth t)<;>rw[bI] at h<;>first | exact (nb h).elim | (cases h;done))
  all_goals cases h
 | buildSlice t n parts=>
  simp only[aQ,ho] at h
  repeat' split at h
  all_goals first
   | exact (nb h).elim
   | (cases h;done)
   | (revert h;generalize yC _ _=bb;intro h;cases bb<;>first | exact (nb h).elim | (simp only[yu] at h;cases h;done))
 | makeMap t r=>
  cases r<;>simp only[aQ,ho] at h
  .repeat' split at h
   all_goals first
    | exact (nb h).elim
    | (cases h;done)
  .exact (nb h).elim
 | next x' b=>
  cases b<;>simp only[aQ,ho] at h
  .exact (nb h).elim
  .cases h
 | _=>
  simp only[aQ,ho] at h
  (repeat' split at h)
  all_goals first
   | contradiction
   | exact (nb h).elim
   | (cases h;done)
def alf{o:yV}{k:Nat}{r:AV×Hp×Nat}(hv:aX O.prog O.aI self tm hp ct (aQ O.P H k o)=F5 r):∀c,o.op≠.defer c:=by
 intro c ho;simp[aQ,ho,bad,aX,eR,ax] at hv
end
end
section
open Go
section
variable {v:AV}{Hq:Hp}{sz:Nat}{dE:Obj}
section
variable {O:bq}{H:Hint}{m:Mp}{S:Nat->Prop}{w:yk}{tm:Env}{a:Act}{hp:Hp}{ct cq:Nat}
def gR(tm:Env)(hp:Hp)(ct:Nat):Op->Option (AV×Obj)
 | .cQ sz b x y=>Ai hp ct sz b (ax tm x) (jr hp sz (ax tm y))
 | _=>F6
def UJ(O:bq)(m:Mp)(S:Nat->Prop)(w:yk)(a:Act)(ct:Nat)(o:yV)(v:AV)(b:Obj):Prop:=
 ∃u g p,(execOp a.eval o).run O.P w=.ok (.value u) (w.drew.alloc g)/\p.b=w.heap.size/\¬jq b/\
  ∀m',di m m'->m' ct=F5 p->fk O m' S (w.drew.alloc g) ct b/\ae O.ab m' S (w.drew.alloc g) v u
def an9{e:yA}{z:yh}{need cap:Nat}{cs:List AV}{us:List yh}(hh:aT O m S w hp cq)(hr:aB O.ab m S w cs us)(hl:us.length=need*sz)(hz:z.cells.size=sz)(ER:Bool)(Mu:ER=ydo->aE cs=ydo)(hc:need<=cap):
  let w':=w.drew.alloc (.cells (us.toArray++Builtin.zeroCells z.cells (cap-need)) e)
  let p:Pl:=⟨w.heap.size,0,cap*sz,sz⟩
  ∀m',di m m'->m' ct=F5 p->fk O m' S w' ct (.cells ydo ER ydp sz cs):=by
 intro w' p m' hm hi;have aR:gh S w w':=fun b hb=>by
  have:=hh.slt b hb
  exact RowKit.Below.heap_alloc w.drew _ b (by simpa using this)
 have jX:w'.heap[w.heap.size]? =F5 (.cells (us.toArray++Builtin.zeroCells z.cells (cap-need)) e (0,0)):=heap_alloc_new w.drew _;have fe:=ic _ _ hr;refine⟨p,_,e,hi,jX,rfl,?_,?_,by simp,?_,Mu,?_,by simp⟩
 .show cs.length<=cap*sz
  rw[<-fe,hl];exact yT _ hc
 .show 0+cap*sz<=_
  rw[Array.size_append,tF,size_zeroCells,hz,hl,<-xY];rw[yd];exact yT _ (by lia)
 .refine NO jX cs us 0 (iJ hm (fun _ h=>h) aR _ _ hr) (fun j u hj=>?_);rw[yd,yaO (by rw[tF];exact (xN.1 hj).1),List.getElem?_toArray]
  exact hj
 .intro _ hS
  have:=hh.slt _ hS
  simp[p] at this
def oI{a b:Nat}(h:yM a b=ydo):a<b:=yt h
def aoa{o:yV}{b':yA}{t u e:yA}{by':Nat}{z:AV}{x y:xB}(hH:fh O H)(ht:bT O m S w tm a.tmps)(hh:aT O m S w hp cq)(dV:(execOp a.eval o).run O.P w=((do pure (.value (<-Builtin.append_ #[t,u] b' #[a.eval x,a.eval y])):Sem ybf)).run O.P w)(AL:O.P.underlying t=F5 (.slice e))(hu:(∃e',O.P.underlying u=F5 (.slice e'))\/O.P.underlying u=F5 .string)(hs:cy O.P e=F5 sz)(hb:AF O.P e=F5 by')(hz:mU O.P e=F5 z)(zt:(cellsOf z).length=sz)(hv:gR tm hp ct (.cQ sz by' (aJ H x) (aJ H y))=F5 (v,dE)):UJ O m S w a ct o v dE:=by
 simp only[gR] at hv;obtain⟨ti,zv,zu,rfl,rfl,Mv,rfl⟩:=acQ hs hb hz;have aP:∀u' w',(Builtin.append_ #[t,u] b' #[a.eval x,a.eval y]).run O.P w=.ok u' w'->(execOp a.eval o).run O.P w=.ok (.value u') w':=fun u' w' h=>by
  rw[dV,Sem.run_bind,h];rfl
 have Fy:zv.cells.size=ti.size:=by
  have:=ic _ _ (Eb (ab:=O.ab) (m:=m) (S:=S) (w:=w) zv)
  rw[<-zt,<-this];simp
 cases oT:jr hp ti.size (ax tm (aJ H y)) with
 | none=>simp[oT,Ai] at hv
 | some q=>
  have⟨n,new⟩:=q;rw[oT] at hv;have⟨news,lU,cE⟩:=aav hh (bX hH ht y) oT;have Mw:=ic _ _ lU;have rx:=bX hH ht x;cases hx:ax tm (aJ H x)<;>rw[hx] at hv rx<;>simp only[Ai,reduceCtorEq] at hv
  rename_i id o0 k;simp only[ae] at rx;have⟨p,c,hm,ex,h1,h2⟩:=rx
  split at hv
  case h_2=>cases hv
  rename_i dG pu zz cs hg
  cases hc:(yo zz ti.size&&(yM 0 n&&(yC (k+n) room&&(yC ((k+n)*ti.bytes) room&&(yo (o0+k*ti.size) cs.length&&yM 0 ti.size))))) with
  | false=>rw[hc] at hv;cases hv
  | true=>
   rw[hc] at hv;simp only[yu,yc,ym] at hv;obtain⟨rfl,rfl⟩:=hv;simp only[ye] at hc;have c0:=yf hc.1;have c5:=oI hc.2.1;have c1:=yt hc.2.2.1;have c2:=yt hc.2.2.2.1;have c3:=yf hc.2.2.2.2.1;have c4:=oI hc.2.2.2.2.2;simp only[room] at c1 c2;have⟨p',arr,t',g1,g2,g3,g4,g5,g6,g7,g8,g9,g10⟩:=hh.obj id _ _ hg hm;rw[hm] at g1;injection g1 with g1
   subst g1;subst c0;rw[g3] at h2;have hce:=g6 rfl;have dh:c=k:=by
    have:c*ti.size=k*ti.size:=by lia
    exact uW c4 this
   subst dh;have Dt:bR O.ab m S w (slice o0 (c*ti.size) cs) p.b (p.o+o0):=A5 _ _ _ _ (sN _ _ _ _ g7);have⟨mX,f1,f2,f3⟩:=zR _ _ _ Dt;have PQ:(slice o0 (c*ti.size) cs).length=c*ti.size:=by simp only[slice,yR,xU];lia
   have j8:(pu&&aE new)=ydo->aE (slice o0 (c*ti.size) cs++new)=ydo:=fun h=>by
    simp only[ye] at h;exact Ec (Ch _ (A6 _ _ (g8 h.1))) h.2
   have Mx:Src O.P w ti.size c mX (.slice (F5 ⟨p.b,p.o+o0,F6⟩) c c):=Gc (by lia) (fun j u hj=>by rw[oH];exact f3 j u hj)
   have hr:=Nq (P:=O.P) (ty:=b') (w:=w) AL hu zu Mv rfl Mx cE (by lia) c1 c2;have j9:=grownCap_ge w (c+n) c e;have jX:=an9 (ct:=ct) (e:=e) (z:=zv) (cap:=grownCap w (c+n) c e) hh (mL f1 lU) (need:=c+n) (sz:=ti.size) (by rw[yJ,f2,PQ,cE.2.1,xY]) Fy (pu&&aE new) j8 j9;exact⟨_,_,⟨w.heap.size,0,grownCap w (c+n) c e*ti.size,ti.size⟩,aP _ _ (by rw[ex];exact hr),rfl,by simp[jq],fun m' hle hi=>⟨jX m' hle hi,by simp only[ae];exact⟨_,_,hi,rfl,j9,by simp⟩⟩⟩
def alg(hl:cR hp Hq){q:Nat×List AV}(h:mr hp sz v=F5 q):mr Hq sz v=F5 q:=by
 cases v<;>simp only[mr,reduceCtorEq] at h ⊢
 .exact h
 .exact h
 .rename_i id o n
  cases hg:ak hp id with
  | none=>simp[hg] at h
  | some ob=>
   cases ob<;>simp only[hg,reduceCtorEq] at h
   obtain⟨o',h1,r,rfl,_⟩:=hl id _ hg;simp only[h1];exact h
def amg(hl:cR hp Hq){q:Nat×List AV}(h:jr hp sz v=F5 q):jr Hq sz v=F5 q:=by
 by_cases hs:∃b,v=.str b
 .obtain ⟨b,rfl⟩:=hs;exact h
 .have e:∀hp:Hp,jr hp sz v=mr hp sz v:=fun hp=>by
   cases v<;>first
    | rfl
    | exact absurd ⟨_,rfl⟩ hs
  rw[e] at h ⊢;exact alg hl h
def aob(hl:cR hp Hq){b:Nat}{x y:AV}(h:Ai hp ct sz b x (jr hp sz y)=F5 (v,dE)):Ai Hq ct sz b x (jr Hq sz y)=F5 (v,dE):=by
 cases hs:jr hp sz y with
 | none=>rw[hs] at h;simp[Ai] at h
 | some q=>
  rw[amg hl hs];rw[hs] at h;have⟨n,new⟩:=q;cases x<;>simp only[Ai,reduceCtorEq] at h ⊢
  rename_i id o k
  cases hg:ak hp id with
  | none=>simp[hg] at h
  | some ob=>
   cases ob with
   | cells dG pu ex z cs=>
    cases ex with
    | false=>simp[hg] at h
    | true=>
     obtain⟨o',h1,r,rfl,_⟩:=hl id _ hg;simp only[hg] at h;simp only[h1];exact h
   | _=>simp[hg] at h
def as0{o:yV}{k:Nat}(hH:fh O H)(ht:bT O m S w tm a.tmps)(hh:aT O m S w hp cq)(hv:gR tm hp ct (aQ O.P H k o)=F5 (v,dE)):UJ O m S w a ct o v dE:=by
 have ji:∀{r:AV×Obj},gR tm hp ct bad=F5 r->False:=fun h=>by simp[bad,gR] at h
 cases ho:o.op with
 | call c=>
  obtain⟨callee,args,ts⟩:=c;simp only[aQ,ho] at hv
  split at hv
  .cases Fv:H.mode k<;>simp[Fv,gR] at hv
  .rename_i _ b
   split at hv
   .rename_i x y t u eI nk;obtain⟨al⟩:=args;obtain⟨tl⟩:=ts;simp only at eI nk;subst eI;subst nk;obtain⟨cs,dV⟩:=A4 (O:=O) (w:=w) (a:=a) ho;have ET:(execOp a.eval o).run O.P w=((do pure (.value (<-Builtin.append_ #[t,u] o.type #[a.eval x,a.eval y])):Sem ybf)).run O.P w:=by
     rw[dV];simp[builtin]
    have key:∀{z:AV} {sz by':Nat} {e:yA},O.P.underlying t=F5 (.slice e)->((∃e',O.P.underlying u=F5 (.slice e'))\/O.P.underlying u=F5 .string)->cy O.P e=F5 sz->AF O.P e=F5 by'->mU O.P e=F5 z->
      gR tm hp ct (bif yo (cellsOf z).length sz then .cQ sz by' (aJ H x) (aJ H y) else bad)=F5 (v,dE)->UJ O m S w a ct o v dE:=by
     intro z sz by' e h1 h2 h3 h4 h5 h
     cases hb:yo (cellsOf z).length sz with
     | false=>rw[hb] at h;exact (ji h).elim
     | true=>
      rw[hb] at h;exact aoa hH ht hh ET h1 h2 h3 h4 h5 (yf hb) h
    split at hv
    .rename_i e e' h1 h2
     split at hv
     .rename_i sz by' z h3 h4 h5
      exact key h1 (.inl ⟨_,h2⟩) h3 h4 h5 hv
     .exact (ji hv).elim
    .rename_i e h1 h2
     split at hv
     .rename_i sz by' z h3 h4 h5
      exact key h1 (.inr h2) h3 h4 h5 hv
     .exact (ji hv).elim
    .exact (ji hv).elim
   .repeat' split at hv
    all_goals simp[gR,bad] at hv
   .repeat' split at hv
    all_goals simp[gR,bad] at hv
   .simp [gR] at hv
   .simp [gR] at hv
   .simp [gR] at hv
   .simp [gR] at hv
   .simp [gR] at hv
   .exact (ji hv).elim
  .exact (ji hv).elim
 | next x b=>
  cases b<;>simp[aQ,ho,gR,bad] at hv
 | binOp op t x y ty=>
  cases op<;>simp only[aQ,ho,oG,pV] at hv
  case eql=>
        repeat' split at hv
        all_goals first
         | (simp[gR,bad] at hv;done)
         | (cases hb:(O.P.stoodInHeld t||O.P.eqGuardType O.P.depth t)<;>rw[hb] at hv<;>simp[gR,bad] at hv)
  case neq=>
        repeat' split at hv
        all_goals first
         | (simp[gR,bad] at hv;done)
         | (cases hb:(O.P.stoodInHeld t||O.P.eqGuardType O.P.depth t)<;>rw[hb] at hv<;>simp[gR,bad] at hv)
  all_goals simp[gR] at hv
 | buildSlice t n parts=>
  simp only[aQ,ho] at hv
  repeat' split at hv
  all_goals first
   | (simp[gR,bad] at hv;done)
   | (
     revert hv;generalize yC _ _=bb;intro hv;cases bb<;>simp[gR,bad] at hv
     try (split at hv<;>simp[gR,bad] at hv))
 | makeMap t r=>
  cases r<;>simp only[aQ,ho] at hv
  .repeat' split at hv
   all_goals simp[gR,bad] at hv
  .exact (ji hv).elim
 | _=>
  simp only[aQ,ho] at hv
  (repeat' split at hv)
  all_goals first
   | contradiction
   | (simp[gR,bad] at hv;done)
end
end
end
section
open Go
section
variable {aY:Hp}{cap first aq z:List AV}{g k n sz:Nat}{P:xy}
section
variable {O:bq}{H:Hint}{m:Mp}{S:Nat->Prop}{w:yk}{tm:Env}{a:Act}{hp an Hq:Hp}{ct aH cH:Nat}{self:cu}{ro:Option Nat}{next:Act->yk->Prop}{Q:uJ->Act->yk->Prop}
def aaC{g:yaJ}{p:Pl}{S':Nat->Prop}{base:Nat}(hh:aT O m S w Hq cH)(hi:m ct=F6)(hb:p.b=w.heap.size)(h1:∀b,S b->S' b)(h2:∀b,S' b->S b\/b=w.heap.size):
  cg m S w Hq (fL m ct p) S' (w.alloc g) Hq base where
 os:=rfl
 tape:=rfl
 output:=rfl
 size:=by simp
 same b hb _:=alloc_old hb
 sub:=h1
 still b hb:=alloc_old (hh.slt b hb)
 new b hb:=(h2 b hb).imp (fun h=>h) (fun h=>.inr (by lia))
 own b hb:=by
  have⟨i,o,q,g1,g2,g3⟩:=hb;by_cases hc:i=ct
  .subst hc;rw[dI] at g2
   grind
  .rw [eB hc] at g2;exact .inl ⟨i,o,q,g1,g2,g3⟩
 old i q _ h:=jM hi i q h
 loops b r hb:=⟨r,(alloc_old (xE.1 hb).1).trans hb⟩
def Zm{Pk:List AV}{us:List yh}(hz:cB deep hp Pk=F5 (aq,aY))(hl:cR aY Hq)(hh:aT O m S w Hq cH)(hr:aB O.ab m S w Pk us):aB O.ab ff S w aq us/\aE aq=ydo:=by
 have⟨_,_,h3⟩:=SL (O:=O) hz;have⟨k1,k2⟩:=h3 Hq m S w cH hl hh;exact⟨A7 (fun _ h=>h) (fun _ _=>rfl) _ _ k2 (k1 us hr),k2⟩
def Un(hh:aT O m S w Hq cH):CT O w:=⟨hh.mW,hh.gH⟩
def N8(hH:fh O H)(ht:bT O m S w tm a.tmps){f:xB}{args:Array xB}(hf:ax tm (aJ H f)=.fn (.f g) first cap):
  ∃fi ca:Array yh,a.eval f=.func (.func (O.ab g)) fi ca/\aB O.ab m S w (first++(dK tm (iQ H args.toList)++cap)) (fi++args.map a.eval++ca).toList:=by
 have rf:=bX hH ht f;rw[hf] at rf;have⟨fi,ca,h1,h2,h3⟩:=rf;refine⟨fi,ca,h1,?_⟩
 have:=mL h2 (mL (Eu hH ht args.toList) h3)
 simp_all
def alh(hC:pW O self)(hH:fh O H){o:yV}{c:yax}{f:xB}(ho:o.op=.call c)(fW:c.callee=.value f){r:AV}(hf:ax tm (aJ H f)=.fn (.f g) first cap)(hz:cB deep hp (first++(dK tm (iQ H c.args.toList)++cap))=F5 (aq,aY))(hr:bW O.prog O.aI self g aq=F5 r)(hl:cR aY Hq)(ht:bT O m S w tm a.tmps)(hh:aT O m S w Hq cH)(hn:∀u S' w',aT O m S' w' Hq cH->ae O.ab m S' w' (shut r) u->cg m S w Hq m S' w' Hq cH->next (a.put o.dst u) w'):o.wpIn (WF ro) 0 O.P a w next Q:=by
 have⟨fi,ca,h1,h2⟩:=N8 hH ht (args:=c.args) hf;have⟨h3,h4⟩:=Zm hz hl hh h2;refine NB ho fW h1 (hC.pure g aq r hr w S _ (Un hh) hh.slt h3 h4) ?_;rintro e w' ⟨u,S',rfl,hw,g1,g2,g3,g4⟩;refine⟨u,rfl,?_⟩;have⟨S2,k1,k2,k3⟩:=aay g4 m;have hS:∀b,S b->S2 b:=fun b hb=>k1 b (g1 b hb)
 have Dv:∀b,S2 b->S b\/w.heap.size<=b:=fun b hb=>(k2 b hb).elim (g2 b) (fun h=>.inr h.1)
 have hl:∀b,S2 b->b<w'.heap.size:=fun b hb=>(k2 b hb).elim (g3 b) (fun h=>h.2)
 exact hn u S2 w' (Co hh hw hS Dv hl) k3 (Be hh hw hS Dv)
def amh(hC:pW O self)(hH:fh O H){o:yV}{c:yax}{f:xB}(ho:o.op=.call c)(fW:c.callee=.value f){r:AV}(hf:ax tm (aJ H f)=.fn (.f g) first cap)(hz:cB deep hp (first++(dK tm (iQ H c.args.toList)++cap))=F5 (aq,aY))(hr:bW O.prog O.aI self g aq=F5 r)(hl:cR (own aY ct r).2.1 Hq)(fw:(own aY ct r).2.2<=cH)(aM:∀id o,ak hp id=F5 o->id<ct)(AN:∀id,ct<=id->id<(own aY ct r).2.2->m id=F6)(ht:bT O m S w tm a.tmps)(hh:aT O m S w Hq cH)(hn:∀u m' S' w',aT O m' S' w' Hq cH->di m m'->(∀id p,m' id=F5 p->m id=F5 p\/(ct<=id/\id<(own aY ct r).2.2))->ae O.ab m' S' w' (own aY ct r).1 u->cg m S w Hq m' S' w' Hq cH->next (a.put o.dst u) w'):
  o.wpIn (WF ro) 0 O.P a w next Q:=by
 have⟨fi,ca,h1,h2⟩:=N8 hH ht (args:=c.args) hf;have⟨z1,z2,z3⟩:=SL (O:=O) hz;have VW:∀id o,ak aY id=F5 o->id<ct:=fun id o h=>by
  have:=z2 id
  rw[h] at this
  cases hq:ak hp id with
  | none=>rw[hq] at this;cases this
  | some q=>exact aM id q hq
 have as3:∀id o,ak aY id=F5 o->ak (own aY ct r).2.1 id=F5 o:=fun id o h=>by
  cases r with
  | aw vs=>exact Oy VW id o h
  | _=>exact Um VW id o h
 have qJ:cR aY Hq:=fun id o h=>hl id o (as3 id o h)
 have⟨h3,h4⟩:=Zm hz qJ hh h2;refine NB ho fW h1 (hC.pure g aq r hr w S _ (Un hh) hh.slt h3 h4) ?_;rintro e w' ⟨u,S',rfl,hw,g1,g2,g3,g4⟩;refine⟨u,rfl,?_⟩;have Dw:=Co hh hw g1 g2 g3;have jH:=Be (base:=cH) hh hw g1 g2;have⟨m',S2,k1,k2,k3,k4,k5,k6⟩:=asZ (lo:=w.heap.size) Dw hl fw VW AN g4 hh.gH (fun j q hq=>hh.blt j q hq);refine hn u m' S2 w' k1 k2 (fun id p h=>(k3 id p h).imp (fun h=>h) (fun h=>⟨h.1,h.2.1⟩)) k4 ⟨hw.os,hw.tape,hw.output,hw.size,fun b hb _=>hw.same b hb,fun b hb=>k5 b (g1 b hb),fun b hb=>hw.same b (hh.slt b hb),?_,?_,fun i q _ h=>k2 i q h,jH.loops⟩
 .grind
 .rintro b ⟨i,ob,q,q1,q2,q3⟩;rcases k3 i q q2 with h | h
  .exact .inl ⟨i,ob,q,q1,h,q3⟩
  .grind
def ali{H:Hint}{o:yV}{b:Nat}{x y:X}(hk:Op.rZ sz b x y=aQ P H k o):False:=by
 cases ho:o.op with
 | call c=>
  have⟨callee,args,ts⟩:=c;simp only[aQ,ho] at hk
  split at hk
  .rename_i f;cases hm:H.mode k<;>simp only[hm,reduceCtorEq] at hk
  .repeat' split at hk
   all_goals first
    | (cases hk;done)
    | (simp only[bad] at hk;cases hk;done)
    | (revert hk;generalize yo _ _=bb;intro hk;cases bb<;>simp[bad] at hk)
  .simp only [bad] at hk;cases hk
 | binOp op t x' y ty=>
  cases op<;>simp only[aQ,ho,oG,pV] at hk
  case eql=>
        repeat' split at hk
        all_goals first
         | (cases hk;done)
         | (simp only[bad] at hk;cases hk;done)
         | (cases bI:(P.stoodInHeld t||P.eqGuardType P.depth t)<;>rw[bI] at hk<;>simp[bad] at hk)
  case neq=>
        repeat' split at hk
        all_goals first
         | (cases hk;done)
         | (simp only[bad] at hk;cases hk;done)
         | (cases bI:(P.stoodInHeld t||P.eqGuardType P.depth t)<;>rw[bI] at hk<;>simp[bad] at hk)
  all_goals cases hk
 | buildSlice t n parts=>
  simp only[aQ,ho] at hk
  repeat' split at hk
  all_goals first
   | (cases hk;done)
   | (simp only[bad] at hk;cases hk;done)
   | (revert hk;generalize yC _ _=bb;intro hk;cases bb<;>simp[bad] at hk)
 | makeMap t r=>
  cases r<;>simp only[aQ,ho] at hk
  .repeat' split at hk
   all_goals first
    | (cases hk;done)
    | (simp only[bad] at hk;cases hk;done)
  .simp only [bad] at hk;cases hk
 | next x' b=>
  cases b<;>simp only[aQ,ho] at hk
  .simp only [bad] at hk;cases hk
  .cases hk
 | _=>
  simp only[aQ,ho] at hk
  (repeat' split at hk)
  all_goals first
   | contradiction
   | (cases hk;done)
   | (simp only[bad] at hk;cases hk;done)
def as4{H:Hint}{o:yV}{b:Nat}{x y:X}(hq:oU P H (.rZ sz b x y) o):∃k,Op.cQ sz b x y=aQ P H k o:=by
 rcases hq with ⟨k,hk⟩ | ⟨_,_,_,_,_,h3⟩ | ⟨_,_,_,_,_,_,_,h3⟩ | ⟨_,_,_,_,_,_,_,h3⟩ | ⟨k,oe,b',x',y',h1,h3⟩ | ⟨_,_,_,_,_,_,h3⟩
 .exact (ali hk).elim
 .cases h3
 .cases h3
 .cases h3
 .simp only [Op.rZ.injEq] at h3;obtain⟨rfl,rfl,rfl,rfl⟩:=h3;exact⟨k,h1⟩
 .cases h3
def alj{H:Hint}{o:yV}{ps:List (Nat×Nat×X)}(hk:Op.ni n sz z ps=aQ P H k o):False:=by
 cases ho:o.op with
 | call c=>
  obtain⟨callee,args,ts⟩:=c;simp only[aQ,ho] at hk
  split at hk
  .rename_i f;cases hm:H.mode k<;>simp only[hm,reduceCtorEq] at hk
  .repeat' split at hk
   all_goals first
    | (cases hk;done)
    | (simp only[bad] at hk;cases hk;done)
    | (revert hk;generalize yo _ _=bb;intro hk;cases bb<;>simp[bad] at hk)
  .simp only [bad] at hk;cases hk
 | binOp op t x' y ty=>
  cases op<;>simp only[aQ,ho,oG,pV] at hk
  case eql=>
        repeat' split at hk
        all_goals first
         | (cases hk;done)
         | (simp only[bad] at hk;cases hk;done)
         | (cases bI:(P.stoodInHeld t||P.eqGuardType P.depth t)<;>rw[bI] at hk<;>simp[bad] at hk)
  case neq=>
        repeat' split at hk
        all_goals first
         | (cases hk;done)
         | (simp only[bad] at hk;cases hk;done)
         | (cases bI:(P.stoodInHeld t||P.eqGuardType P.depth t)<;>rw[bI] at hk<;>simp[bad] at hk)
  all_goals cases hk
 | buildSlice t n parts=>
  simp only[aQ,ho] at hk
  repeat' split at hk
  all_goals first
   | (cases hk;done)
   | (simp only[bad] at hk;cases hk;done)
   | (revert hk;generalize yC _ _=bb;intro hk;cases bb<;>simp[bad] at hk)
 | makeMap t r=>
  cases r<;>simp only[aQ,ho] at hk
  .repeat' split at hk
   all_goals first
    | (cases hk;done)
    | (simp only[bad] at hk;cases hk;done)
  .simp only [bad] at hk;cases hk
 | next x' b=>
  cases b<;>simp only[aQ,ho] at hk
  .simp only [bad] at hk;cases hk
  .cases hk
 | _=>
  simp only[aQ,ho] at hk
  (repeat' split at hk)
  all_goals first
   | contradiction
   | (cases hk;done)
   | (simp only[bad] at hk;cases hk;done)
def as5{H:Hint}{o:yV}{ps:List (Nat×Nat×X)}(hq:oU P H (.ni n sz z ps) o):∃k,Op.iv n sz z ps=aQ P H k o:=by
 rcases hq with ⟨k,hk⟩ | ⟨_,_,_,_,_,h3⟩ | ⟨_,_,_,_,_,_,_,h3⟩ | ⟨_,_,_,_,_,_,_,h3⟩ | ⟨_,_,_,_,_,_,h3⟩ | ⟨k,n',oe,z',ps',h1,h3⟩
 .exact (alj hk).elim
 .cases h3
 .cases h3
 .cases h3
 .cases h3
 .simp only [Op.ni.injEq] at h3;obtain⟨rfl,rfl,rfl,rfl⟩:=h3;exact⟨k,h1⟩
def as6(hH:fh O H)(ht:bT O m S w tm a.tmps)(hh:aT O m S w hp ct){o:yV}{ps:List (Nat×Nat×X)}{v:AV}{hp0:Hp}(iA:Op.iv n sz z ps=aQ O.P H k o)(hv:bh tm hp0 (.ni n sz z ps)=F5 v):
  ∃u g,(execOp a.eval o).run O.P w=.ok (.value u) (w.alloc g)/\∀S':Nat->Prop,(∀b,S b->S' b)->S' w.heap.size->ae O.ab m S' (w.alloc g) v u:=by
 simp only[bh] at hv
 cases hf:fill tm z ps with
 | none=>simp[hf] at hv
 | some cs=>
  simp only[hf] at hv
  cases hc:(yo cs.length (n*sz)&&(yM 0 sz&&aE cs)) with
  | false=>rw[hc] at hv;cases hv
  | true=>
   rw[hc] at hv;simp only[yu,yc] at hv;subst hv;simp only[ye] at hc;obtain⟨c1,c2,c3⟩:=hc;have c1':=yf c1;have c2':=rz.1 c2;have hi:m ct=F6:=by
    cases hm:m ct with
    | none=>rfl
    | some p=>have:=hh.lt ct p hm;omega
   have cA:cG tm hp ct (aQ O.P H k o)=F5 (.ay ct 0 n,.cells ydo ydo ydo sz cs):=by
    rw[<-iA];simp only[cG,hf,c1,yu,c3]
   obtain⟨u,g,p,h1,h2,h3,h4⟩:=acO hH ht hh cA;refine⟨u,g,h1,fun S' hS hSn=>?_⟩;obtain⟨ho,hr⟩:=h4 (fL m ct p) (jM hi) dI;simp only[fk] at ho;obtain⟨q,arr,t,g1,g2,g3,g4,g5,g6,g7,g8,_⟩:=ho;rw[dI] at g1;injection g1 with g1
   subst g1;simp only[ae,dI,yc] at hr;obtain⟨q,c,rfl,rfl,r3,r4⟩:=hr;simp only[ae];refine .inl ⟨_,_,c,rfl,r3,fun _=>?_,.inr (by rw[h2];exact hSn),c3,?_⟩
   .have e:=g6 trivial;rw[<-e,c1',g3,yd] at r4;exact uW c2' r4
   .rw [yZ];exact Ci hS (fun _ _=>rfl) cs _ _ c3 rfl g7
def quiet_step(hC:pW O self)(hH:fh O H){o:yV}{q:Op}{v:AV}(hk:bl q<=1)(hq:oU O.P H q o)(hd:∀c,o.op≠.defer c)(hv:aX O.prog O.aI self tm hp ct q=F5 (v,an,aH))(hl:cR an Hq)(fw:aH<=cH)(aM:∀id o,ak hp id=F5 o->id<ct)(AN:∀id,ct<=id->id<aH->m id=F6)(ht:bT O m S w tm a.tmps)(hh:aT O m S w Hq cH)(hn:∀u m' S' w',aT O m' S' w' Hq cH->di m m'->(∀id p,m' id=F5 p->m id=F5 p\/(ct<=id/\id<aH))->ae O.ab m' S' w' v u->cg m S w Hq m' S' w' Hq cH->next (a.put o.dst u) w'):
  o.wpIn (WF ro) 0 O.P a w next Q:=by
 by_cases AO:∃sz b x y,q=.rZ sz b x y
 .obtain ⟨sz,b,x,y,rfl⟩:=AO;obtain⟨k,iA⟩:=as4 hq;simp only[aX] at hv
  cases hm:Ai hp ct sz b (ax tm x) (jr hp sz (ax tm y)) with
  | none=>simp[hm] at hv
  | some r=>
   obtain⟨v1,dE⟩:=r;simp only[hm,yc,ym] at hv;obtain⟨rfl,rfl,rfl⟩:=hv;have lR:cR hp Hq:=fun id o' jF=>hl id o' (by
    rw[fF,yp (by have:=aM id o' jF;omega)];exact jF)
   have bB:gR tm Hq ct (aQ O.P H k o)=F5 (v1,dE):=by rw[<-iA];exact aob lR hm
   have hi:=AN ct (yx _) (yaC _);obtain⟨u,g,p,h1,h2,h3,h4⟩:=as0 hH ht hh bB;have jm:Calm w w.drew:=⟨rfl,rfl,rfl,yx _,fun _ _=>rfl⟩;have iX:=Co hh jm (S':=S) (fun _ h=>h) (fun _ h=>.inl h) hh.slt;have mD:cg m S w Hq m S w.drew Hq cH:=Be hh jm (fun _ h=>h) (fun _ h=>.inl h);obtain⟨S',k1,k2,k3⟩:=TE (i:=ct) (g:=g) (p:=p) iX hi fw h2 (fun o' jF=>by
    obtain⟨Xw,g1,g2⟩:=hl ct dE (by rw[fF];simp)
    rw[jF] at g1;injection g1 with g1
    subst g1
    have:=Sz g2 dI (h4 _ (jM hi) dI).1 h3
    rwa[h2] at this)
   refine Gx hd h1 (.inl rfl) (hn u _ S' _ k1 (jM hi) (fun id q hq=>?_) (mN (fun _ _ h=>h) k2 (fun _ _=>rfl) _ _ (h4 _ (jM hi) dI).2) (mD.trans (aaC iX hi h2 k2 k3)));by_cases hc:id=ct
   .exact .inr (by omega)
   .rw [eB hc] at hq;exact .inl hq
 by_cases Dx:∃n sz z ps,q=.ni n sz z ps
 .obtain ⟨n,sz,z,ps,rfl⟩:=Dx;obtain⟨k,iA⟩:=as5 hq;simp only[aX] at hv
  cases hm:bh tm hp (.ni n sz z ps) with
  | none=>simp[hm] at hv
  | some r=>
   simp only[hm,yc,ym] at hv;obtain⟨rfl,rfl,rfl⟩:=hv;obtain⟨u,g,h1,h2⟩:=as6 hH ht hh iA hm;have jm:Calm w (w.alloc g):=⟨rfl,rfl,rfl,by simp,fun b hb=>alloc_old hb⟩
   let S':Nat->Prop:=fun b=>S b\/b=w.heap.size
   have hS:∀b,S b->S' b:=fun b hb=>.inl hb
   have Dv:∀b,S' b->S b\/w.heap.size<=b:=fun b hb=>hb.imp id (fun e=>by omega)
   have BZ:∀b,S' b->b<(w.alloc g).heap.size:=fun b hb=>by
    rcases hb with hb | hb
    .have:=hh.slt b hb;simp;omega
    .subst hb;simp
   refine Gx hd h1 (.inl rfl) (hn u m S' _ (Co hh jm hS Dv BZ) di.refl (fun _ _ h=>.inl h) (h2 S' hS (.inr rfl)) (Be hh jm hS Dv))
 have iA:∃k,q=aQ O.P H k o:=by
  rcases hq with h | ⟨c,f,rs,_,_,rfl⟩ | ⟨_,_,_,_,_,_,_,rfl⟩ | ⟨_,_,_,_,_,_,_,rfl⟩ | ⟨_,_,_,_,_,_,h⟩ | ⟨_,_,_,_,_,_,h⟩
  .exact h
  .simp [bl] at hk
  .simp [bl] at hk
  .simp [bl] at hk
  .exact (AO ⟨_,_,_,_,h⟩).elim
  .exact (Dx ⟨_,_,_,_,h⟩).elim
 obtain⟨k,hq⟩:=iA;have read:∀{v:AV},bh tm hp q=F5 v->cR hp Hq->(∀u m' S' w',aT O m' S' w' Hq cH->di m m'->(∀id p,m' id=F5 p->m id=F5 p\/(ct<=id/\id<aH))->ae O.ab m' S' w' v u->cg m S w Hq m' S' w' Hq cH->next (a.put o.dst u) w')->o.wpIn (WF ro) 0 O.P a w next Q:=by
  intro v hr hl hn;have bB:=ama hl hr;rw[hq] at bB;obtain⟨u,h1,h2⟩:=acM hH ht hh bB;exact Gx hd h1 (.inl rfl) (hn u m S w hh di.refl (fun _ _ h=>.inl h) h2 cg.refl)
 have makes:∀{v:AV} {b:Obj},cG tm hp ct q=F5 (v,b)->cR ((ct,b)::hp) Hq->ct+1<=cH->m ct=F6->(∀u m' S' w',aT O m' S' w' Hq cH->di m m'->(∀id p,m' id=F5 p->m id=F5 p\/(ct<=id/\id<ct+1))->ae O.ab m' S' w' v u->cg m S w Hq m' S' w' Hq cH->next (a.put o.dst u) w')->o.wpIn (WF ro) 0 O.P a w next Q:=by
  intro v b hr hl hc hi hn;rw[hq] at hr;have bB:cG tm Hq ct (aQ O.P H k o)=F5 (v,b):=by rw[<-hr];exact Jo (fun _ _=>rfl)
  obtain⟨u,g,p,h1,h2,h3,h4⟩:=acO hH ht hh bB;obtain⟨S',k1,k2,k3⟩:=TE (i:=ct) (g:=g) (p:=p) hh hi hc h2 (fun o' jF=>by
   obtain⟨Xw,g1,g2⟩:=hl ct b (by rw[fF];simp)
   rw[jF] at g1;injection g1 with g1
   subst g1
   have:=Sz g2 dI (h4 _ (jM hi) dI).1 h3
   rwa[h2] at this)
  refine Gx hd h1 (.inl rfl) (hn u _ S' _ k1 (jM hi) (fun id q hq=>?_) (mN (fun _ _ h=>h) k2 (fun _ _=>rfl) _ _ (h4 _ (jM hi) dI).2) (aaC hh hi h2 k2 k3));by_cases hc:id=ct
  .exact .inr (by omega)
  .rw [eB hc] at hq;exact .inl hq
 have cA:∀{q:Op},(match cG tm hp ct q with | some (v,b)=>F5 (v,(ct,b)::hp,ct+1) | none=>(F6:gL))=F5 (v,an,aH)->∃b,cG tm hp ct q=F5 (v,b)/\an=(ct,b)::hp/\aH=ct+1:=by
  intro q h
  cases hm:cG tm hp ct q with
  | none=>simp[hm] at h
  | some r=>
   obtain⟨v1,b⟩:=r;simp only[hm,yc,ym] at h;obtain⟨rfl,rfl,rfl⟩:=h;exact⟨b,rfl,rfl,rfl⟩
 have gC:∀{q:Op},(match bh tm hp q with | some v=>F5 (v,hp,ct) | none=>(F6:gL))=F5 (v,an,aH)->bh tm hp q=F5 v/\an=hp/\aH=ct:=by
  intro q h
  cases hm:bh tm hp q with
  | none=>simp[hm] at h
  | some r=>
   simp only[hm,yc,ym] at h;obtain⟨rfl,rfl,rfl⟩:=h;exact⟨rfl,rfl,rfl⟩
 have Kf:(∃b,cG tm hp ct q=F5 (v,b)/\an=(ct,b)::hp/\aH=ct+1)->o.wpIn (WF ro) 0 O.P a w next Q:=by
  rintro⟨b,h1,rfl,rfl⟩;exact makes h1 hl fw (AN ct (yx _) (yaC _)) hn
 have as7:(bh tm hp q=F5 v/\an=hp/\aH=ct)->o.wpIn (WF ro) 0 O.P a w next Q:=by
  rintro⟨h1,rfl,rfl⟩;exact read h1 hl hn
 cases q with
 | st _ _ _=>simp[bl] at hk
 | rW _ _ _ _=>simp[bl] at hk
 | rY _=>simp[bl] at hk
 | cQ _ _ _ _=>simp[bl] at hk
 | r5 _ _ _=>simp[bl] at hk
 | jQ _ _ _=>simp[bl] at hk
 | lM _ _ _ _=>simp[bl] at hk
 | lO _ _ _ _ _=>simp[bl] at hk
 | rZ sz b x y=>exact (AO ⟨sz,b,x,y,rfl⟩).elim
 | box s x=>exact Kf (cA (by simp only[aX] at hv;exact hv))
 | iv n s z ps=>exact Kf (cA (by simp only[aX] at hv;exact hv))
 | qF s b z x y=>exact Kf (cA (by simp only[aX] at hv;exact hv))
 | BT=>exact Kf (cA (by simp only[aX] at hv;exact hv))
 | rX x=>exact Kf (cA (by simp only[aX] at hv;exact hv))
 | call md x xs=>
  cases md with
  | heap=>simp[bl] at hk
  | dyn=>simp[bl] at hk
  | pure=>
   simp only[aX,eR] at hv
   split at hv
   .rename_i g first cap hx
    (try simp only at hv)
    cases hz:cB deep hp (first++(dK tm xs++cap)) with
    | none=>simp[hz] at hv
    | some z=>
     obtain⟨aq,aY⟩:=z;simp only[hz] at hv
     cases hr:bW O.prog O.aI self g aq with
     | none=>simp[hr] at hv
     | some r=>
      simp only[hr,yc,ym] at hv;obtain⟨rfl,rfl,rfl⟩:=hv;obtain⟨c,f,ho,fW,rfl,rfl⟩:=Oz hq.symm (by rintro rfl;simp[ax] at hx);exact alh hC hH ho fW hx hz hr hl ht hh (fun u S' w' h1 h2 h3=>hn u m S' w' h1 di.refl (fun _ _ h=>.inl h) h2 h3)
   .simp at hv
   .cases hv
  | own=>
   simp only[aX,eR] at hv
   split at hv
   .rename_i g first cap hx
    (try simp only at hv)
    cases hz:cB deep hp (first++(dK tm xs++cap)) with
    | none=>simp[hz] at hv
    | some z=>
     obtain⟨aq,aY⟩:=z;simp only[hz] at hv
     cases hr:bW O.prog O.aI self g aq with
     | none=>simp[hr] at hv
     | some r=>
      simp only[hr,yc] at hv;obtain⟨c,f,ho,fW,rfl,rfl⟩:=Oz hq.symm (by rintro rfl;simp[ax] at hx);have e1:v=(own aY ct r).1:=by rw[hv]
      have e2:an=(own aY ct r).2.1:=by rw[hv]
      have e3:aH=(own aY ct r).2.2:=by rw[hv]
      subst e1;subst e2;subst e3;exact amh hC hH ho fW hx hz hr hl fw aM AN ht hh hn
   .simp at hv
   .cases hv
 | _=>exact as7 (gC (by simp only[aX] at hv;exact hv))
end
end
end
section
open Go
section
variable {r v:AV}{b sz:Nat}{q:Op}{P:xy}{x y:X}
section
variable {O:bq}{H:Hint}{m:Mp}{S:Nat->Prop}{w:yk}{tm:Env}{a:Act}{hp an:Hp}{ct aH:Nat}{self:cu}{ro:Option Nat}{next:Act->yk->Prop}{Q:uJ->Act->yk->Prop}
def cg.As{m':Mp}{S':Nat->Prop}{w':yk}{b':Nat}(h:cg m S w hp m' S' w' an b)(hb:b'<=b):cg m S w hp m' S' w' an b':=
 ⟨h.os,h.tape,h.output,h.size,h.same,h.sub,h.still,h.new,h.own,fun i q hi hq=>h.old i q (by lia) hq,h.loops⟩
def as8{hp:Hp}{ct:Nat}(aM:∀id o,ak hp id=F5 o->id<ct):∀id o,ak (own hp ct r).2.1 id=F5 o->id<(own hp ct r).2.2:=by
 have hL:∀(vs:List AV) (hp:Hp) (ct:Nat),(∀id o,ak hp id=F5 o->id<ct)->∀id o,ak (lj hp ct vs).2.1 id=F5 o->id<(lj hp ct vs).2.2:=by
  intro vs
  induction vs with
  | nil=>intro hp ct h id o ho;exact h id o ho
  | cons v r ih=>intro hp ct h id o ho;exact ih _ _ (JV h) id o ho
 cases r with
 | aw vs=>exact hL vs hp ct aM
 | _=>exact JV aM
def as9{hp:Hp}{ct:Nat}(aM:∀id o,ak hp id=F5 o->id<ct):∀id o,ak hp id=F5 o->ak (own hp ct r).2.1 id=F5 o:=by
 cases r with
 | aw vs=>exact Oy aM
 | _=>exact Um aM
def ata{hp:Hp}{ct:Nat}:ct<=(own hp ct r).2.2:=by
 cases r with
 | aw vs=>exact Ox
 | _=>exact Ow
def aoc{hp:Hp}{ct:Nat}:∀id o,ak (own hp ct r).2.1 id=F5 o->id<ct->ak hp id=F5 o:=by
 have h1:∀(hp:Hp) (ct:Nat) (r:AV) id o,ak (fK hp ct r).2.1 id=F5 o->id<ct->ak hp id=F5 o:=by
  intro hp ct r id o h hc;cases r<;>simp only[fK] at h<;>try exact h
  rw[fF,yp (by lia)] at h;exact h
 have hL:∀(vs:List AV) (hp:Hp) (ct:Nat) id o,ak (lj hp ct vs).2.1 id=F5 o->id<ct->ak hp id=F5 o:=by
  intro vs
  induction vs with
  | nil=>intro hp ct id o ho _;exact ho
  | cons v r ih=>intro hp ct id o ho hc;exact h1 hp ct v id o (ih _ _ id o ho (by have:=Ow (hp:=hp) (ct:=ct) (r:=v);lia)) hc
 cases r with
 | aw vs=>exact hL vs hp ct
 | _=>exact h1 hp ct _
structure jv(hp:Hp)(ct:Nat)(an:Hp)(aH:Nat):Prop where
 le:cR hp an
 r7:ct<=aH
 lt:∀id o,ak an id=F5 o->id<aH
 back:∀id o,ak an id=F5 o->id<ct->∃o',ak hp id=F5 o'
def jv.refl(aM:∀id o,ak hp id=F5 o->id<ct):jv hp ct hp ct:=⟨cR.refl,yx _,aM,fun _ o h _=>⟨o,h⟩⟩
def jv.trans{Lc:Hp}{agn:Nat}(h:jv hp ct an aH)(k:jv an aH Lc agn):jv hp ct Lc agn:=
 ⟨h.le.trans k.le,xu h.r7 k.r7,k.lt,fun id o ho hi=>let ⟨o1,h1⟩:=k.back id o ho (yG hi h.r7);h.back id o1 h1 hi⟩
def aaD{Pk aq:List AV}{aY:Hp}(hz:cB deep hp Pk=F5 (aq,aY))(aM:∀id o,ak hp id=F5 o->id<ct):jv hp ct aY ct:=by
 have⟨z1,z2,_⟩:=SL (O:=⟨default,⟨fun _=>F6,fun _=>F6⟩,fun _=>0,fun _=>F6,fun _=>⟨0,fun _=>F6,fun _=>[],fun _=>F6,fun _=>.pure,fun _=>[]⟩,default⟩) hz;have hb:∀id o,ak aY id=F5 o->∃o',ak hp id=F5 o':=fun id o h=>by
  have:=z2 id
  rw[h] at this
  cases hq:ak hp id with
  | none=>rw[hq] at this;cases this
  | some q=>exact⟨q,rfl⟩
 exact⟨z1,yx _,fun id o h=>let ⟨o',h'⟩:=hb id o h;aM id o' h',fun id o h _=>hb id o h⟩
def ami(aM:∀id o,ak hp id=F5 o->id<ct):jv hp ct (own hp ct r).2.1 (own hp ct r).2.2:=
 ⟨fun id o h=>⟨o,as9 aM id o h,jI.refl o⟩,ata,as8 aM,fun id o h hi=>⟨o,aoc id o h hi⟩⟩
def Zn{P:aF}{L:Lib}(hk:bl q<=1)(hv:aX P L self tm hp ct q=F5 (v,an,aH))(aM:∀id o,ak hp id=F5 o->id<ct):jv hp ct an aH:=by
 have cA:∀{q:Op},(match cG tm hp ct q with | some (v,b)=>F5 (v,(ct,b)::hp,ct+1) | none=>(F6:gL))=F5 (v,an,aH)->jv hp ct an aH:=by
  intro q h
  cases hm:cG tm hp ct q with
  | none=>simp[hm] at h
  | some r=>
   have⟨v1,b⟩:=r;simp only[hm,yc,ym] at h;obtain⟨rfl,rfl,rfl⟩:=h;refine⟨fun id o ho=>⟨o,?_,jI.refl o⟩,by lia,fun id o ho=>?_,fun id o ho hi=>?_⟩
   .rw [fF,yp (by have:=aM id o ho;lia)];exact ho
   .rw [fF] at ho;by_cases hc:ct=id
    .lia
    .simp only [hc,xz] at ho;have:=aM id o ho;lia
   .rw [fF,yp (by lia)] at ho;exact⟨o,ho⟩
 have gC:∀{q:Op},(match bh tm hp q with | some v=>F5 (v,hp,ct) | none=>(F6:gL))=F5 (v,an,aH)->jv hp ct an aH:=by
  intro q h
  cases hm:bh tm hp q with
  | none=>simp[hm] at h
  | some r=>
   simp only[hm,yc,ym] at h;obtain⟨rfl,rfl,rfl⟩:=h;exact jv.refl aM
 cases bL:q with
 | st _ _ _=>simp[bL,bl] at hk
 | rW _ _ _ _=>simp[bL,bl] at hk
 | rY _=>simp[bL,bl] at hk
 | cQ _ _ _ _=>simp[bL,bl] at hk
 | r5 _ _ _=>simp[bL,bl] at hk
 | jQ _ _ _=>simp[bL,bl] at hk
 | lM _ _ _ _=>simp[bL,bl] at hk
 | lO _ _ _ _ _=>simp[bL,bl] at hk
 | rZ sz b x y=>
  rw[bL] at hv;simp only[aX] at hv
  cases hm:Ai hp ct sz b (ax tm x) (jr hp sz (ax tm y)) with
  | none=>simp[hm] at hv
  | some r=>
   have⟨v1,b⟩:=r;simp only[hm,yc,ym] at hv;obtain⟨rfl,rfl,rfl⟩:=hv;refine⟨fun id o ho=>⟨o,?_,jI.refl o⟩,by lia,fun id o ho=>?_,fun id o ho hi=>?_⟩
   .rw [fF,yp (by have:=aM id o ho;lia)];exact ho
   .rw [fF] at ho;by_cases hc:ct=id
    .lia
    .simp only [hc,xz] at ho;have:=aM id o ho;lia
   .rw [fF,yp (by lia)] at ho;exact⟨o,ho⟩
 | box s x=>exact cA (q:=q) (by rw[bL] at hv ⊢;simp only[aX] at hv;exact hv)
 | iv n s z ps=>exact cA (q:=q) (by rw[bL] at hv ⊢;simp only[aX] at hv;exact hv)
 | qF s b z x y=>exact cA (q:=q) (by rw[bL] at hv ⊢;simp only[aX] at hv;exact hv)
 | BT=>exact cA (q:=q) (by rw[bL] at hv ⊢;simp only[aX] at hv;exact hv)
 | rX x=>exact cA (q:=q) (by rw[bL] at hv ⊢;simp only[aX] at hv;exact hv)
 | call md x xs=>
  subst bL;simp only[aX,eR] at hv
  split at hv
  .rename_i g first cap hx
   cases md with
   | heap=>simp[bl] at hk
   | dyn=>simp[bl] at hk
   | pure=>
    simp only at hv
    cases hz:cB deep hp (first++(dK tm xs++cap)) with
    | none=>simp[hz] at hv
    | some z=>
     have⟨aq,aY⟩:=z;simp only[hz] at hv
     cases hr:bW P L self g aq with
     | none=>simp[hr] at hv
     | some r=>
      simp only[hr,yc,ym] at hv;obtain⟨rfl,rfl,rfl⟩:=hv;exact aaD hz aM
   | own=>
    simp only at hv
    cases hz:cB deep hp (first++(dK tm xs++cap)) with
    | none=>simp[hz] at hv
    | some z=>
     have⟨aq,aY⟩:=z;simp only[hz] at hv
     cases hr:bW P L self g aq with
     | none=>simp[hr] at hv
     | some r=>
      simp only[hr,yc] at hv;have e2:an=(own aY ct r).2.1:=by rw[hv]
      have e3:aH=(own aY ct r).2.2:=by rw[hv]
      subst e2;subst e3;have g1:=aaD hz aM;exact g1.trans (ami g1.lt)
  .cases md with
   | heap=>simp[bl] at hk
   | dyn=>simp[bl] at hk
   | _=>simp at hv
  .cases hv
 | _=>exact gC (q:=q) (by rw[bL] at hv ⊢;simp only[aX] at hv;exact hv)
def N9(hh:aT O m S w hp ct)(hg:jv hp ct an aH):∃S',aT O m S' w an aH/\(∀b,S b->S' b)/\(∀b,S' b->S b\/er m hp b)/\∀base,cg m S w hp m S' w an base:=by
 have hd:∀id o p,ak an id=F5 o->m id=F5 p->∃o',ak hp id=F5 o':=fun id o p h hm=>hg.back id o h (hh.lt id p hm)
 have⟨S',g1,g2,g3⟩:=acN hh hg.le hd hg.r7 hg.lt;refine⟨S',g1,g2,g3,fun base=>⟨rfl,rfl,rfl,yx _,fun _ _ _=>rfl,g2,fun _ _=>rfl,fun b hb=>(g3 b hb).imp (fun h=>h) .inl,?_,fun _ _ _ h=>h,fun _ r h=>⟨r,h⟩⟩⟩;rintro b ⟨i,o,p,h1,h2,h3⟩;have⟨o',h4⟩:=hd i o p h1 h2;exact .inl ⟨i,o',p,h4,h2,h3⟩
def aod(hv:cx tm hp ct q=F5 (v,an,aH)):ct<=aH:=by
 cases q<;>simp only[cx,reduceCtorEq] at hv
 all_goals
  grind
def TH{H:Hint}{o:yV}{rs:List (Nat×Bool×Nat)}{xs:List X}(hq:oU P H (.jQ rs x xs) o):∃c f,o.op=.call c/\c.callee=.value f/\x=aJ H f/\xs=iQ H c.args.toList:=by
 rcases hq with ⟨k,hk⟩ | ⟨c,f,rs',h1,h2,h3⟩ | ⟨_,_,_,_,_,_,_,h3⟩ | ⟨_,_,_,_,_,_,_,h3⟩ | ⟨_,_,_,_,_,_,h3⟩ | ⟨_,_,_,_,_,_,h3⟩
 .cases ho:o.op with
  | call c=>
   obtain⟨callee,args,ts⟩:=c;simp only[aQ,ho] at hk
   split at hk
   .rename_i f;cases hm:H.mode k<;>simp only[hm,Op.jQ.injEq,reduceCtorEq] at hk
    exact⟨_,f,rfl,rfl,hk.2.1,hk.2.2⟩
   .repeat' split at hk
    all_goals first
     | (cases hk;done)
     | (simp only[bad] at hk;cases hk;done)
     | (revert hk;generalize yo _ _=bb;intro hk;cases bb<;>simp[bad] at hk)
   .simp only [bad] at hk;cases hk
  | binOp op t x' y ty=>
   cases op<;>simp only[aQ,ho,oG,pV] at hk
   case eql=>
         repeat' split at hk
         all_goals first
          | (cases hk;done)
          | (simp only[bad] at hk;cases hk;done)
          | (cases bI:(P.stoodInHeld t||P.eqGuardType P.depth t)<;>rw[bI] at hk<;>simp[bad] at hk)
   case neq=>
         repeat' split at hk
         all_goals first
          | (cases hk;done)
          | (simp only[bad] at hk;cases hk;done)
          | (cases bI:(P.stoodInHeld t||P.eqGuardType P.depth t)<;>rw[bI] at hk<;>simp[bad] at hk)
   all_goals cases hk
  | buildSlice t n parts=>
   simp only[aQ,ho] at hk
   repeat' split at hk
   all_goals first
    | (cases hk;done)
    | (simp only[bad] at hk;cases hk;done)
    | (revert hk;generalize yC _ _=bb;intro hk;cases bb<;>simp[bad] at hk)
  | makeMap t r=>
   cases r<;>simp only[aQ,ho] at hk
   .repeat' split at hk
    all_goals first
     | (cases hk;done)
     | (simp only[bad] at hk;cases hk;done)
   .simp only [bad] at hk;cases hk
  | next x' b=>
   cases b<;>simp only[aQ,ho] at hk
   .simp only [bad] at hk;cases hk
   .cases hk
  | _=>
   simp only[aQ,ho] at hk
   (repeat' split at hk)
   all_goals first
    | contradiction
    | (cases hk;done)
    | (simp only[bad] at hk;cases hk;done)
 .simp only [Op.jQ.injEq] at h3;exact⟨c,f,h1,h2,h3.2.1,h3.2.2⟩
 .cases h3
 .cases h3
 .cases h3
 .cases h3
def alk{H:Hint}{o:yV}{k:Nat}{rs:List (Nat×Bool×Nat)}(hk:Op.lM rs sz x y=aQ P H k o):False:=by
 cases ho:o.op with
 | call c=>
  have⟨callee,args,ts⟩:=c;simp only[aQ,ho] at hk
  split at hk
  .grind
  .repeat' split at hk
   all_goals first
    | (cases hk;done)
    | (simp only[bad] at hk;cases hk;done)
    | (revert hk;generalize yo _ _=bb;intro hk;cases bb<;>simp[bad] at hk)
  .simp only [bad] at hk;cases hk
 | binOp op t x' y ty=>
  cases op<;>simp only[aQ,ho,oG,pV] at hk
  case eql=>
        repeat' split at hk
        all_goals first
         | (cases hk;done)
         | (simp only[bad] at hk;cases hk;done)
         | (cases bI:(P.stoodInHeld t||P.eqGuardType P.depth t)<;>rw[bI] at hk<;>simp[bad] at hk)
  case neq=>
        repeat' split at hk
        all_goals first
         | (cases hk;done)
         | (simp only[bad] at hk;cases hk;done)
         | (cases bI:(P.stoodInHeld t||P.eqGuardType P.depth t)<;>rw[bI] at hk<;>simp[bad] at hk)
  all_goals cases hk
 | buildSlice t n parts=>
  simp only[aQ,ho] at hk
  repeat' split at hk
  all_goals first
   | (cases hk;done)
   | (simp only[bad] at hk;cases hk;done)
   | (revert hk;generalize yC _ _=bb;intro hk;cases bb<;>simp[bad] at hk)
 | makeMap t r=>
  cases r<;>simp only[aQ,ho] at hk
  .repeat' split at hk
   all_goals first
    | (cases hk;done)
    | (simp only[bad] at hk;cases hk;done)
  .simp only [bad] at hk;cases hk
 | next x' b=>
  cases b<;>simp only[aQ,ho] at hk
  .simp only [bad] at hk;cases hk
  .cases hk
 | _=>
  simp only[aQ,ho] at hk
  (repeat' split at hk)
  all_goals first
   | contradiction
   | (cases hk;done)
   | (simp only[bad] at hk;cases hk;done)
def alm{H:Hint}{o:yV}{k:Nat}{rs:List (Nat×Bool×Nat)}(hk:Op.lO rs sz b x y=aQ P H k o):False:=by
 cases ho:o.op with
 | call c=>
  have⟨callee,args,ts⟩:=c;simp only[aQ,ho] at hk
  split at hk
  .rename_i f;cases hm:H.mode k<;>simp only[hm,reduceCtorEq] at hk
  .repeat' split at hk
   all_goals first
    | (cases hk;done)
    | (simp only[bad] at hk;cases hk;done)
    | (revert hk;generalize yo _ _=bb;intro hk;cases bb<;>simp[bad] at hk)
  .simp only [bad] at hk;cases hk
 | binOp op t x' y ty=>
  cases op<;>simp only[aQ,ho,oG,pV] at hk
  case eql=>
        repeat' split at hk
        all_goals first
         | (cases hk;done)
         | (simp only[bad] at hk;cases hk;done)
         | (cases bI:(P.stoodInHeld t||P.eqGuardType P.depth t)<;>rw[bI] at hk<;>simp[bad] at hk)
  case neq=>
        repeat' split at hk
        all_goals first
         | (cases hk;done)
         | (simp only[bad] at hk;cases hk;done)
         | (cases bI:(P.stoodInHeld t||P.eqGuardType P.depth t)<;>rw[bI] at hk<;>simp[bad] at hk)
  all_goals cases hk
 | buildSlice t n parts=>
  simp only[aQ,ho] at hk
  repeat' split at hk
  all_goals first
   | (cases hk;done)
   | (simp only[bad] at hk;cases hk;done)
   | (revert hk;generalize yC _ _=bb;intro hk;cases bb<;>simp[bad] at hk)
 | makeMap t r=>
  cases r<;>simp only[aQ,ho] at hk
  .repeat' split at hk
   all_goals first
    | (cases hk;done)
    | (simp only[bad] at hk;cases hk;done)
  .simp only [bad] at hk;cases hk
 | next x' b=>
  cases b<;>simp only[aQ,ho] at hk
  .simp only [bad] at hk;cases hk
  .cases hk
 | _=>
  simp only[aQ,ho] at hk
  (repeat' split at hk)
  all_goals first
   | contradiction
   | (cases hk;done)
   | (simp only[bad] at hk;cases hk;done)
def aw0{H:Hint}{o:yV}(hq:oU P H (.st sz x y) o):∃t x' y',o.op=.store t x' y'/\cy P t=F5 sz/\x=aJ H x'/\y=aJ H y':=by
 obtain⟨k,hk⟩:∃k,Op.st sz x y=aQ P H k o:=by
  rcases hq with h | ⟨_,_,_,_,_,h⟩ | ⟨_,_,_,_,_,_,_,h⟩ | ⟨_,_,_,_,_,_,_,h⟩ | ⟨_,_,_,_,_,_,h⟩ | ⟨_,_,_,_,_,_,h⟩
  .exact h
  .cases h
  .cases h
  .cases h
  .cases h
  .cases h
 cases ho:o.op with
 | call c=>
  obtain⟨callee,args,ts⟩:=c;simp only[aQ,ho] at hk
  split at hk
  .rename_i f;cases hm:H.mode k<;>simp only[hm,reduceCtorEq] at hk
  .repeat' split at hk
   all_goals first
    | (cases hk;done)
    | (simp only[bad] at hk;cases hk;done)
    | (revert hk;generalize yo _ _=bb;intro hk;cases bb<;>simp[bad] at hk)
  .simp only [bad] at hk;cases hk
 | binOp op t x' y ty=>
  cases op<;>simp only[aQ,ho,oG,pV] at hk
  case eql=>
        repeat' split at hk
        all_goals first
         | (cases hk;done)
         | (simp only[bad] at hk;cases hk;done)
         | (cases bI:(P.stoodInHeld t||P.eqGuardType P.depth t)<;>rw[bI] at hk<;>simp[bad] at hk)
  case neq=>
        repeat' split at hk
        all_goals first
         | (cases hk;done)
         | (simp only[bad] at hk;cases hk;done)
         | (cases bI:(P.stoodInHeld t||P.eqGuardType P.depth t)<;>rw[bI] at hk<;>simp[bad] at hk)
  all_goals cases hk
 | buildSlice t n parts=>
  simp only[aQ,ho] at hk
  repeat' split at hk
  all_goals first
   | (cases hk;done)
   | (simp only[bad] at hk;cases hk;done)
   | (revert hk;generalize yC _ _=bb;intro hk;cases bb<;>simp[bad] at hk)
 | makeMap t r=>
  cases r<;>simp only[aQ,ho] at hk
  .repeat' split at hk
   all_goals first
    | (cases hk;done)
    | (simp only[bad] at hk;cases hk;done)
  .simp only [bad] at hk;cases hk
 | next x' b=>
  cases b<;>simp only[aQ,ho] at hk
  .simp only [bad] at hk;cases hk
  .cases hk
 | store t x' y'=>
  simp only[aQ,ho] at hk
  split at hk
  .rename_i s hs;simp only[Op.st.injEq] at hk;obtain⟨rfl,rfl,rfl⟩:=hk;exact⟨t,x',y',rfl,hs,rfl,rfl⟩
  .simp only [bad] at hk;cases hk
 | _=>
  simp only[aQ,ho] at hk
  (repeat' split at hk)
  all_goals first
   | contradiction
   | (cases hk;done)
   | (simp only[bad] at hk;cases hk;done)
def adU{H:Hint}{o:yV}{rs:List (Nat×Bool×Nat)}(hq:oU P H (.lM rs sz x y) o):∃t x' y',o.op=.store t x' y'/\cy P t=F5 sz/\x=aJ H x'/\y=aJ H y':=by
 rcases hq with ⟨k,hk⟩ | ⟨_,_,_,_,_,h3⟩ | ⟨t,x',y',oe,rs',h1,h2,h3⟩ | ⟨_,_,_,_,_,_,_,h3⟩ | ⟨_,_,_,_,_,_,h3⟩ | ⟨_,_,_,_,_,_,h3⟩
 .exact (alk hk).elim
 .cases h3
 .simp only [Op.lM.injEq] at h3;obtain⟨_,rfl,rfl,rfl⟩:=h3;exact⟨t,x',y',h1,h2,rfl,rfl⟩
 .cases h3
 .cases h3
 .cases h3
def adV{H:Hint}{o:yV}{rs:List (Nat×Bool×Nat)}(hq:oU P H (.lO rs sz b x y) o):∃k,Op.cQ sz b x y=aQ P H k o:=by
 rcases hq with ⟨k,hk⟩ | ⟨_,_,_,_,_,h3⟩ | ⟨_,_,_,_,_,_,_,h3⟩ | ⟨k,rs',oe,b',x',y',h1,h3⟩ | ⟨_,_,_,_,_,_,h3⟩ | ⟨_,_,_,_,_,_,h3⟩
 .exact (alm hk).elim
 .cases h3
 .cases h3
 .simp only [Op.lO.injEq] at h3;obtain⟨_,rfl,rfl,rfl,rfl⟩:=h3;exact⟨k,h1⟩
 .cases h3
 .cases h3
def adW{H:Hint}{o:yV}(hq:oU P H (.cQ sz b x y) o):∃k,Op.cQ sz b x y=aQ P H k o:=by
 rcases hq with h | ⟨_,_,_,_,_,h3⟩ | ⟨_,_,_,_,_,_,_,h3⟩ | ⟨_,_,_,_,_,_,_,h3⟩ | ⟨_,_,_,_,_,_,h3⟩ | ⟨_,_,_,_,_,_,h3⟩
 .exact h
 .cases h3
 .cases h3
 .cases h3
 .cases h3
 .cases h3
def aln{H:Hint}{o:yV}(hq:oU P H q o):oU P H (jT q) o:=by
 cases h:q with
 | jQ rs f xs=>
  subst h;have⟨c,f',g1,g2,g3,g4⟩:=TH hq;exact .inr (.inl ⟨c,f',[],g1,g2,by rw[g3,g4];rfl⟩)
 | lM rs sz x y=>
  subst h;have⟨t,x',y',g1,g2,g3,g4⟩:=adU hq;refine .inl ⟨0,?_⟩;simp only[jT,aQ,g1,g2,g3,g4]
 | lO rs sz b x y=>
  subst h;exact .inl (adV hq)
 | _=>subst h;exact hq
def aby(hC:pW O self)(hH:fh O H){o:yV}(hq:oU O.P H q o)(hd:∀c,o.op≠.defer c)(hv:aX O.prog O.aI self tm hp ct q=F5 (v,an,aH))(ht:bT O m S w tm a.tmps)(hh:aT O m S w hp ct)(hn:∀u m' S' w',aT O m' S' w' an aH->ct<=aH->ae O.ab m' S' w' v u->cg m S w hp m' S' w' an ct->next (a.put o.dst u) w'):o.wpIn (WF ro) 0 O.P a w next Q:=by
 have quiet:bl q<=1->o.wpIn (WF ro) 0 O.P a w next Q:=by
  intro hk;have hg:=Zn hk hv hh.aM;obtain⟨S1,g1,g2,g3,g4⟩:=N9 hh hg;refine quiet_step hC hH hk hq hd hv cR.refl (yx _) hh.aM (fun id h1 h2=>?_) (Cn (fun _ _ h=>h) g2 (fun _ _=>rfl) ht) g1 (fun u m' S' w' k1 k2 k3 k4 k5=>hn u m' S' w' k1 hg.r7 k4 ((g4 ct).trans (k5.As hg.r7)))
  cases hm:m id with
  | none=>rfl
  | some p=>have:=hh.lt id p hm;omega
 have UK:∀{q':Op},(∃k,q'=aQ O.P H k o)->cx tm hp ct q'=F5 (v,an,aH)->o.wpIn (WF ro) 0 O.P a w next Q:=by
  intro q' iA hw;obtain⟨k,rfl⟩:=iA;obtain⟨n,u,w',m',S',h1,h2,h3,h4,h5,h6⟩:=aqj hH ht hh hw;exact Gx hd h1 h2 (hn u m' S' w' h3 (aod hw) h4 h6)
 have write:cx tm hp ct q=F5 (v,an,aH)->o.wpIn (WF ro) 0 O.P a w next Q:=by
  intro hw;refine UK ?_ hw;rcases hq with h | ⟨c,f,rs,_,_,rfl⟩ | ⟨_,_,_,_,_,_,_,rfl⟩ | ⟨_,_,_,_,_,_,_,rfl⟩ | ⟨_,_,_,_,_,_,rfl⟩ | ⟨_,_,_,_,_,_,rfl⟩
  .exact h
  .simp [cx] at hw
  .simp [cx] at hw
  .simp [cx] at hw
  .simp [cx] at hw
  .simp [cx] at hw
 have heap:∀{c:yax} {f:xB} {g:Nat} {first cap:List AV},o.op=.call c->c.callee=.value f->ax tm (aJ H f)=.fn (.f g) first cap->
   js O.prog O.aI self hp ct g (first++(dK tm (iQ H c.args.toList)++cap))=F5 (v,an,aH)->o.wpIn (WF ro) 0 O.P a w next Q:=by
  intro c f g first cap ho fW hx he;obtain⟨fi,ca,h1,h2⟩:=N8 hH ht (args:=c.args) hx;refine NB ho fW h1 (hC.heap _ _ _ _ _ _ _ he m S w _ hh h2) ?_;rintro e w' ⟨u,m',S',rfl,k1,k2,k3,k4⟩;exact⟨u,rfl,hn u m' S' w' k1 k2 k3 k4⟩
 have round:∀{c:yax} {f:xB} {l:Nat} {x y:List AV},o.op=.call c->c.callee=.value f->ax tm (aJ H f)=.fn (.y l) x y->
   ie self hp ct l (dK tm (iQ H c.args.toList))=F5 (v,an,aH)->o.wpIn (WF ro) 0 O.P a w next Q:=by
  intro c f l x y ho fW hx he;have rf:=bX hH ht f;rw[hx] at rf;simp only[ae] at rf;obtain⟨p,hm,hf⟩:=rf;have eI:=Eu hH ht c.args.toList;obtain⟨g,tmps,as_,body,h1,h2⟩:=hC.round _ _ _ _ _ _ _ he m S w (c.args.map a.eval) p hh hm (by simpa using eI);refine an8 ho fW hf h1 h2 ?_;rintro e w' ⟨u,m',S',rfl,k1,k2,k3,k4⟩;exact⟨u,rfl,hn u m' S' w' k1 k2 k3 k4⟩
 have dyn:∀{c:yax} {f:xB},o.op=.call c->c.callee=.value f->eR O.prog O.aI self hp ct .dyn (ax tm (aJ H f)) (dK tm (iQ H c.args.toList))=F5 (v,an,aH)->o.wpIn (WF ro) 0 O.P a w next Q:=by
  intro c f ho fW he;unfold eR at he
  split at he
  .rename_i g first cap hx
   (try simp only at he)
   cases hp0:aE (first++(dK tm (iQ H c.args.toList)++cap)) with
   | true=>
    rw[hp0] at he;simp only[yu] at he
    cases hr:bW O.prog O.aI self g (first++(dK tm (iQ H c.args.toList)++cap)) with
    | none=>simp[hr] at he
    | some r=>
     simp only[hr,yc,ym] at he;obtain⟨rfl,rfl,rfl⟩:=he;obtain⟨fi,ca,h1,h2⟩:=N8 hH ht (args:=c.args) hx;refine NB ho fW h1 (hC.pure g _ r hr w S _ (Un hh) hh.slt (A7 (fun _ h=>h) (fun _ _=>rfl) _ _ hp0 h2) hp0) ?_;rintro e w' ⟨u,S',rfl,hw,g1,g2,g3,g4⟩;obtain⟨S2,k1,k2,k3⟩:=aay g4 m;have hS:∀b,S b->S2 b:=fun b hb=>k1 b (g1 b hb)
     have Dv:∀b,S2 b->S b\/w.heap.size<=b:=fun b hb=>(k2 b hb).elim (g2 b) (fun h=>.inr h.1)
     have hl:∀b,S2 b->b<w'.heap.size:=fun b hb=>(k2 b hb).elim (g3 b) (fun h=>h.2)
     exact⟨u,rfl,hn u m S2 w' (Co hh hw hS Dv hl) (yx _) k3 (Be hh hw hS Dv)⟩
   | false=>
    rw[hp0] at he;simp only[yO] at he;exact heap ho fW hx he
  .rename_i l x y hx;exact round ho fW hx he
  .cases he
 cases bL:q with
 | jQ rs x xs=>
  subst bL;simp only[aX] at hv;have key:=TH hq;obtain⟨c,f,ho,fW,rfl,rfl⟩:=key
  cases hc:eR O.prog O.aI self hp ct .dyn (ax tm (aJ H f)) (dK tm (iQ H c.args.toList)) with
  | none=>simp[hc] at hv
  | some r=>
   obtain⟨v1,aY,qQ⟩:=r;simp only[hc] at hv
   cases hs:pU tm hp aY rs with
   | false=>rw[hs] at hv;cases hv
   | true=>
    rw[hs] at hv;simp only[yu,yc,ym] at hv;obtain⟨rfl,rfl,rfl⟩:=hv;exact dyn ho fW hc
 | call md x xs=>
  subst bL;have iA:∃k,Op.call md x xs=aQ O.P H k o:=by
   rcases hq with h | ⟨c,f,rs,_,_,h⟩ | ⟨_,_,_,_,_,_,_,h⟩ | ⟨_,_,_,_,_,_,_,h⟩ | ⟨_,_,_,_,_,_,h⟩ | ⟨_,_,_,_,_,_,h⟩
   .exact h
   .cases h
   .cases h
   .cases h
   .cases h
   .cases h
  obtain⟨k,hk⟩:=iA
  cases md with
  | pure=>exact quiet (by simp[bl])
  | own=>exact quiet (by simp[bl])
  | heap=>
   simp only[aX] at hv;obtain⟨c,f,ho,fW,rfl,rfl⟩:=Oz hk.symm (by rintro rfl;simp[ax,eR] at hv);unfold eR at hv
   split at hv
   .rename_i g first cap hx;exact heap ho fW hx hv
   .rename_i l x y hx;exact round ho fW hx hv
   .cases hv
  | dyn=>
   simp only[aX] at hv;obtain⟨c,f,ho,fW,rfl,rfl⟩:=Oz hk.symm (by rintro rfl;simp[ax,eR] at hv);exact dyn ho fW hv
 | lM rs s x y=>
  subst bL;obtain⟨t,x',y',g1,g2,g3,g4⟩:=adU hq;simp only[aX] at hv
  split at hv
  .rename_i id off hx
   cases hf:jN tm id rs with
   | false=>rw[hf] at hv;cases hv
   | true=>
    rw[hf] at hv;simp only[yu] at hv
    exact UK (q':=.st s x y) ⟨0,by simp only[aQ,g1,g2,g3,g4]⟩ hv
  .cases hv
 | lO rs s b x y=>
  subst bL;simp only[aX] at hv
  cases hc:cx tm hp ct (.cQ s b x y) with
  | none=>simp[hc] at hv
  | some r=>
   obtain⟨v1,aY,qQ⟩:=r;simp only[hc] at hv
   cases hs:(Aq tm (ax tm x) rs||pU tm hp aY rs) with
   | false=>rw[hs] at hv;cases hv
   | true=>
    rw[hs] at hv;simp only[yu,yc,ym] at hv;obtain⟨rfl,rfl,rfl⟩:=hv
    exact UK (q':=.cQ s b x y) (adV hq) hc
 | st s x y=>subst bL;exact write (by simpa only[aX] using hv)
 | rW kk x y z=>subst bL;exact write (by simpa only[aX] using hv)
 | rY x=>subst bL;exact write (by simpa only[aX] using hv)
 | cQ s b x y=>subst bL;exact write (by simpa only[aX] using hv)
 | r5 s x y=>subst bL;exact write (by simpa only[aX] using hv)
 | rV k x lo hi=>subst bL;exact quiet (by cases k<;>simp[bl])
 | len k x=>subst bL;exact quiet (by rcases k with _ | _ | k<;>simp[bl])
 | _=>subst bL;exact quiet (by simp[bl])
end
end
end
section
open Go
section
variable {v:AV}{d:Option Nat}
def rI(tm:Env)(g:Option (Nat×Bool)):Option Bool:=
 match g with
 | none=>F5 ydo
 | some (t,b)=>match aj tm t with | .bool c=>F5 (c==b) | .aw []=>F5 ydp | _=>F6
def fg(P:aF)(L:Lib)(self:cu)(tm:Env)(hp:Hp)(ct:Nat)(r:aS):gL:=
 match rI tm r.guard with
 | some ydo=>aX P L self tm hp ct r.op
 | some ydp=>F5 (.aw [],hp,ct)
 | none=>F6
def ZR{P:aF}{L:Lib}{self:cu}{r:aS}{rs:List aS}{s:St}:
  de P L self (r::rs) s=match fg P L self s.tm s.hp s.ct r with | some (v,hp,ct)=>de P L self rs {s with tm:=put r.dst v s.tm,hp:=hp,ct:=ct} | none=>F6:=by
 have⟨d,g,o⟩:=r;simp only[de,fg]
 cases g with
 | none=>rfl
 | some q=>
  have⟨t,b⟩:=q;simp only[rI];generalize aj s.tm t=x
  cases x with
  | bool c=>
   simp only;cases (c==b)<;>rfl
  | aw vs=>cases vs<;>rfl
  | _=>rfl
def acX(ops:Array yV)(g:Option (Nat×Bool))(g':Option (Nat×Bool)):Prop:=
 (g=F6/\g'=F6)\/∃t b j,g=F5 (t,b)/\g'=F5 (j,b)/\(ops[j]?).bind (·.dst)=F5 t
structure EW(P:xy)(H:Hint)(ops:Array yV)(r:aS)(o:yV):Prop where
 op:oU P H r.op o
 dst:r.dst=o.dst
 ok:KU H o.dst=ydo
 guard:acX ops r.guard o.guard
def eM(P:xy)(H:Hint)(ops:Array yV):List aS->List yV->Prop
 | [],[]=>True
 | r::rs,o::l=>(EW P H ops r o\/(r.guard=F6/\r.op=bad))/\eM P H ops rs l
 | _,_=>False
def ZS{P:xy}{H:Hint}{ops:Array yV}:∀(l:List yV) (k:Nat),eM P H ops (Ek P H ops l k).1 l
 | [],k=>by simp[Ek,eM]
 | o::l,k=>by
  have ih:=ZS (P:=P) (H:=H) (ops:=ops) l (k+(bif UH o then 1 else 0));simp only[Ek];generalize hq:Ek P H ops l (k+(bif UH o then 1 else 0))=q at ih;have⟨l',k'⟩:=q;simp only;have VX:eM P H ops (⟨o.dst,F6,bad⟩::l') (o::l):=⟨.inr ⟨rfl,rfl⟩,ih⟩
  cases hg:o.guard with
  | none=>
   simp only
   cases hd:KU H o.dst with
   | false=>exact VX
   | true=>exact⟨.inl ⟨.inl ⟨k,rfl⟩,rfl,hd,.inl ⟨rfl,hg⟩⟩,ih⟩
  | some p=>
   have⟨j,b⟩:=p;simp only
   cases ht:(ops[j]?).bind (·.dst) with
   | none=>exact VX
   | some t=>
    simp only
    cases hd:KU H o.dst with
    | false=>exact VX
    | true=>exact⟨.inl ⟨.inl ⟨k,rfl⟩,rfl,hd,.inr ⟨t,b,j,rfl,hg,ht⟩⟩,ih⟩
section
variable {O:bq}{H:Hint}{m:Mp}{S:Nat->Prop}{w:yk}{tm:Env}{a:Act}{hp an:Hp}{ct aH:Nat}{self:cu}{ro:Option Nat}{Q:uJ->Act->yk->Prop}{ops:Array yV}
def TI{tm:Env}{t:Nat}:aj (put d v tm) t=if d=F5 t then v else aj tm t:=by
 cases d with
 | none=>simp[put]
 | some i=>
  simp only[put,aj];by_cases h:i=t
  .subst h;simp
  .have:yo i t=ydp:=by
    cases hq:yo i t with
    | false=>rfl
    | true=>exact absurd (yf hq) h
   simp[this,h]
def Oa(a:Act)(d:Option Nat)(u:yh):(a.put d u).tmps.size=a.tmps.size:=by
 cases d with
 | none=>rfl
 | some i=>simp[Act.put]
def SP(a:Act)(d:Option Nat)(u:yh):(a.put d u).defers=a.defers:=by
 cases d with
 | none=>rfl
 | some i=>rfl
def TJ{a:Act}{u:yh}{t:Nat}(hd:∀i,d=F5 i->i<a.tmps.size):(a.put d u).tmps.getD t undef=if d=F5 t then u else a.tmps.getD t undef:=by
 cases d with
 | none=>simp[Act.put]
 | some i=>
  have hi:=hd i rfl;by_cases h:i=t
  .subst h;simp[Act.put,hi]
  .simp only [Act.put,yc,h,xz];simp[Array.getElem?_setIfInBounds_ne h]
def abz{n:Nat}(h:KU H d=ydo)(hn:H.n<=n):∀i,d=F5 i->i<n:=by
 rintro i rfl
 have:=rz.1 h
 lia
def TK{u:yh}(ht:bT O m S w tm a.tmps)(hd:∀i,d=F5 i->i<a.tmps.size)(hv:ae O.ab m S w v u):bT O m S w (put d v tm) (a.put d u).tmps:=fun t=>by
 rw[TI,TJ hd]
 split
 .exact hv
 .exact ht t
def aaE{o:yV}{g:Option (Nat×Bool)}{b:Bool}(hg:acX ops g o.guard)(ht:∀t,t∈Va g->ae O.ab m S w (aj tm t) (a.tmps.getD t undef))(hw:rI tm g=F5 b):Region.wanted o (yielded ops a.tmps)=b:=by
 rcases hg with ⟨rfl,h2⟩ | ⟨t,c,j,rfl,h2,h3⟩
 .simp only [rI,yc] at hw;subst hw;simp[Region.wanted,h2]
 .simp only [rI] at hw;have h4:=ht t (by simp[Va]);simp only[Region.wanted,h2]
  split at hw
  .rename_i d hd;rw[hd] at h4;simp only[ae] at h4;simp only[yc] at hw
   have:yielded ops a.tmps j=F5 d:=by
    simp only[yielded,h3,wE];have h5:a.tmps[t]? =F5 (.bool d):=by
     simp only[wj] at h4
     cases hq:a.tmps[t]? with
     | none=>rw[hq] at h4;simp[undef] at h4
     | some x=>rw[hq] at h4;simp at h4;rw[h4]
    rw[h5]
   rw[this,<-hw];cases d<;>cases c<;>rfl
  .rename_i hd;rw[hd] at h4;simp only[ae,aB] at h4;have⟨xs,h4,h5⟩:=h4;simp only[yc] at hw;subst hw
   have:yielded ops a.tmps j=F6:=by
    simp only[yielded,h3,wE];simp only[wj] at h4
    cases hq:a.tmps[t]? with
    | none=>rfl
    | some x=>rw[hq] at h4;simp at h4;rw[h4]
   rw[this];rfl
  .cases hw
def Zo{o:yV}{q:Op}(hq:oU O.P H q o){r:AV×Hp×Nat}(hv:aX O.prog O.aI self tm hp ct q=F5 r):∀c,o.op≠.defer c:=by
 rcases hq with ⟨k,rfl⟩ | ⟨c,f,rs,h1,_,_⟩ | ⟨_,_,_,_,_,h1,_,_⟩ | ⟨k,rs,sz,b,x,y,h1,rfl⟩ | ⟨k,sz,b,x,y,h1,rfl⟩ | ⟨k,n,sz,z,ps,h1,rfl⟩
 .exact alf hv
 .intro c' h;rw[h1] at h;cases h
 .intro c' h;rw[h1] at h;cases h
 .intro c' h;simp only[aQ,h] at h1;simp[bad] at h1
 .intro c' h;simp only[aQ,h] at h1;simp[bad] at h1
 .intro c' h;simp only[aQ,h] at h1;simp[bad] at h1
def aql(hC:pW O self)(hH:fh O H){i:Nat}{r:aS}{o:yV}(hi:ops[i]? =F5 o)(hr:EW O.P H ops r o\/(r.guard=F6/\r.op=bad))(hv:fg O.prog O.aI self tm hp ct r=F5 (v,an,aH))(ht:bT O m S w tm a.tmps)(hh:aT O m S w hp ct)(hn:H.n<=a.tmps.size){K:Act->yk->Prop}(hK:∀u m' S' w',aT O m' S' w' an aH->ct<=aH->bT O m' S' w' (put r.dst v tm) (a.put o.dst u).tmps->cg m S w hp m' S' w' an ct->K (a.put o.dst u) w'):wpOpIn (WF ro) 0 O.P ops Q i K a w:=by
 rcases hr with hr | ⟨h1,h2⟩
 case inr=>
  simp only[fg,h1,rI,h2,bad,aX,eR,ax] at hv;cases hv
 unfold wpOpIn;simp only[hi];unfold fg at hv
 cases hw:rI tm r.guard with
 | none=>simp[hw] at hv
 | some b=>
  have XC:=aaE hr.guard (fun t _=>ht t) hw;have hd:=abz hr.ok hn;rw[XC]
  cases b with
  | true=>
   simp only[hw] at hv;simp only[xJ];refine aby hC hH hr.op (Zo hr.op hv) hv ht hh (fun u m' S' w' k1 k2 k3 k4=>hK u m' S' w' k1 k2 ?_ k4);rw[hr.dst];exact TK (Cn (fun id p h=>k4.old id p (hh.lt id p h) h) k4.sub (fun b hb=>k4.still b hb) ht) hd k3
  | false=>
   simp only[hw,yc,ym] at hv;obtain⟨rfl,rfl,rfl⟩:=hv;simp only[yD,xz];refine⟨fun _ _=>trivial,hK undef m S w hh (yx _) ?_ cg.refl⟩;rw[hr.dst];exact TK ht hd (by simp[ae,aB,undef])
def acY(hC:pW O self)(hH:fh O H):∀(l:List yV) (rs:List aS) (i:Nat) (s s':St) (a:Act) (m:Mp) (S:Nat->Prop) (w:yk),(∀j,l[j]? =ops[i+j]?)->eM O.P H ops rs l->
  de O.prog O.aI self rs s=F5 s'->bT O m S w s.tm a.tmps->aT O m S w s.hp s.ct->H.n<=a.tmps.size->
  (∀a' m' S' w',aT O m' S' w' s'.hp s'.ct->s.ct<=s'.ct->bT O m' S' w' s'.tm a'.tmps->cg m S w s.hp m' S' w' s'.hp s.ct->a'.tmps.size=a.tmps.size->a'.defers=a.defers->s'.base=s.base->Q .normal a' w')->
  wpOpsIn (WF ro) 0 O.P ops Q (List.range' i l.length) a w
 | [],rs,i,s,s',a,m,S,w,hl,hr,hv,ht,hh,hn,hQ=>by
  cases rs with
  | cons _ _=>simp[eM] at hr
  | nil=>
   simp only[de,yc] at hv;subst hv;simp only[yI,List.range'_zero,wpOpsIn];exact hQ a m S w hh (yx _) ht cg.refl rfl rfl rfl
 | o::l,rs,i,s,s',a,m,S,w,hl,hr,hv,ht,hh,hn,hQ=>by
  cases rs with
  | nil=>simp[eM] at hr
  | cons r rs=>
   simp only[eM] at hr;rw[ZR] at hv
   cases h1:fg O.prog O.aI self s.tm s.hp s.ct r with
   | none=>simp[h1] at hv
   | some q=>
    have⟨v,aY,qQ⟩:=q;simp only[h1] at hv;have hi:ops[i]? =F5 o:=by have:=hl 0;simpa using this.symm
    rw[yv,List.range'_succ,wpOpsIn_cons];refine aql hC hH hi hr.1 h1 ht hh hn (fun u m1 S1 w1 k1 k2 k3 k4=>?_)
    refine acY hC hH l rs (i+1) {s with tm:=put r.dst v s.tm,hp:=aY,ct:=qQ} s' _ m1 S1 w1 (fun j=>?_) hr.2 hv k3 k1 (by rw[Oa];exact hn) (fun a' m' S' w' g1 g2 g3 g4 g5 g6 g7=>?_)
    .have:=hl (j+1)
     rw[ybd] at this;rw[this];congr 1;lia
    .exact hQ a' m' S' w' g1 (xu k2 g2) g3 (k4.trans (g4.As k2)) (by rw[g5,Oa]) (by rw[g6,SP]) g7
end
end
end
section
open Go
section
variable {ops:Array yV}
def SA{acc:List Nat}{i:Nat}:∀{es:List Edge},vH (CB acc es) i=ydo->∃e,e∈es/\Region.binds .any e=ydo/\(i=e.on\/vH (acc.getD e.on 0) i=ydo)
 | [],h=>by simp[CB] at h
 | e::r,h=>by
  simp only[CB] at h
  cases hb:Region.binds .any e with
  | false=>
   rw[hb] at h;have⟨e',h1,h2⟩:=SA h
   grind
  | true=>
   rw[hb] at h;simp only[yu,yce,uN] at h;rcases h with (h | h) | h
   .grind
   .grind
   .have ⟨e',h1,h2⟩:=SA h
    grind
def aaF{l:List yV}{acc:List Nat}{j:Nat}(hj:j<acc.length):(kK acc l)[j]? =acc[j]? :=by
 induction l generalizing acc with
 | nil=>rfl
 | cons o l ih=>
  simp only[kK]
  grind
def alo{l:List yV}{acc:List Nat}{j:Nat}{o:yV}(h:l[j]? =F5 o):∃BD:List Nat,(kK acc l)[acc.length+j]? =F5 (CB BD o.after.toList)/\BD.length=acc.length+j/\∀k,k<BD.length->BD[k]? =(kK acc l)[k]? :=by
 induction l generalizing acc j with
 | nil=>simp at h
 | cons x l ih=>
  cases j with
  | zero=>
   simp only[uy,yc] at h;subst h;refine⟨acc,?_,by simp,fun k hk=>?_⟩
   .simp only [kK];rw[aaF (by simp)]
    simp
   .simp only [kK];rw[aaF (by rw[yJ];lia),List.getElem?_append_left hk]
  | succ j=>
   have⟨BD,h1,h2,h3⟩:=ih (acc:=acc++[CB acc x.after.toList]) h;simp only[yJ,yv,yI] at h1 h2;refine⟨BD,?_,by lia,fun k hk=>?_⟩
   .simp only [kK]
    grind
   .simp only [kK];exact h3 k hk
def Ord(ops:Array yV)(i j:Nat):Prop:=vH ((kK [] ops.toList).getD j 0) i=ydo
def UL(ops:Array yV)(D:Nat->Prop):Prop:=∀j o,ops[j]? =F5 o->D j->∀e,e∈o.after->Region.binds .any e=ydo->D e.on
def aaG{D:Nat->Prop}(hc:UL ops D):∀(j:Nat) (o:yV),ops[j]? =F5 o->(∀e,e∈o.after->Region.binds .any e=ydo->D e.on)->∀i,Ord ops i j->D i:=by
 intro j
 induction j using vT with
 | _ j ih=>
  intro o ho hr i hi;have jF:ops.toList[j]? =F5 o:=by simp_all
  have⟨BD,h1,h2,h3⟩:=alo (acc:=[]) jF;simp only[yI,yd] at h1 h2;unfold Ord at hi;rw[yS,h1,xW] at hi;have⟨e,g1,g2,g3⟩:=SA hi;have he:D e.on:=hr e (by simpa using g1) g2;rcases g3 with rfl | g3
  .grind
  .rcases vI e.on j with aM | j9
   .have h4:=h3 e.on (by lia);have XD:e.on<ops.size:=by
     grind
    have XA:ops[e.on]? =F5 ops[e.on]:=by simp_all
    refine ih e.on aM _ XA (fun e' he' bI=>hc e.on _ XA he e' he' bI) i ?_;unfold Ord
    grind
   .grind
def aoe{D:Nat->Prop}(hc:UL ops D){i j:Nat}{o:yV}(ho:ops[j]? =F5 o)(hj:D j)(hi:Ord ops i j):D i:=
 aaG hc j o ho (fun e he hb=>hc j o ho hj e he hb) i hi
def Y8:∀{l:List yV} {k j:Nat} {o:yV},oC l k=ydo->l[j]? =F5 o->∀e,e∈o.after->Region.binds .any e=ydo->e.on<k+j
 | [],k,j,o,_,h=>by simp at h
 | x::l,k,j,o,hb,h=>by
  simp only[oC,ye] at hb
  cases j with
  | zero=>
   simp only[uy,yc] at h;subst h;intro e he zx
   have:=ybO.1 hb.1 e (by simpa using he)
   simp_all
  | succ j=>
   intro e he zx
   have:=Y8 hb.2 h e he zx
   lia
end
def E3(a b:aS)(r:List aS):Prop:=N4 a b=ydp/\(Jy a b=ydp\/JT a b r=ydo)
def Za{m:Nat}{b:aS}:∀{l:List aS} {k i:Nat} {a:aS},N5 m b l k=ydo->l[i]? =F5 a->vH m (k+i)=ydo\/E3 a b (l.drop (i+1))
 | [],k,i,a,_,h=>by simp at h
 | x::l,k,i,a,hp,h=>by
  simp only[N5,ye] at hp
  cases i with
  | zero=>
   simp only[uy,yc] at h;subst h;have h1:=hp.1;simp only[uN,vW,ybp,Bool.and_eq_false_iff,Bool.not_eq_false'] at h1;rcases h1 with h1 | ⟨h1,h2⟩
   .grind
   .exact .inr ⟨h1,by simpa using h2⟩
  | succ i=>
   rcases Za hp.2 h with h1 | h1
   .grind
   .grind
def Sp:∀{l done:List aS} {ms:List Nat} {i j:Nat} {a b:aS},rq done l ms=ydo->(done++l)[i]? =F5 a->l[j]? =F5 b->i<done.length+j->
  ∃m,ms[j]? =F5 m/\(vH m i=ydo\/E3 a b (((done++l).take (done.length+j)).drop (i+1)))
 | [],done,ms,i,j,a,b,_,_,h,_=>by simp at h
 | x::l,done,[],i,j,a,b,hp,_,h,_=>by simp[rq] at hp
 | x::l,done,m::ms,i,j,a,b,hp,ha,h,qR=>by
  simp only[rq,ye] at hp
  cases j with
  | zero=>
   have FA:done[i]? =F5 a:=by grind
   have:=Za hp.1 FA
   grind
  | succ j=>
   have e:done++x::l=(done++[x])++l:=by simp
   have⟨m',h1,h2⟩:=Sp (i:=i) (a:=a) hp.2 (by rw[<-e];exact ha) h (by simp;lia)
   grind
def No{a b:aS}(h:N4 a b=ydp):(∀d,a.dst=F5 d->d∉Et b/\b.dst≠F5 d)/\(∀d,b.dst=F5 d->d∉Et a):=by
 have mem:∀{i:Nat} {l:List Nat},jy i l=ydp->i∉l:=by
  intro i l
  induction l with
  | nil=>intro _ h;cases h
  | cons j r ih=>
   intro h hm;simp only[jy] at h
   cases hb:yo j i with
   | true=>rw[hb] at h;cases h
   | false=>
    simp_all
 simp only[N4,ybp] at h;have⟨⟨h1,h2⟩,h3⟩:=h;refine⟨fun d hd=>⟨mem (by simpa[hd,G4] using h1),fun hb=>?_⟩,fun d hd=>mem (by simpa[hd,G4] using h2)⟩;rw[hd,hb] at h3;simp[Vb] at h3
def ZT{t:Nat}:∀{l:List aS},EO t l=ydo->∀r,r∈l->r.dst≠F5 t
 | [],_,r,h=>by cases h
 | x::l,h,r,hr=>by
  simp only[EO,ye,vW] at h;rcases wB.1 hr with rfl | hr
  .intro hd;rw[hd] at h;simp[G4,jy] at h
  .exact ZT h.2 r hr
def NR{sz t:Nat}{ag:Bool}:∀{l:List (Nat×Bool×Nat)},EZ sz ag t l=ydo->(sz,ag,t)∈l
 | [],h=>by simp[EZ] at h
 | (s,g,u)::r,h=>by
  simp only[EZ,uN,ye] at h;rcases h with ⟨h1,h2,h3⟩ | h
  .simp_all
  .exact wJ _ (NR h)
def TL:∀{a b:List Nat},c6 a b=ydo->a=b
 | [],[],_=>rfl
 | [],_::_,h=>by simp[c6] at h
 | _::_,[],h=>by simp[c6] at h
 | x::a,y::b,h=>by
  simp only[c6,ye] at h;rw[yf h.1,TL h.2]
def amj{a b:AV}(h:VP a b=ydo):a=b:=by
 unfold VP at h
 split at h
 .grind
 .grind
 .rw [TL h]
 .rfl
 .rfl
 .simp_all
 .simp_all
 .simp_all
 .cases h
def Sq{tm:Env}{hp an:Hp}{sz t:Nat}{ag:Bool}{v:AV}:∀{l:List (Nat×Bool×Nat)},pU tm hp an l=ydo->(sz,ag,t)∈l->gU hp sz ag (aj tm t)=F5 v->gU an sz ag (aj tm t)=F5 v
 | [],_,h,_=>by cases h
 | (s,g,u)::r,h,hm,hv=>by
  simp only[pU] at h
  cases h1:gU hp s g (aj tm u) with
  | none=>simp[h1] at h
  | some x=>
   cases h2:gU an s g (aj tm u) with
   | none=>simp[h1,h2] at h
   | some y=>
    simp only[h1,h2,ye] at h;rcases wB.1 hm with e | hm
    .simp only [ym] at e;obtain⟨rfl,rfl,rfl⟩:=e;rw[h1] at hv;rw[h2,<-amj h.1,hv]
    .exact Sq h.2 hm hv
structure PR(P:aF)(L:Lib)(run:cu)(rs:List aS)(bO:Nat->Env)(bD:Nat->Hp)(bA:Nat->Nat)(vF:Nat->AV):Prop where
 step:∀i r,rs[i]? =F5 r->fg P L run (bO i) (bD i) (bA i) r=F5 (vF i,bD (i+1),bA (i+1))
 tm:∀i r,rs[i]? =F5 r->bO (i+1)=put r.dst (vF i) (bO i)
def acZ{P:aF}{L:Lib}{self:cu}:∀{rs:List aS} {s s':St},de P L self rs s=F5 s'->
  ∃bO bD bA vF,PR P L self rs bO bD bA vF/\bO 0=s.tm/\bD 0=s.hp/\bA 0=s.ct/\bO rs.length=s'.tm/\bD rs.length=s'.hp/\bA rs.length=s'.ct/\s'.base=s.base
 | [],s,s',h=>by
  simp only[de,yc] at h;subst h;exact⟨fun _=>s.tm,fun _=>s.hp,fun _=>s.ct,fun _=>.undef,⟨fun i r h=>by simp at h,fun i r h=>by simp at h⟩,rfl,rfl,rfl,rfl,rfl,rfl,rfl⟩
 | r::rs,s,s',h=>by
  rw[ZR] at h
  cases h1:fg P L self s.tm s.hp s.ct r with
  | none=>simp[h1] at h
  | some q=>
   have⟨v,aY,qQ⟩:=q;simp only[h1] at h;have⟨bO,bD,bA,vF,g1,g2,g3,g4,g5,g6,g7,g8⟩:=acZ h;refine⟨fun i=>match i with | 0=>s.tm | i+1=>bO i,fun i=>match i with | 0=>s.hp | i+1=>bD i,fun i=>match i with | 0=>s.ct | i+1=>bA i,fun i=>match i with | 0=>v | i+1=>vF i,⟨?_,?_⟩,rfl,rfl,rfl,by simpa using g5,by simpa using g6,by simpa using g7,g8⟩
   .intro i r' hi
    cases i with
    | zero=>
     grind
    | succ i=>exact g1.step i r' (by simpa using hi)
   .intro i r' hi
    cases i with
    | zero=>
     grind
    | succ i=>exact g1.tm i r' (by simpa using hi)
section
variable {P:aF}{L:Lib}{self:cu}{rs:List aS}{bO:Nat->Env}{bD:Nat->Hp}{bA:Nat->Nat}{vF:Nat->AV}
def JB(hR:PR P L self rs bO bD bA vF){t i:Nat}:∀(k:Nat),i+k<=rs.length->(∀j r,i<=j->j<i+k->rs[j]? =F5 r->r.dst≠F5 t)->aj (bO (i+k)) t=aj (bO i) t
 | 0,_,_=>rfl
 | k+1,hk,h=>by
  have hr:rs[i+k]? =F5 rs[i+k]:=by simp_all
  rw[show i+(k+1)=i+k+1 by lia,hR.tm _ _ hr,TI,yp (h (i+k) _ (by lia) (by lia) hr)];exact JB hR k (by lia) (fun j r h1 h2=>h j r h1 (by lia))
def aaH{r:aS}{tm:Env}{hp an:Hp}{ct aH:Nat}{v:AV}(hk:bl r.op<=1)(hv:fg P L self tm hp ct r=F5 (v,an,aH))(aM:∀id o,ak hp id=F5 o->id<ct):jv hp ct an aH:=by
 unfold fg at hv
 cases hw:rI tm r.guard with
 | none=>simp[hw] at hv
 | some b=>
  cases b with
  | true=>simp only[hw] at hv;exact Zn hk hv aM
  | false=>
   simp only[hw,yc,ym] at hv;obtain⟨rfl,rfl,rfl⟩:=hv;exact jv.refl aM
def NS(hR:PR P L self rs bO bD bA vF){i:Nat}(aM:∀id o,ak (bD i) id=F5 o->id<bA i):∀(k:Nat),i+k<=rs.length->(∀j r,i<=j->j<i+k->rs[j]? =F5 r->bl r.op<=1)->jv (bD i) (bA i) (bD (i+k)) (bA (i+k))
 | 0,_,_=>jv.refl aM
 | k+1,hk,h=>by
  have ih:=NS hR aM k (by lia) (fun j r h1 h2=>h j r h1 (by lia));have hr:rs[i+k]? =F5 rs[i+k]:=by simp_all
  exact ih.trans (aaH (h (i+k) _ (by lia) (by lia) hr) (hR.step _ _ hr) ih.lt)
end
end
section
open Go
section
variable {tm:Env}{hp:Hp}{ct i:Nat}{r:aS}
def Ob{tm:Env}{t:Nat}:∀{l:List Nat},t∈l->aj (cd tm l) t=aj tm t
 | [],h=>by cases h
 | i::r,h=>by
  simp only[cd,aj]
  cases hb:yo i t with
  | true=>rw[yf hb];rfl
  | false=>
   rcases wB.1 h with e | h
   .simp_all
   .exact Ob h
def amk{P:aF}{L:Lib}{self:cu}{tm':Env}{o:Op}{r:AV×Hp×Nat}(h:∀t,t∈kW o->aj tm' t=aj tm t)(hv:aX P L self tm hp ct o=F5 r):aX P L self tm' hp ct (jT o)=F5 r:=by
 cases o with
 | jQ rs f xs=>
  simp only[kW,wD] at h;simp only[jT,aX] at hv ⊢
  rw[dJ (x:=f) fun t ht=>h t (.inl ht),Ee (xs:=xs) fun t ht=>h t (.inr ht)]
  cases hc:eR P L self hp ct .dyn (ax tm f) (dK tm xs) with
  | none=>simp[hc] at hv
  | some q=>
   obtain⟨v1,aY,qQ⟩:=q;simp only[hc] at hv
   cases hs:pU tm hp aY rs with
   | false=>rw[hs] at hv;cases hv
   | true=>
    rw[hs] at hv;simpa only[pU,yu] using hv
 | lM rs sz x v=>
  simp only[jT,aX] at hv ⊢
  rw[Ed (o:=.st sz x v) (tm:=tm) h]
  split at hv
  .rename_i id off hx
   cases hf:jN tm id rs with
   | false=>rw[hf] at hv;cases hv
   | true=>rw[hf] at hv;exact hv
  .cases hv
 | lO rs sz b x v=>
  simp only[jT,aX] at hv ⊢
  rw[Ed (o:=.cQ sz b x v) (tm:=tm) h]
  cases hc:cx tm hp ct (.cQ sz b x v) with
  | none=>simp[hc] at hv
  | some q=>
   obtain⟨v1,aY,qQ⟩:=q;simp only[hc] at hv
   cases hs:(Aq tm (ax tm x) rs||pU tm hp aY rs) with
   | false=>rw[hs] at hv;cases hv
   | true=>rw[hs] at hv;exact hv
 | rZ sz b x v=>
  rw[<-hv];simp only[kW,wD] at h;simp only[jT,aX]
  rw[dJ (x:=x) fun t ht=>h t (.inl ht),dJ (x:=v) fun t ht=>h t (.inr ht)]
 | call md f xs=>
  rw[<-hv];simp only[kW,wD] at h;simp only[jT,aX]
  rw[dJ (x:=f) fun t ht=>h t (.inl ht),Ee (xs:=xs) fun t ht=>h t (.inr ht)]
 | st s x y=>rw[<-hv];simp only[jT,aX];exact Ed h
 | rW kk x y z=>rw[<-hv];simp only[jT,aX];exact Ed h
 | rY x=>rw[<-hv];simp only[jT,aX];exact Ed h
 | cQ s b x y=>rw[<-hv];simp only[jT,aX];exact Ed h
 | r5 s x y=>rw[<-hv];simp only[jT,aX];exact Ed h
 | box s x=>rw[<-hv];simp only[jT,aX];rw[Jo (hp:=hp) h]
 | iv n s z ps=>rw[<-hv];simp only[jT,aX];rw[Jo (hp:=hp) h]
 | qF s b z x y=>rw[<-hv];simp only[jT,aX];rw[Jo (hp:=hp) h]
 | BT=>exact hv
 | rX x=>rw[<-hv];simp only[jT,aX];rw[Jo (hp:=hp) h]
 | _=>rw[<-hv];simp only[jT,aX];rw[akI h]
def abA{P:aF}{L:Lib}{self:cu}{an:Hp}{aH:Nat}{q:Op}{v:AV}(hk:bl q=0\/∃sz ag x,q=.ld sz ag x)(hv:aX P L self tm hp ct q=F5 (v,an,aH)):bh tm hp q=F5 v/\an=hp/\aH=ct:=by
 have gC:∀{q:Op},(match bh tm hp q with | some v=>F5 (v,hp,ct) | none=>(F6:gL))=F5 (v,an,aH)->bh tm hp q=F5 v/\an=hp/\aH=ct:=by
  intro q h
  cases hm:bh tm hp q with
  | none=>simp[hm] at h
  | some r=>
   simp only[hm,yc,ym] at h;obtain⟨rfl,rfl,rfl⟩:=h;exact⟨rfl,rfl,rfl⟩
 rcases hk with hk | ⟨sz,ag,x,rfl⟩
 .cases bL:q with
  | call md f xs=>subst bL;cases md<;>simp[bl] at hk
  | jQ rs f xs=>subst bL;simp[bl] at hk
  | lM rs s x y=>subst bL;simp[bl] at hk
  | lO rs s b x y=>subst bL;simp[bl] at hk
  | rZ s b x y=>subst bL;simp[bl] at hk
  | st s x y=>subst bL;simp[bl] at hk
  | rW kk x y z=>subst bL;simp[bl] at hk
  | rY x=>subst bL;simp[bl] at hk
  | cQ s b x y=>subst bL;simp[bl] at hk
  | r5 s x y=>subst bL;simp[bl] at hk
  | box s x=>subst bL;simp[bl] at hk
  | iv n s z ps=>subst bL;simp[bl] at hk
  | qF s b z x y=>subst bL;simp[bl] at hk
  | BT=>subst bL;simp[bl] at hk
  | rX x=>subst bL;simp[bl] at hk
  | _=>exact bL▸gC (q:=q) (by rw[bL] at hv ⊢;simp only[aX] at hv;exact hv)
 .exact gC (q:=.ld sz ag x) (by simp only[aX] at hv;exact hv)
section
variable {O:bq}{H:Hint}{ops:Array yV}{π:Nat->Nat}{rs:List aS}{bO:Nat->Env}{bD:Nat->Hp}{bA:Nat->Nat}{vF:Nat->AV}{self:cu}{ro:Option Nat}{Q:uJ->Act->yk->Prop}
structure Al(O:bq)(H:Hint)(FB:cu)(ops:Array yV)(π:Nat->Nat)(rs:List aS)(bO:Nat->Env)(bD:Nat->Hp)(bA:Nat->Nat)(vF:Nat->AV):Prop where
 run:PR O.prog O.aI FB rs bO bD bA vF
 len:rs.length=ops.size
 of:∀(i:Nat) (r:aS) (o:yV),rs[i]? =F5 r->ops[π i]? =F5 o->EW O.P H ops r o
 pair:∀(i j:Nat) (a b:aS),i<j->rs[i]? =F5 a->rs[j]? =F5 b->Ord ops (π i) (π j)\/E3 a b ((rs.take j).drop (i+1))
 back:∀(i:Nat) (o:yV),ops[i]? =F5 o->∀e,e∈o.after->Region.binds .any e=ydo->e.on<i
def ll(rs:List aS)(i:Nat):Prop:=∃r,rs[i]? =F5 r/\bl r.op=2
def UM(rs:List aS):∀(k i:Nat),i+k=rs.length->∃c,i<=c/\c<=rs.length/\(∀j,i<=j->j<c->¬ll rs j)/\(c=rs.length\/ll rs c)
 | 0,i,h=>⟨i,yx _,by lia,fun j h1 h2=>by lia,.inl (by lia)⟩
 | k+1,i,h=>by
  rcases tg (ll rs i) with hw | hw
  .grind
  .have ⟨c,h1,h2,h3,h4⟩:=UM rs k (i+1) (by lia)
   grind
def JW{rs:List aS}(hr:rs[i]? =F5 r)(hw:¬ll rs i):bl r.op<=1:=by
 have h:bl r.op≠2:=fun e=>hw ⟨r,hr,e⟩
 have:bl r.op<=2:=by
  cases r.op with
  | rV k x lo hi=>cases k<;>simp[bl]
  | len k x=>rcases k with _ | _ | k<;>simp[bl]
  | call md f xs=>cases md<;>simp[bl]
  | _=>simp[bl]
 lia
def Rh(O:bq)(rs:List aS)(bO:Nat->Env)(D:Nat->Prop)(m:Mp)(S:Nat->Prop)(w:yk)(a:Act):Prop:=
 ∀t,∃j,j<=rs.length/\(∀(i:Nat) (r:aS),rs[i]? =F5 r->r.dst=F5 t->(D i↔i<j))/\ae O.ab m S w (aj (bO j) t) (a.tmps.getD t undef)
def aqm{D:Nat->Prop}{m:Mp}{S:Nat->Prop}{w:yk}{a:Act}(hG:Al O H self ops π rs bO bD bA vF)(hT:Rh O rs bO D m S w a)(hr:rs[i]? =F5 r)(hi:¬D i)(eN:∀j,Ord ops (π j) (π i)->D j)(fT:∀j,Ord ops (π i) (π j)->¬D j):∀t,t∈Et r->ae O.ab m S w (aj (bO i) t) (a.tmps.getD t undef):=by
 intro t ht;obtain⟨j,h1,h2,h3⟩:=hT t;have zA:i<rs.length:=(xN.1 hr).1;have e:aj (bO j) t=aj (bO i) t:=by
  rcases Nat.le_total j i with XE | qR
  .obtain ⟨k,rfl⟩:∃k,i=j+k:=⟨i-j,by omega⟩;refine (JB hG.run k (by omega) (fun l rl g1 g2 hl hd=>?_)).symm;have hnD:¬D l:=fun hD=>by have:=(h2 l rl hl hd).1 hD;omega
   rcases hG.pair l (j+k) rl r (by omega) hl hr with ho | hf
   .exact hnD (eN l ho)
   .exact ((No hf.1).1 t hd).1 ht
  .obtain ⟨k,rfl⟩:∃k,j=i+k:=⟨j-i,by omega⟩;refine JB hG.run k h1 (fun l rl g1 g2 hl hd=>?_);have hD:D l:=(h2 l rl hl hd).2 (by omega);rcases vJ g1 with rfl | g1
   .exact hi hD
   .rcases hG.pair i l r rl g1 hr hl with ho | hf
    .exact fT l ho hD
    .exact (No hf.1).2 t hd ht
 rw[<-e];exact h3
def ac0{D D':Nat->Prop}{m m':Mp}{S S':Nat->Prop}{w w':yk}{a:Act}{u:yh}(hG:Al O H self ops π rs bO bD bA vF)(hT:Rh O rs bO D m S w a)(hr:rs[i]? =F5 r)(hi:¬D i)(eN:∀j,Ord ops (π j) (π i)->D j)(fT:∀j,Ord ops (π i) (π j)->¬D j)(hD:∀j,D' j↔D j\/j=i)(hm:di m m')(hS:∀b,S b->S' b)(hw:gh S w w')(hd:∀d,r.dst=F5 d->d<a.tmps.size)(hv:ae O.ab m' S' w' (vF i) u):Rh O rs bO D' m' S' w' (a.put r.dst u):=by
 intro t;have zA:i<rs.length:=(xN.1 hr).1;by_cases HR:r.dst=F5 t
 .refine ⟨i+1,zA,fun l rl hl HS=>?_,?_⟩
  .rw [hD];constructor
   .rintro (h | h)
    .rcases vI l (i+1) with g | g
     .exact g
     .rcases hG.pair i l r rl (by omega) hr hl with ho | hf
      .exact (fT l ho h).elim
      .exact (((No hf.1).1 t HR).2 HS).elim
    .omega
   .intro h;rcases vJ (ud h) with h | h
    .exact .inr h
    .rcases hG.pair l i rl r h hl hr with ho | hf
     .exact .inl (eN l ho)
     .exact (((No hf.1).1 t HS).2 HR).elim
  .rw [hG.run.tm i r hr,TI,TJ hd,yz HR,yz HR];exact hv
 .obtain ⟨j,h1,h2,h3⟩:=hT t;refine⟨j,h1,fun l rl hl HS=>?_,?_⟩
  .rw [hD,<-h2 l rl hl HS];constructor
   .rintro (h | h)
    .exact h
    .subst h;rw[hr] at hl;injection hl with hl
     subst hl;exact (HR HS).elim
   .exact .inl
  .rw [TJ hd,yp HR];exact mN hm hS hw _ _ h3
def Zp{tm:Env}{hp an:Hp}{ct aH id off sz oe t:Nat}{ag:Bool}{x y:X}{v v':AV}:∀{l:List (Nat×Bool×Nat)},jN tm id l=ydo->(sz,ag,t)∈l->ax tm x=.ptr id off->
  cx tm hp ct (.st oe x y)=F5 (v',an,aH)->gU hp sz ag (aj tm t)=F5 v->gU an sz ag (aj tm t)=F5 v
 | [],_,h,_,_,_=>by cases h
 | (s,g,u)::r,h,hm,hx,hw,hv=>by
  simp only[jN,ye] at h;rcases wB.1 hm with e | hm
  .simp only [ym] at e;obtain⟨rfl,rfl,rfl⟩:=e;have h1:=h.1
   split at h1
   .rename_i j o hj;have eK:j≠id:=by
     intro e
     simp_all
    rw[hj] at hv ⊢;simp only[cx,hx] at hw;have key:∀ob,ak (aU hp id ob) j=ak hp j:=fun ob=>by rw[zU,yp (ycW eK)]
    split at hw
    .rename_i pu ex z cs Dy;generalize (yo _ _&&yC _ _&&bP _)=bb at hw
     cases bb with
     | false=>cases hw
     | true=>
      obtain⟨_,rfl,_⟩:=hw;simp only[gU,key] at hv ⊢;exact hv
    .cases hw
   .rename_i cs hj;rw[hj] at hv ⊢;simpa only[gU] using hv
   .cases h1
  .exact Zp h.2 hm hx hw hv
def Sr{id j:Nat}(h:j≠id):∀(hp:Hp),ak (c7 hp id) j=ak hp j
 | []=>rfl
 | (k,o)::r=>by
  simp only[c7,ak]
  cases h1:yo k id with
  | true=>
   have e:=yf h1;simp only[yu];rw[Sr h r]
   cases h2:yo k j with
   | true=>exact absurd (yf h2▸e) h
   | false=>rfl
  | false=>
   simp only[yO,ak];rw[Sr h r]
def aml{an:Hp}{aH sz oe bb t:Nat}{ag:Bool}{x y:X}{v v':AV}{l:List (Nat×Bool×Nat)}(h:Aq tm (ax tm x) l=ydo)(hm:(sz,ag,t)∈l)(hw:cx tm hp ct (.cQ oe bb x y)=F5 (v',an,aH))(aM:∀id o,ak hp id=F5 o->id<ct)(hv:gU hp sz ag (aj tm t)=F5 v):gU an sz ag (aj tm t)=F5 v:=by
 have grow:∀{o:Obj},an=(ct,o)::hp->gU an sz ag (aj tm t)=F5 v:=fun {o} e=>by
  subst e;refine Uj (fun id o' jF=>⟨o',?_,jI.refl o'⟩) hv
  rw[fF,yp (by have:=aM id o' jF;omega)];exact jF
 simp only[cx] at hw
 cases hs:jr hp oe (ax tm y) with
 | none=>simp[hs] at hw
 | some q=>
  obtain⟨mm,new⟩:=q;simp only[hs] at hw;cases hx:ax tm x<;>rw[hx] at hw h<;>simp only[Aq,yD] at h<;>(try simp only at hw)
  case af=>
   cases hb:yo mm 0 with
   | true=>simp only[hb,yu,yc,ym] at hw;rw[<-hw.2.1];exact hv
   | false=>
    rw[hb] at hw;simp only[yO] at hw;generalize (yC mm room&&(yC (mm*bb) room&&yM 0 oe))=b2 at hw
    cases b2 with
    | false=>cases hw
    | true=>simp only[yu,yc,ym] at hw;exact grow hw.2.1.symm
  case ap ex n cs=>
   cases ex with
   | false=>simp at hw
   | true=>
    simp only at hw
    cases hb:yo mm 0 with
    | true=>simp only[hb,yu,yc,ym] at hw;rw[<-hw.2.1];exact hv
    | false=>
     rw[hb] at hw;simp only[yO] at hw;generalize (yC (n+mm) room&&(yC ((n+mm)*bb) room&&(yo cs.length (n*oe)&&yM 0 oe)))=b2 at hw
     cases b2 with
     | false=>cases hw
     | true=>simp only[yu,yc,ym] at hw;exact grow hw.2.1.symm
  case ay id o n=>
   split at hw
   .rename_i pu ex z cs Dy;generalize (yo z oe&&_)=b2 at hw
    cases b2 with
    | false=>cases hw
    | true=>
     simp only[yu,yc,ym] at hw;obtain⟨_,rfl,_⟩:=hw;clear Dy;have key:∀l,jN tm id l=ydo->(sz,ag,t)∈l->(∃j off,aj tm t=.ptr j off/\j≠id)\/∃cs,aj tm t=.bt cs:=by
      intro l
      induction l with
      | nil=>intro _ hm;cases hm
      | cons e l ih=>
       obtain⟨s,g,u⟩:=e;intro h hm;simp only[jN,ye] at h;rcases wB.1 hm with e | hm
       .simp only [ym] at e;obtain⟨rfl,rfl,rfl⟩:=e;have h1:=h.1
        split at h1
        .rename_i j off hj;refine .inl ⟨j,off,hj,fun e=>?_⟩;subst e;simp at h1
        .rename_i cs hj;exact .inr ⟨cs,hj⟩
        .cases h1
       .exact ih h.2 hm
     rcases key l h hm with ⟨j,off,e,eK⟩ | ⟨dF,e⟩
     .rw [e] at hv ⊢;simp only[gU] at hv ⊢;have ay0:ak hp j≠F6:=by
       intro e0;rw[e0] at hv;cases hv
      cases hj:ak hp j with
      | none=>exact absurd hj ay0
      | some ob=>
       have:=aM j ob hj
       rw[fF,yp (by omega),Sr eK,hj];rw[hj] at hv;exact hv
     .rw [e] at hv ⊢;simpa only[gU] using hv
   .cases hw
def Zd{D:Nat->Prop}{i c:Nat}{r:aS}{sz t:Nat}{ag:Bool}(hG:Al O H self ops π rs bO bD bA vF)(hr:rs[i]? =F5 r)(hi:¬D i)(HT:r.guard=F6/\r.op=.ld sz ag (.t t))(hc:c<=rs.length)(hW:∀j,j<c->ll rs j->D j)(fT:∀j,Ord ops (π i) (π j)->¬D j)(aM:∀j,j<=c->∀id o,ak (bD j) id=F5 o->id<bA j):∀k,i+1+k<=c->gU (bD (i+1+k)) sz ag (aj (bO i) t)=F5 (vF i)
 | 0,hk=>by
  have h1:=hG.run.step i r hr;simp only[fg,HT.1,rI,HT.2] at h1;obtain⟨h2,h3,h4⟩:=abA (.inr ⟨_,_,_,rfl⟩) h1;simp only[bh,ax] at h2;rw[yZ,h3];exact h2
 | k+1,hk=>by
  have ih:=Zd hG hr hi HT hc hW fT aM k (by omega);have hl:i+1+k<rs.length:=by omega
  have hj:rs[i+1+k]? =F5 rs[i+1+k]:=by simp[hl]
  have aR:=hG.run.step _ _ hj;rw[show i+1+(k+1)=i+1+k+1 by omega];rcases tg (ll rs (i+1+k)) with hw | hw
  .have hD:=hW _ (by omega) hw;rcases hG.pair i (i+1+k) r _ (by omega) hr hj with ho | hf
   .exact (fT _ ho hD).elim
   .obtain ⟨mD,jn⟩:=hf;obtain⟨dG,h5,h6⟩:=hw;rw[hj] at h5;injection h5 with h5
    subst h5;rcases jn with jn | jn
    .have h1k:bl r.op=1:=by rw[HT.2];rfl
     simp only[Jy,h1k,h6] at jn;cases jn
    .unfold JT at jn;simp only[HT.1,HT.2] at jn;generalize iA:(rs[i+1+k]).op=q at jn;have Vf:EO t (r::(rs.take (i+1+k)).drop (i+1))=ydo->aj (bO (i+1+k)) t=aj (bO i) t:=by
      intro ay1;have mC:=ZT ay1;rw[show i+1+k=i+(1+k) by omega];refine JB hG.run (1+k) (by omega) (fun l rl g1 g2 BZ=>mC rl ?_);rcases vJ g1 with rfl | g1
      .rw [hr] at BZ;injection BZ with BZ;subst BZ;exact vj
      .refine wJ _ ?_
       have:((rs.take (i+1+k)).drop (i+1))[l-(i+1)]? =F5 rl:=by
        rw[List.getElem?_drop,List.getElem?_take_of_lt (by omega),show i+1+(l-(i+1))=l by omega];exact BZ
       exact List.mem_of_getElem? this
     unfold fg at aR
     cases hg:rI (bO (i+1+k)) (rs[i+1+k]).guard with
     | none=>simp[hg] at aR
     | some b=>
      cases b with
      | false=>
       simp only[hg,yc,ym] at aR;rw[<-aR.2.1];exact ih
      | true=>
       simp only[hg,iA] at aR;cases q<;>simp only[yD] at jn
       case jQ Dz fx xs=>
        simp only[ye] at jn;have G5:=NR jn.1;have B0:=Vf jn.2;simp only[aX] at aR
        cases fe:eR O.prog O.aI self (bD (i+1+k)) (bA (i+1+k)) .dyn (ax (bO (i+1+k)) fx) (dK (bO (i+1+k)) xs) with
        | none=>simp[fe] at aR
        | some z=>
         obtain⟨v1,aY,qQ⟩:=z;simp only[fe] at aR
         cases hs:pU (bO (i+1+k)) (bD (i+1+k)) aY Dz with
         | false=>rw[hs] at aR;cases aR
         | true=>
          rw[hs] at aR;simp only[yu,yc,ym] at aR;obtain⟨_,h8,_⟩:=aR;rw[<-h8,<-B0];exact Sq hs G5 (by rw[B0];exact ih)
       case lM Dz oe x v=>
        simp only[ye] at jn;have G5:=NR jn.1;have B0:=Vf jn.2;simp only[aX] at aR
        split at aR
        .rename_i id off hx
         cases hs:jN (bO (i+1+k)) id Dz with
         | false=>rw[hs] at aR;cases aR
         | true=>
          rw[hs] at aR;simp only[yu] at aR;rw[<-B0];exact Zp hs G5 hx aR (by rw[B0];exact ih)
        .cases aR
       case lO Dz oe b x v=>
        simp only[ye] at jn;have G5:=NR jn.1;have B0:=Vf jn.2;simp only[aX] at aR
        cases fe:cx (bO (i+1+k)) (bD (i+1+k)) (bA (i+1+k)) (.cQ oe b x v) with
        | none=>simp[fe] at aR
        | some z=>
         obtain⟨v1,aY,qQ⟩:=z;simp only[fe] at aR
         cases hs:(Aq (bO (i+1+k)) (ax (bO (i+1+k)) x) Dz||pU (bO (i+1+k)) (bD (i+1+k)) aY Dz) with
         | false=>rw[hs] at aR;cases aR
         | true=>
          rw[hs] at aR;simp only[yu,yc,ym] at aR;obtain⟨_,h8,_⟩:=aR;rw[<-h8,<-B0];rcases (uN _ _).mp hs with hs | hs
          .exact aml hs G5 fe (aM _ (by omega)) (by rw[B0];exact ih)
          .exact Sq hs G5 (by rw[B0];exact ih)
  .exact Uj (aaH (JW hj hw) aR (aM _ (by omega))).le ih
structure Inv(O:bq)(ops:Array yV)(rs:List aS)(bO:Nat->Env)(bD:Nat->Hp)(bA:Nat->Nat)(D:Nat->Prop)(m0:Mp)(S0:Nat->Prop)(w0:yk)(n0:Nat)(d0:List yaK)(st c:Nat)(m:Mp)(S:Nat->Prop)(w:yk)(a:Act):Prop where
 XF:st<=c
 cn:c<=rs.length
 before:∀i,i<st->ll rs i->D i
 HU:∀i,st<=i->i<c->¬ll rs i
 cut:c=rs.length\/(ll rs c/\¬D c)
 behind:∀(i:Nat) (r:aS),c<=i->rs[i]? =F5 r->1<=bl r.op->¬D i
 hp:aT O m S w (bD c) (bA c)
 XG:∀id p,m id=F5 p->id<bA st\/∃i,st<=i/\i<c/\D i/\bA i<=id/\id<bA (i+1)
 tm:Rh O rs bO D m S w a
 Ri:cg m0 S0 w0 (bD 0) m S w (bD c) (bA 0)
 ge:bA 0<=bA c
 size:a.tmps.size=n0
 defers:a.defers=d0
 r9:st=0\/ll rs (st-1)
 HV:∀j,j<=c->∀id o,ak (bD j) id=F5 o->id<bA j
end
end
end
section
open Go
section
variable {O:bq}{H:Hint}{ops:Array yV}{π:Nat->Nat}{rs:List aS}{bO:Nat->Env}{bD:Nat->Hp}{bA:Nat->Nat}{vF:Nat->AV}{self:cu}{ro:Option Nat}{Q:uJ->Act->yk->Prop}
variable {D D':Nat->Prop}{m0:Mp}{S0:Nat->Prop}{w0:yk}{n0:Nat}{d0:List yaK}{st c i:Nat}{m:Mp}{S:Nat->Prop}{w:yk}{a:Act}{r:aS}{o:yV}
def NT(hG:Al O H self ops π rs bO bD bA vF)(hI:Inv O ops rs bO bD bA D m0 S0 w0 n0 d0 st c m S w a){x y:Nat}(hx:st<=x)(hxy:x<=y)(hy:y<=c):jv (bD x) (bA x) (bD y) (bA y):=by
 obtain⟨k,rfl⟩:∃k,y=x+k:=⟨y-x,by omega⟩
 have:=hI.cn
 exact NS hG.run (hI.HV x (by omega)) k (by omega) (fun j r h1 h2 hr=>JW hr (hI.HU j (by omega) (by omega)))
def Oc(hG:Al O H self ops π rs bO bD bA vF)(hI:Inv O ops rs bO bD bA D m0 S0 w0 n0 d0 st c m S w a)(hr:rs[i]? =F5 r)(hi:¬D i)(eN:∀j,Ord ops (π j) (π i)->D j)(fT:∀j,Ord ops (π i) (π j)->¬D j)(hD:∀j,D' j↔D j\/j=i)(hd:∀d,r.dst=F5 d->d<a.tmps.size)(hw:¬ll rs i)(BY:bl r.op=0\/i<c){m':Mp}{S':Nat->Prop}{w':yk}{u:yh}(k1:aT O m' S' w' (bD c) (bA c))(k2:di m m')(k3:∀id p,m' id=F5 p->m id=F5 p\/(st<=i/\i<c/\bA i<=id/\id<bA (i+1)))(k4:ae O.ab m' S' w' (vF i) u)(k5:cg m S w (bD c) m' S' w' (bD c) (bA c)):
  Inv O ops rs bO bD bA D' m0 S0 w0 n0 d0 st c m' S' w' (a.put r.dst u) where
 XF:=hI.XF
 cn:=hI.cn
 before j hj FC:=(hD j).2 (.inl (hI.before j hj FC))
 HU:=hI.HU
 cut:=hI.cut.imp (fun h=>h) (fun h=>⟨h.1,fun hc=>((hD c).1 hc).elim h.2 (fun e=>hw (e▸h.1))⟩)
 behind j rj hj FD hk FE:=((hD j).1 FE).elim (hI.behind j rj hj FD hk) (fun e=>by
  subst e;rw[hr] at FD;injection FD with FD
  subst FD
  rcases BY with h | h<;>omega)
 hp:=k1
 XG id p hp:=by
  rcases k3 id p hp with h | ⟨h1,h2,h3,h4⟩
  .rcases hI.XG id p h with h | ⟨j,g1,g2,g3,g4,g5⟩
   .exact .inl h
   .exact .inr ⟨j,g1,g2,(hD j).2 (.inl g3),g4,g5⟩
  .exact .inr ⟨i,h1,h2,(hD i).2 (.inr rfl),h3,h4⟩
 tm:=ac0 hG hI.tm hr hi eN fT hD k2 k5.sub (fun b hb=>k5.still b hb) hd k4
 Ri:=hI.Ri.trans (k5.As hI.ge)
 ge:=hI.ge
 size:=by rw[Oa];exact hI.size
 defers:=by rw[SP];exact hI.defers
 r9:=hI.r9
 HV:=hI.HV
def ac1(hG:Al O H self ops π rs bO bD bA vF)(hI:Inv O ops rs bO bD bA D m0 S0 w0 n0 d0 st c m S w a)(hr:rs[c]? =F5 r)(hi:¬D c)(eN:∀j,Ord ops (π j) (π c)->D j)(fT:∀j,Ord ops (π c) (π j)->¬D j)(hD:∀j,D' j↔D j\/j=c)(hd:∀d,r.dst=F5 d->d<a.tmps.size)(hw:ll rs c){m':Mp}{S':Nat->Prop}{w':yk}{u:yh}(k1:aT O m' S' w' (bD (c+1)) (bA (c+1)))(k2:bA c<=bA (c+1))(k4:ae O.ab m' S' w' (vF c) u)(k5:cg m S w (bD c) m' S' w' (bD (c+1)) (bA c)):
  ∃c' Dn,Inv O ops rs bO bD bA D' m0 S0 w0 n0 d0 (c+1) c' m' Dn w' (a.put r.dst u):=by
 have fe:c<rs.length:=(xN.1 hr).1;obtain⟨c',h1,h2,h3,h4⟩:=UM rs (rs.length-(c+1)) (c+1) (by omega);obtain⟨k,rfl⟩:∃k,c'=c+1+k:=⟨c'-(c+1),by omega⟩;have hg:∀k',k'<=k->jv (bD (c+1)) (bA (c+1)) (bD (c+1+k')) (bA (c+1+k')):=fun k' BV=>
  NS hG.run k1.aM k' (by omega) (fun j r g1 g2 hr=>JW hr (h3 j g1 (by omega)))
 obtain⟨Dn,g1,g2,g3,g4⟩:=N9 k1 (hg k (yx _));have hml:di m m':=fun id p h=>k5.old id p (hI.hp.lt id p h) h
 refine⟨c+1+k,Dn,⟨by omega,h2,?_,h3,?_,?_,g1,fun id p h=>.inl (k1.lt id p h),?_,?_,?_,by rw[Oa];exact hI.size,by rw[SP];exact hI.defers,.inr (by simpa using hw),?_⟩⟩
 .intro j hj FC;rcases vJ (ud hj) with e | hj
  .exact (hD j).2 (.inr e)
  .rcases vI j st with g | g
   .exact (hD j).2 (.inl (hI.before j g FC))
   .exact (hI.HU j g hj FC).elim
 .refine h4.imp (fun h=>h) (fun h=>⟨h,fun hc=>?_⟩);obtain⟨rc,XH,BY⟩:=h;rcases (hD _).1 hc with g | g
  .exact hI.behind _ rc (by omega) XH (by omega) g
  .omega
 .intro j rj hj FD hk FE;rcases (hD j).1 FE with g | g
  .exact hI.behind j rj (by omega) FD hk g
  .omega
 .exact ac0 hG hI.tm hr hi eN fT hD hml (fun b hb=>g2 b (k5.sub b hb)) (fun b hb=>k5.still b hb) hd (mN (fun _ _ h=>h) g2 (fun _ _=>rfl) _ _ k4)
 .exact (hI.Ri.trans (k5.As hI.ge)).trans (g4 (bA 0))
 .have:=(hg k (yx _)).r7
  have:=hI.ge
  omega
 .intro j hj;rcases vI c j with g | g
  .obtain ⟨k',rfl⟩:∃k',j=c+1+k':=⟨j-(c+1),by omega⟩;exact (hg k' (by omega)).lt
  .exact hI.HV j g
def aof{q:Op}(h:bl q≠2):jT q=q:=by
 cases q<;>first
  | rfl
  | exact absurd rfl h
def ZU{x y:aS}{l:List aS}(h:E3 x y l):¬(bl x.op=2/\1<=bl y.op)/\(1<=bl x.op->bl y.op=2->x.guard=F6/\∃sz ag t,x.op=.ld sz ag (.t t)):=by
 have⟨_,h⟩:=h;have ex:JT x y l=ydo->x.guard=F6/\∃sz ag t,x.op=.ld sz ag (.t t):=by
  intro he;unfold JT at he
  split at he
  .rename_i sz ag t Dz fx xs h1 h2 h3;exact⟨h1,sz,ag,t,h2⟩
  .rename_i h1 h2 h3;exact⟨h1,_,_,_,h2⟩
  .rename_i h1 h2 h3;exact⟨h1,_,_,_,h2⟩
  .cases he
 have k2:∀q:Op,bl q<=2:=fun q=>by
  cases q with
  | rV k x lo hi=>cases k<;>simp[bl]
  | len k x=>rcases k with _ | _ | k<;>simp[bl]
  | call md f xs=>cases md<;>simp[bl]
  | _=>simp[bl]
 constructor
 .rintro ⟨h1,h2⟩;rcases h with h | h
  .have:bl y.op=1\/bl y.op=2:=by have:=k2 y.op;lia
   rcases this with e | e<;>(simp only[Jy,h1,e] at h;cases h)
  .have ⟨_,sz,ag,t,e⟩:=ex h;rw[e] at h1;cases h1
 .intro h1 h2;rcases h with h | h
  .have:bl x.op=1\/bl x.op=2:=by have:=k2 x.op;lia
   rcases this with e | e<;>(simp only[Jy,h2,e] at h;cases h)
  .exact ex h
def aog(hC:pW O self)(hH:fh O H)(hG:Al O H self ops π rs bO bD bA vF)(hn:H.n<=n0)(hI:Inv O ops rs bO bD bA D m0 S0 w0 n0 d0 st c m S w a)(hr:rs[i]? =F5 r)(ho:ops[π i]? =F5 o)(hi:¬D i)(eN:∀j,Ord ops (π j) (π i)->D j)(fT:∀j,Ord ops (π i) (π j)->¬D j)(hD:∀j,D' j↔D j\/j=i){K:Act->yk->Prop}(hK:∀st' c' m' S' w' a',Inv O ops rs bO bD bA D' m0 S0 w0 n0 d0 st' c' m' S' w' a'->K a' w'):wpOpIn (WF ro) 0 O.P ops Q (π i) K a w:=by
 have cU:=hG.of i r o hr ho;have VY:=aqm hG hI.tm hr hi eN fT;have aR:=hG.run.step i r hr;have hd:∀d,r.dst=F5 d->d<a.tmps.size:=by
  rw[cU.dst];exact abz cU.ok (by rw[hI.size];exact hn)
 have lm:=hI.XF;have j9:1<=bl r.op->i<=c:=by
  intro hk;rcases vI c i with se | se
  .have zA:i<rs.length:=(xN.1 hr).1;rcases hI.cut with h | ⟨⟨rc,XH,BY⟩,Mm⟩
   .omega
   .rcases hG.pair c i rc r se XH hr with h | h
    .exact (Mm (eN c h)).elim
    .exact ((ZU h).1 ⟨BY,hk⟩).elim
  .exact se
 have My:ll rs i->i=c:=by
  intro hw;obtain⟨dG,h1,h2⟩:=hw;rw[hr] at h1;injection h1 with h1
  subst h1;have h3:=j9 (by omega);rcases vJ h3 with e | h3
  .exact e
  .rcases vI i st with g | g
   .exact (hi (hI.before i g ⟨r,hr,h2⟩)).elim
   .exact (hI.HU i g h3 ⟨r,hr,h2⟩).elim
 have aM:1<=bl r.op->¬ll rs i->i<c:=by
  intro hk hw;rcases vJ (j9 hk) with e | h
  .subst e;rcases hI.cut with h | h
   .have zA:i<rs.length:=(xN.1 hr).1;omega
   .exact (hw h.1).elim
  .exact h
 have BY:¬ll rs i->bl r.op=0\/i<c:=fun hw=>by
  rcases xx (bl r.op) with h | h
  .exact .inl h
  .exact .inr (aM h hw)
 unfold wpOpIn;simp only[ho];unfold fg at aR
 cases Rj:rI (bO i) r.guard with
 | none=>simp[Rj] at aR
 | some b=>
  have XC:=aaE cU.guard (fun t ht=>VY t (by simp[Et,ht])) Rj;rw[XC]
  cases b with
  | false=>
   simp only[Rj,yc,ym] at aR;obtain⟨hv,hh,hc⟩:=aR;simp only[yD,xz];refine⟨fun _ _=>trivial,?_⟩;have dT:∀m S w,ae O.ab m S w (vF i) undef:=fun m S w=>by rw[<-hv];simp[ae,aB,undef]
   rw[<-cU.dst];rcases tg (ll rs i) with hw | hw
   .have e:=My hw;subst e;obtain⟨c',Dn,h⟩:=ac1 hG hI hr hi eN fT hD hd hw (m':=m) (S':=S) (w':=w) (u:=undef) (by rw[<-hh,<-hc];exact hI.hp) (by omega) (dT _ _ _) (by rw[<-hh];exact cg.refl)
    exact hK _ _ _ _ _ _ h
   .exact hK _ _ _ _ _ _ (Oc hG hI hr hi eN fT hD hd hw (BY hw) (m':=m) (S':=S) (w':=w) (u:=undef) hI.hp di.refl (fun _ _ h=>.inl h) (dT _ _ _) cg.refl)
  | true=>
   simp only[Rj] at aR;simp only[xJ];have mC:=Zo cU.op aR;have Mz:bT O m S w (cd (bO i) (kW r.op)) a.tmps:=fun t=>by
    rcases tg (t∈kW r.op) with h | h
    .rw [Ob h];exact VY t (by simp[Et,h])
    .have:aj (cd (bO i) (kW r.op)) t=.undef:=by
      clear VY aR;revert h;generalize kW r.op=l;intro h
      induction l with
      | nil=>rfl
      | cons x l ih=>
       simp only[cd,aj];have hx:yo x t=ydp:=by
        cases hq:yo x t with
        | false=>rfl
        | true=>exact absurd (by rw[yf hq];exact vj) h
       rw[hx];exact ih (fun h'=>h (wJ _ h'))
     rw[this];simp only[ae]
   have DA:aX O.prog O.aI self (cd (bO i) (kW r.op)) (bD i) (bA i) (jT r.op)=F5 (vF i,bD (i+1),bA (i+1)):=
    amk (fun t ht=>Ob ht) aR
   have adX:¬ll rs i->jT r.op=r.op:=fun hw=>aof (fun h=>hw ⟨r,hr,h⟩)
   have now:¬ll rs i->bh (cd (bO i) (kW r.op)) (bD c) r.op=F5 (vF i)->Oper.wpIn (WF ro) 0 O.P o a w K Q:=by
    intro hw gC;by_cases Dx:∃n sz z ps,r.op=.ni n sz z ps
    .obtain ⟨n,sz,z,ps,Dx⟩:=Dx;have Dr:bl r.op=0:=by rw[Dx];rfl
     have ay2:aX O.prog O.aI self (cd (bO i) (kW r.op)) (bD c) (bA c) r.op=F5 (vF i,bD c,bA c):=by
      rw[Dx] at gC ⊢;simp only[aX,gC]
     refine quiet_step (Hq:=bD c) (cH:=bA c) hC hH (by omega) cU.op mC ay2 cR.refl (yx _) hI.hp.aM (fun id h1 h2=>by omega) Mz hI.hp (fun u m' S' w' k1 k2 k3 k4 k5=>?_);rw[<-cU.dst];exact hK _ _ _ _ _ _ (Oc hG hI hr hi eN fT hD hd hw (.inl Dr) k1 k2 (fun id p h=>.inl ((k3 id p h).resolve_right (by omega))) k4 k5)
    have iA:∃k,r.op=aQ O.P H k o:=by
     rcases cU.op with h | ⟨cc,f,rr,_,_,h⟩ | ⟨_,_,_,_,_,_,_,h⟩ | ⟨_,_,_,_,_,_,_,h⟩ | ⟨_,_,_,_,_,_,h⟩ | ⟨_,_,_,_,_,_,h⟩
     .exact h
     .rw [h] at gC;simp[bh] at gC
     .rw [h] at gC;simp[bh] at gC
     .rw [h] at gC;simp[bh] at gC
     .rw [h] at gC;simp[bh] at gC
     .exact (Dx ⟨_,_,_,_,h⟩).elim
    obtain⟨k,hk⟩:=iA;rw[hk] at gC;rw[hk] at Mz;obtain⟨u,h1,h2⟩:=acM hH Mz hI.hp gC;refine Gx mC h1 (.inl rfl) ?_;rw[<-cU.dst];exact hK _ _ _ _ _ _ (Oc hG hI hr hi eN fT hD hd hw (BY hw) hI.hp di.refl (fun _ _ h=>.inl h) h2 cg.refl)
   rcases tg (ll rs i) with hw | hw
   .have e:=My hw;subst e;refine aby hC hH (aln cU.op) mC DA Mz hI.hp (fun u m' S' w' k1 k2 k3 k4=>?_);rw[<-cU.dst];obtain⟨c',Dn,h⟩:=ac1 hG hI hr hi eN fT hD hd hw k1 k2 k3 k4;exact hK _ _ _ _ _ _ h
   .rcases xx (bl r.op) with hk | hk
    .have DA:=adX hw▸DA;obtain⟨h1,_,_⟩:=abA (.inl hk) DA;exact now hw (by rw[amb hk (bD c) (bD i)];exact h1)
    .have HO:=aM hk hw;rcases vI i st with VZ | VZ
     .
      rcases hI.r9 with h0 | h0
      .omega
      .have aY:D (st-1):=hI.before _ (by omega) h0;have eK:i≠st-1:=fun e=>hi (e▸aY)
       obtain⟨rp,hrp,og⟩:=h0;rcases hG.pair i (st-1) r rp (by omega) hr hrp with h | h
       .exact (fT _ h aY).elim
       .obtain ⟨hg,sz,ag,t,iA⟩:=(ZU h).2 hk og;have hl:=Zd (c:=c) hG hr hi ⟨hg,iA⟩ hI.cn (fun j hj FC=>by
         rcases vI j st with g | g
         .exact hI.before j g FC
         .exact (hI.HU j g hj FC).elim) fT hI.HV (c-(i+1)) (by omega)
        rw[show i+1+(c-(i+1))=c by omega] at hl;refine now hw ?_;rw[iA];simp only[bh,ax];rw[Ob (by simp[kW,jS])];exact hl
     .have jl:=NT hG hI (x:=i+1) (y:=c) (by omega) HO (yx _);have FF:=NT hG hI (x:=st) (y:=i) (yx _) VZ (by omega)
      refine quiet_step (Hq:=bD c) (cH:=bA c) hC hH (JW hr hw) cU.op mC (adX hw▸DA) jl.le jl.r7 (hI.HV i (by omega)) ?_ Mz hI.hp (fun u m' S' w' k1 k2 k3 k4 k5=>?_)
      .intro id h1 h2
       cases hm:m id with
       | none=>rfl
       | some p=>
        rcases hI.XG id p hm with h | ⟨j,q1,q2,q3,q4,q5⟩
        .have:=FF.r7;omega
        .rcases Nat.lt_trichotomy j i with g | g | g
         .have:=(NT hG hI (x:=j+1) (y:=i) (by omega) g (by omega)).r7;omega
         .subst g;exact (hi q3).elim
         .have:=(NT hG hI (x:=i+1) (y:=j) (by omega) g (by omega)).r7;omega
      .rw [<-cU.dst];exact hK _ _ _ _ _ _ (Oc hG hI hr hi eN fT hD hd hw (.inr HO) k1 k2 (fun id p h=>(k3 id p h).imp (fun h=>h) (fun h=>⟨VZ,HO,h.1,h.2⟩)) k4 k5)
def left(n:Nat)(listed:Array Bool):Nat:=(List.range n).countP fun i=> !listed.getD i ydp
def aoh{n:Nat}{listed:Array Bool}{i:Nat}(hi:i<n)(hs:listed.size=n)(hl:listed.getD i ydo=ydp):left n (listed.setIfInBounds i ydo)+1=left n listed:=by
 have key:∀(l:List Nat),l.Nodup->(i∈l->(l.countP fun j=> !(listed.setIfInBounds i ydo).getD j ydp)+1=l.countP fun j=> !listed.getD j ydp)/\(i∉l->(l.countP fun j=> !(listed.setIfInBounds i ydo).getD j ydp)=l.countP fun j=> !listed.getD j ydp):=by
  intro l
  induction l with
  | nil=>intro _;exact⟨fun h=>(by cases h),fun _=>rfl⟩
  | cons x l ih=>
   intro mC;have hx:x≠i->(listed.setIfInBounds i ydo).getD x ydp=listed.getD x ydp:=fun h=>getD_set_ne ydp (ycW h)
   refine⟨fun hm=>?_,fun hm=>?_⟩
   .rw [ybP,ybP];by_cases e:x=i
    .simp_all
    .grind
   .grind
 exact (key _ List.nodup_range).1 (yat.2 hi)
def amm{n:Nat}{listed:Array Bool}(h:left n listed=0):∀i,i<n->listed.getD i ydp=ydo:=by
 unfold left at h
 simp_all
def amn{listed:Array Bool}(hs:listed.size=ops.size)(hb:∀(i:Nat) (o:yV),ops[i]? =F5 o->∀e,e∈o.after->Region.binds .any e=ydo->e.on<i)(h:Region.ready .any ops listed=[]):∀i,i<ops.size->listed.getD i ydp=ydo:=by
 intro i
 induction i using vT with
 | _ i ih=>
  intro hi
  cases hq:listed.getD i ydp with
  | true=>rfl
  | false=>
   have:i∈Region.ready .any ops listed:=by
    refine mem_ready.2 ⟨?_,ops[i],by simp[hi],fun e he zx=>?_⟩
    .have aM:i<listed.size:=by lia
     simp only[wj,aM,uV,xW] at hq ⊢;exact hq
    .have:=hb i ops[i] (by simp[hi]) e he zx
     exact ih e.on this (by lia)
   rw[h] at this;cases this
def aqn(hG:Al O H self ops π rs bO bD bA vF)(hI:Inv O ops rs bO bD bA D m0 S0 w0 n0 d0 st c m S w a)(kP:∀i,i<rs.length->D i):
  aT O m S w (bD rs.length) (bA rs.length)/\bT O m S w (bO rs.length) a.tmps/\cg m0 S0 w0 (bD 0) m S w (bD rs.length) (bA 0)/\bA 0<=bA rs.length:=by
 have hc:c=rs.length:=by
  rcases hI.cut with h | ⟨⟨r,h1,_⟩,h2⟩
  .exact h
  .exact (h2 (kP c (xN.1 h1).1)).elim
 subst hc;refine⟨hI.hp,fun t=>?_,hI.Ri,hI.ge⟩;obtain⟨j,h1,h2,h3⟩:=hI.tm t;obtain⟨k,hk⟩:∃k,rs.length=j+k:=⟨rs.length-j,by omega⟩
 have:=JB (t:=t) (i:=j) hG.run k (by omega) (fun l r g1 g2 hl hd=>by
  have:=(h2 l r hl hd).1 (kP l (xN.1 hl).1)
  omega)
 rw[<-hk] at this;rw[this];exact h3
structure Kg(n:Nat)(π:Nat->Nat):Prop where
 inj:∀i j,π i=π j->i=j
 sur:∀x,x<n->∃i,i<n/\π i=x
 lt:∀i,i<n->π i<n
def atb(hC:pW O self)(hH:fh O H)(hG:Al O H self ops π rs bO bD bA vF)(hπ:Kg ops.size π)(hn:H.n<=n0)(hQ:∀a' m' S' w',aT O m' S' w' (bD rs.length) (bA rs.length)->bA 0<=bA rs.length->bT O m' S' w' (bO rs.length) a'.tmps->cg m0 S0 w0 (bD 0) m' S' w' (bD rs.length) (bA 0)->a'.tmps.size=n0->a'.defers=d0->Q .normal a' w'):
  ∀(bm:Nat) (listed:Array Bool) (st c:Nat) (m:Mp) (S:Nat->Prop) (w:yk) (a:Act),listed.size=ops.size->left ops.size listed=bm->UL ops (fun i=>listed.getD i ydp=ydo)->
   Inv O ops rs bO bD bA (fun i=>listed.getD (π i) ydp=ydo) m0 S0 w0 n0 d0 st c m S w a->wpAnyIn (WF ro) 0 O.P .any ops Q bm listed a w:=by
 have fin:∀(listed:Array Bool) (st c:Nat) (m:Mp) (S:Nat->Prop) (w:yk) (a:Act),Inv O ops rs bO bD bA (fun i=>listed.getD (π i) ydp=ydo) m0 S0 w0 n0 d0 st c m S w a->(∀i,i<ops.size->listed.getD i ydp=ydo)->Q .normal a w:=by
  intro listed st c m S w a hI kP;obtain⟨h1,h2,h3,h4⟩:=aqn hG hI (fun i hi=>kP _ (hπ.lt i (by rw[<-hG.len];exact hi)))
  exact hQ a m S w h1 h4 h2 h3 hI.size hI.defers
 intro bm
 induction bm with
 | zero=>
  intro listed st c m S w a hs hl hc hI;have kP:=amm hl;refine⟨?_,fin listed st c m S w a hI kP⟩;rw[List.eq_nil_iff_forall_not_mem];intro i hm;obtain⟨h1,o,ho,_⟩:=mem_ready.1 hm;have hi:=(xE.1 ho).1
  have:=kP i hi
  have aM:i<listed.size:=by omega
  simp only[wj,aM,uV,xW] at h1 this;rw[this] at h1;cases h1
 | succ bm ih=>
  intro listed st c m S w a hs hl hc hI;refine⟨fun h=>fin listed st c m S w a hI (amn hs hG.back h),fun x hm=>?_⟩;obtain⟨h1,o,ho,h2⟩:=mem_ready.1 hm;have hx:x<ops.size:=(xE.1 ho).1;obtain⟨i,hi,rfl⟩:=hπ.sur x hx;have hr:rs[i]? =F5 (rs[i]'(by rw[hG.len];exact hi)):=by simp[hG.len,hi]
  have aM:π i<listed.size:=by omega
  have hni:¬listed.getD (π i) ydp=ydo:=by
   simp only[wj,aM,uV,xW] at h1 ⊢;rw[h1];simp
  have XI:∀y,(listed.setIfInBounds (π i) ydo).getD y ydp=ydo↔listed.getD y ydp=ydo\/y=π i:=by
   intro y;by_cases e:y=π i
   .subst e;simp[aM]
   .rw [getD_set_ne ydp (ycW e)];simp[e]
  have hD:∀j,(listed.setIfInBounds (π i) ydo).getD (π j) ydp=ydo↔listed.getD (π j) ydp=ydo\/j=i:=by
   intro j;rw[XI];exact or_congr Iff.rfl ⟨fun e=>hπ.inj _ _ e,fun e=>by rw[e]⟩
  refine aog (D:=fun i=>listed.getD (π i) ydp=ydo) hC hH hG hn hI hr ho hni (fun j hj=>aaG hc (π i) o ho h2 (π j) hj) (fun j hj FE=>?_) hD (fun st' c' m' S' w' a' XJ=>ih (listed.setIfInBounds (π i) ydo) st' c' m' S' w' a' (by simp[hs]) ?_ ?_ XJ)
  .have hjl:π j<ops.size:=by
    rcases vI (π j) ops.size with h | h
    .exact h
    .rw [wj,ybc (by omega)] at FE;simp at FE
   exact hni (aoe hc (show ops[π j]? =F5 ops[π j] by simp[hjl]) FE hj)
  .have:=aoh hx hs h1
   omega
  .intro j oj MA hj e he hb;rw[XI];rcases (XI j).1 hj with g | g
   .exact .inl (hc j oj MA g e he hb)
   .subst g;rw[ho] at MA;injection MA with MA
    subst MA;exact .inl (h2 e he hb)
end
end
section
open Go
section
variable {pm:List Nat}{n:Nat}{P:xy}{s s':St}
def alp{F:Fence}{Q:uJ->Act->yk->Prop}{a:Act}{w:yk}{c:vA}(h:c.wpIn F n P Q a w)(hg:∀l a w,¬Q (.goto l) a w):(Code.scope c).wpIn F n P Q a w:=by
 intro b k cs cU hb hr;have h0:(lone (b.atR a (.code (.scope c)::k)) cs w).fenced P F:=fenced_calm hb hr rfl;have s0:step P (lone (b.atR a (.code (.scope c)::k)) cs w)=.next (lone (b.atR a (.code c:: .inScope c::k)) cs w):=step_lone_go (by simp[stepG,stepG.exec,Frame.atR]);have⟨e,a₁,w₁,hq,E1⟩:=h b (.inScope c::k) cs cU hb hr;have hx:∀id,exitTo id (.inScope c::k)=exitTo id k:=fun id=>by simp[exitTo]
 cases e with
 | normal=>
  have s1:step P (lone (b.atR a₁ (.inScope c::k)) cs w₁)=.next (lone (b.atR a₁ k) cs w₁):=step_lone_go (by simp[stepG,stepG.exec,Frame.atR]);exact⟨.normal,a₁,w₁,hq,.head h0 s0 (StepsIn.trans E1 (.one (fenced_calm hb hr rfl) s1))⟩
 | exit id=>
  exact⟨.exit id,a₁,w₁,hq,fun k' hk=>.head h0 s0 (E1.1 k' (by rw[hx];exact hk)),fun bB hk=>let ⟨k₁,h1,h2⟩:=E1.2 bB (by rw[hx];exact hk);⟨k₁,h1,.head h0 s0 h2⟩⟩
 | goto l=>exact (hg _ _ _ hq).elim
 | ret=>exact⟨_,a₁,w₁,hq,.of_steps (.one h0 s0) E1⟩
 | panic ch=>exact⟨_,a₁,w₁,hq,.of_steps (.one h0 s0) E1⟩
 | outgrown=>exact⟨_,a₁,w₁,hq,.of_steps (.one h0 s0) E1⟩
def zc:Ex->uJ
 | .normal=>.normal
 | .ret=>.ret
 | .exit id=>.exit id
def Marks(lo:Nat)(S:Nat->Prop)(w:yk)(ds:List yaK):Prop:=∃rs:List Nat,ds=rs.map (fun r=>{target:=.collected r,args:=#[]})/\rs.Nodup/\
 ∀r,r∈rs->w.heap[r]? =F5 (.deferred (F5 []))/\¬S r/\lo<=r
def Bn(ro:Option Nat)(w:yk):Prop:=∀l,ro=F5 l->∃r:td,w.heap[l]? =F5 (.loop r)
section
variable {O:bq}{m:Mp}{S:Nat->Prop}{w:yk}{hp:Hp}{ct:Nat}
def abB(hh:aT O m S w hp ct){b:Nat}(h:er m hp b):∀x,w.heap[b]?≠F5 (.deferred x):=by
 intro x hx;obtain⟨id,o,p,h1,h2,rfl⟩:=h;have h3:=hh.obj id o p h1 h2
 cases o with
 | cells rw pu ex sz cs=>have⟨q,arr,t,g1,g2,_⟩:=h3;rw[h2] at g1;injection g1 with g1;subst g1;rw[hx] at g2;cases g2
 | mp rw ks vs=>have⟨q,es,clock,g1,g2,_⟩:=h3;rw[h2] at g1;injection g1 with g1;subst g1;rw[hx] at g2;cases g2
 | si s pos=>have⟨q,t,g1,g2,_⟩:=h3;rw[h2] at g1;injection g1 with g1;subst g1;rw[hx] at g2;cases g2
 | lp tm ps as_ body st pe=>have⟨q,l,hi,g1,g2,_⟩:=h3;rw[h2] at g1;injection g1 with g1;subst g1;rw[hx] at g2;cases g2
def Cp(hh:aT O m S w hp ct){m':Mp}{S':Nat->Prop}{w':yk}{an:Hp}{base lo:Nat}(hf:cg m S w hp m' S' w' an base){ds:List yaK}(h:Marks lo S w ds):Marks lo S' w' ds:=by
 have⟨rs,h1,h2,h3⟩:=h;refine⟨rs,h1,h2,fun r hr=>?_⟩;have⟨this,h4,h5⟩:=h3 r hr;have aM:=(xE.1 this).1;have qP:¬er m hp r:=fun ho=>abB hh ho _ this
 refine⟨(hf.same r aM qP).trans this,fun hs=>?_,h5⟩;rcases hf.new r hs with h | h | h
 .grind
 .grind
 .lia
def NU{m':Mp}{S':Nat->Prop}{w':yk}{an:Hp}{base:Nat}{ro:Option Nat}(hf:cg m S w hp m' S' w' an base)(h:Bn ro w):Bn ro w':=fun l hl=>
 let ⟨r,hr⟩:=h l hl
 hf.loops l r hr
def eU(O:bq)(m:Mp)(S:Nat->Prop)(w:yk)(s:St)(ex:Ex)(s':St)(n lo:Nat)(e:uJ)(a':Act)(w':yk):Prop:=
 e=zc ex/\∃m' S',bT O m' S' w' s'.tm a'.tmps/\aT O m' S' w' s'.hp s'.ct/\s'.base=s.base/\s.base<=s'.ct/\cg m S w s.hp m' S' w' s'.hp s.base/\a'.tmps.size=n/\Marks lo S' w' a'.defers
def CV(O:bq)(h:Nat)(c:vA)(s:St)(ex:Ex)(s':St):Prop:=
 ∀(ro:Option Nat) (lo:Nat) (m:Mp) (S:Nat->Prop) (w:yk) (a:Act),Bn ro w->bT O m S w s.tm a.tmps->aT O m S w s.hp s.ct->s.base<=s.ct->(O.hint h).n<=a.tmps.size->O.w0.heap.size<=lo->lo<=w.heap.size->Marks lo S w a.defers->
  c.wpIn (WF ro) 0 O.P (eU O m S w s ex s' a.tmps.size lo) a w
structure iK(O:bq):Prop where
 hint:∀h,fh O (O.hint h)
 mixed:O.P.follows .mixedOrders=ydo
 prog:∀n F,O.prog n=F5 F->∃fn,O.P.funcs[O.ab n]? =F5 fn/\Gu O.P (O.hint n) fn=F5 F/\fn.name≠ "runtime.NumGoroutine"
 aI:∀n sp aq r,O.aI.pure n=F5 sp->sp aq=F5 r->eD O n aq r
 G6:∀n sp hp ct aq v an aH,O.aI.heap n=F5 sp->sp hp ct aq=F5 (v,an,aH)->CU O n hp ct aq v an aH
def Gg{P:xy}{H:Hint}{ops:Array yV}:∀(rs:List aS) (l:List yV) (done:List aS) (ms:List Nat),eM P H ops rs l->eM P H ops (lJ done rs ms) l
 | [],l,done,ms,h=>by
  cases ms<;>simpa only[lJ] using h
 | r::rs,[],done,ms,h=>by simp[eM] at h
 | r::rs,o::l,done,[],h=>by
  have⟨d,g,op⟩:=r;cases op<;>simpa only[lJ] using h
 | r::rs,o::l,done,m::ms,h=>by
  simp only[eM] at h;have⟨h1,h2⟩:=h;have⟨d,g,op⟩:=r
  cases op with
  | jQ Dz f xs=>
   simp only[lJ,eM];refine⟨?_,Gg rs l _ ms h2⟩;rcases h1 with h1 | ⟨_,h1⟩
   .refine .inl ⟨?_,h1.dst,h1.ok,h1.guard⟩;have⟨c,f',g1,g2,g3,g4⟩:=TH h1.op;rw[g3,g4];exact .inr (.inl ⟨c,f',_,g1,g2,rfl⟩)
   .simp [bad] at h1
  | st sz x y=>
   simp only[lJ,eM];refine⟨?_,Gg rs l _ ms h2⟩;rcases h1 with h1 | ⟨_,h1⟩
   .refine .inl ⟨?_,h1.dst,h1.ok,h1.guard⟩;unfold stOp
    split
    .exact h1.op
    .have ⟨t,x',y',g1,g2,g3,g4⟩:=aw0 h1.op;exact .inr (.inr (.inl ⟨t,x',y',sz,_,g1,g2,by rw[g3,g4]⟩))
   .simp [bad] at h1
  | cQ sz b x y=>
   simp only[lJ,eM];refine⟨?_,Gg rs l _ ms h2⟩;rcases h1 with h1 | ⟨_,h1⟩
   .refine .inl ⟨?_,h1.dst,h1.ok,h1.guard⟩;unfold age
    split
    .exact h1.op
    .have ⟨k,hk⟩:=adW h1.op;exact .inr (.inr (.inr (.inl ⟨k,_,sz,b,x,y,hk,rfl⟩)))
   .simp [bad] at h1
  | _=>
   simp only[lJ,eM];exact⟨h1,Gg rs l _ ms h2⟩
def abC{P:xy}{H:Hint}{ops:Array yV}:∀(rs:List aS) (l:List yV) (done:List aS),eM P H ops rs l->eM P H ops (GY done rs) l
 | [],[],_,h=>h
 | [],_::_,_,h=>by simp[eM] at h
 | r::rs,[],done,h=>by simp[eM] at h
 | r::rs,o::l,done,h=>by
  simp only[eM] at h;obtain⟨h1,h2⟩:=h;simp only[GY,eM];refine⟨?_,abC rs l _ h2⟩;obtain⟨d,g,op⟩:=r
  cases op with
  | cQ sz b x y=>
   simp only
   cases adS done x with
   | false=>exact h1
   | true=>
    simp only[yu];rcases h1 with h1 | ⟨_,h1⟩
    .refine .inl ⟨?_,h1.dst,h1.ok,h1.guard⟩;obtain⟨k,hk⟩:=adW h1.op;exact .inr (.inr (.inr (.inr (.inl ⟨k,sz,b,x,y,hk,rfl⟩))))
    .simp [bad] at h1
  | _=>exact h1
end
section
variable {O:bq}{self:cu}
def Od{P:xy}{H:Hint}{ops:Array yV}:∀{rs:List aS} {l:List yV},eM P H ops rs l->rs.length=l.length/\∀(i:Nat) (r:aS) (o:yV),rs[i]? =F5 r->l[i]? =F5 o->EW P H ops r o\/(r.guard=F6/\r.op=bad)
 | [],[],_=>⟨rfl,fun i r o h=>by simp at h⟩
 | [],_::_,h=>by simp[eM] at h
 | _::_,[],h=>by simp[eM] at h
 | r::rs,o::l,h=>by
  have⟨h1,h2⟩:=Od h.2;refine⟨by simp[h1],fun i r' o' hr ho=>?_⟩
  cases i with
  | zero=>simp at hr ho;subst hr;subst ho;exact h.1
  | succ i=>exact h2 i r' o' (by simpa using hr) (by simpa using ho)
def aqo{H:Hint}{o:yV}{sz:Nat}{z:List AV}{ps:List (Nat×Nat×X)}(hq:oU P H (.iv n sz z ps) o):∃k,Op.iv n sz z ps=aQ P H k o:=by
 rcases hq with h | ⟨_,_,_,_,_,h3⟩ | ⟨_,_,_,_,_,_,_,h3⟩ | ⟨_,_,_,_,_,_,_,h3⟩ | ⟨_,_,_,_,_,_,h3⟩ | ⟨_,_,_,_,_,_,h3⟩
 .exact h
 .cases h3
 .cases h3
 .cases h3
 .cases h3
 .cases h3
def abD{P:xy}{H:Hint}{ops:Array yV}{all:List aS}:∀(rs:List aS) (l:List yV),eM P H ops rs l->eM P H ops (EP all rs) l
 | [],[],h=>h
 | [],_::_,h=>by simp[eM] at h
 | r::rs,[],h=>by simp[eM] at h
 | r::rs,o::l,h=>by
  simp only[eM] at h;obtain⟨h1,h2⟩:=h;simp only[EP,eM];refine⟨?_,abD rs l h2⟩;obtain⟨d,g,op⟩:=r
  cases op with
  | iv n sz z ps=>
   simp only
   cases OQ d all with
   | false=>exact h1
   | true=>
    simp only[yu];rcases h1 with h1 | ⟨_,h1⟩
    .refine .inl ⟨?_,h1.dst,h1.ok,h1.guard⟩;obtain⟨k,hk⟩:=aqo h1.op;exact .inr (.inr (.inr (.inr (.inr ⟨k,n,sz,z,ps,hk,rfl⟩))))
    .simp [bad] at h1
  | _=>exact h1
def CW(l:List yV):List Nat->List yV
 | []=>[]
 | x::r=>match l[x]? with | some o=>o::CW l r | none=>CW l r
def Uo{P:xy}{H:Hint}{ops:Array yV}{rs:List aS}{l:List yV}(h:eM P H ops rs l):∀(pm:List Nat),eM P H ops (CS rs pm) (CW l pm)
 | []=>trivial
 | x::r=>by
  obtain⟨h1,h2⟩:=Od h;simp only[CS,CW]
  cases hr:rs[x]? with
  | none=>
   have:l[x]? =F6:=by rw[List.getElem?_eq_none_iff] at hr ⊢;omega
   rw[this];exact Uo h r
  | some q=>
   have aM:=(xN.1 hr).1;have hl:l[x]? =F5 (l[x]'(by omega)):=by rw[xb]
   rw[hl];exact⟨h2 x q _ hr hl,Uo h r⟩
def aaI{l:List yV}:∀(pm:List Nat),(∀x,x∈pm->x<l.length)->(CW l pm).length=pm.length/\∀(i:Nat),(CW l pm)[i]? =(pm[i]?).bind (l[·]?)
 | [],_=>⟨rfl,fun i=>by simp[CW]⟩
 | x::r,h=>by
  have hx:=h x vj;obtain⟨h1,h2⟩:=aaI r (fun y hy=>h y (wJ _ hy));have hl:l[x]? =F5 l[x]:=by rw[xb]
  simp only[CW,hl];refine⟨by simp[h1],fun i=>?_⟩
  cases i with
  | zero=>simp[hl]
  | succ i=>simpa using h2 i
def Zq{m:Nat}:∀(pm:List Nat) (k i:Nat),vH (Gs m pm k) i=ydo->k<=i/\∃x,pm[i-k]? =F5 x/\vH m x=ydo
 | [],k,i,h=>by simp[Gs] at h
 | x::r,k,i,h=>by
  simp only[Gs,yce,uN] at h;rcases h with h | h
  .cases hx:vH m x with
   | false=>simp[hx] at h
   | true=>
    simp only[hx,yu,Nat.testBit_two_pow,vZ] at h;subst h;exact⟨yx _,x,by simp,hx⟩
  .obtain ⟨h1,y,h2,h3⟩:=Zq r (k+1) i h;refine⟨by omega,y,?_,h3⟩;rw[show i-k=(i-(k+1))+1 by omega,ybd];exact h2
def Zr{ms pm all:List Nat}:∀(l:List Nat) (j:Nat),(Cw ms pm all l)[j]? =(l[j]?).map fun x=>Gs (ms.getD x 0) pm 0
 | [],j=>by simp[Cw]
 | x::r,0=>by simp[Cw]
 | x::r,j+1=>by simpa[Cw] using Zr r j
def akJ(h:Kc n pm (Aj pm n)=ydo):pm.length=n/\(∀x,x∈pm->x<n)/\Kg n (fun i=>pm.getD i i):=by
 simp only[Kc,ye] at h;obtain⟨h1,h2⟩:=h;have hl:=yf h1;have zA:(Aj pm n).length=n:=by simp[Aj]
 have h3:∀i,i<n->pm.getD i i<n/\(Aj pm n).getD i i<n/\(Aj pm n).getD (pm.getD i i) i=i/\pm.getD ((Aj pm n).getD i i) i=i:=fun i hi=>by
  have:=ybO.1 h2 i (yat.2 hi)
  simp only[ye] at this;obtain⟨a,b,c,d⟩:=this;exact⟨rz.1 a,rz.1 b,yf c,yf d⟩
 have out:∀i,n<=i->pm.getD i i=i:=fun i hi=>by rw[yS,List.getElem?_eq_none (by omega)];rfl
 generalize Aj pm n=inv at h3 zA;have ago:∀(l:List Nat) (i a b:Nat),i<l.length->l.getD i a=l.getD i b:=fun l i a b hi=>by
  rw[yS,yS,xb hi];rfl
 refine⟨hl,fun x hx=>?_,⟨fun i j qR=>?_,fun x hx=>?_,fun i hi=>(h3 i hi).1⟩⟩
 .obtain ⟨i,hi,rfl⟩:=List.getElem_of_mem hx
  have:=(h3 i (by omega)).1
  rwa[yS,xb hi] at this
 .have qR:pm.getD i i=pm.getD j j:=qR;by_cases hi:i<n
  .by_cases hj:j<n
   .have a:=(h3 i hi).2.2.1;have b:=(h3 j hj).2.2.1;rw[qR] at a;rw[ago inv _ i j (by rw[zA];exact (h3 j hj).1)] at a
    exact a.symm.trans b
   .rw [out j (by omega)] at qR
    have:=(h3 i hi).1
    omega
  .by_cases hj:j<n
   .rw [out i (by omega)] at qR
    have:=(h3 j hj).1
    omega
   .rw [out i (by omega),out j (by omega)] at qR;exact qR
 .obtain ⟨_,b,_,d⟩:=h3 x hx;exact⟨_,b,by show pm.getD _ _=x;rw[ago pm _ _ x (by omega)];exact d⟩
def Zs{H:Hint}{ops:Array yV}{rs:List aS}{Pp:aF}{L:Lib}{FB:cu}(dh:(oC ops.toList 0&&rq [] rs (kK [] ops.toList))=ydo)(PS:eM P H ops rs ops.toList)(hv:de Pp L FB rs s=F5 s'):
  ∃rs π,Kg ops.size π/\oC ops.toList 0=ydo/\(rs.length=ops.size/\∀(i:Nat) (r:aS) (o:yV),rs[i]? =F5 r->ops[π i]? =F5 o->EW P H ops r o\/(r.guard=F6/\r.op=bad))/\
    (∀(i j:Nat) (x y:aS),i<j->rs[i]? =F5 x->rs[j]? =F5 y->Ord ops (π i) (π j)\/E3 x y ((rs.take j).drop (i+1)))/\de Pp L FB rs s=F5 s':=by
 simp only[ye] at dh;obtain⟨hlen,ak⟩:=Od PS;refine⟨rs,fun i=>i,⟨fun _ _ h=>h,fun x h=>⟨x,h,rfl⟩,fun _ h=>h⟩,dh.1,⟨by rw[hlen];simp,fun i r o hr ho=>ak i r o hr (by simpa using ho)⟩,fun i j x y qR hx hy=>?_,hv⟩
 obtain⟨mm,g1,g2⟩:=Sp (done:=[]) (i:=i) (j:=j) (a:=x) (b:=y) dh.2 (by simpa using hx) hy (by simpa using qR);refine g2.imp (fun g=>?_) (fun g=>by simpa using g);unfold Ord;rw[yS,g1];exact g
def aks{H:Hint}{ops:Array yV}{l:List aS}{zn:List Nat}{Pp:aF}{L:Lib}{FB:cu}(FG:eM P H ops l ops.toList)(XK:Cw (kK [] ops.toList) pm pm pm=zn)(q1:oC ops.toList 0=ydo)(q2:Kc ops.size pm (Aj pm ops.size)=ydo)(q3:rq [] (lJ [] (CS (EP l l) pm) zn) zn=ydo)(hv:de Pp L FB (lJ [] (CS (EP l l) pm) zn) s=F5 s'):
  ∃rs π,Kg ops.size π/\oC ops.toList 0=ydo/\(rs.length=ops.size/\∀(i:Nat) (r:aS) (o:yV),rs[i]? =F5 r->ops[π i]? =F5 o->EW P H ops r o\/(r.guard=F6/\r.op=bad))/\
    (∀(i j:Nat) (x y:aS),i<j->rs[i]? =F5 x->rs[j]? =F5 y->Ord ops (π i) (π j)\/E3 x y ((rs.take j).drop (i+1)))/\de Pp L FB rs s=F5 s':=by
 obtain⟨hl,aM,hπ⟩:=akJ q2;have h1:=Gg _ _ [] zn (Uo (abD (all:=l) _ _ FG) pm);obtain⟨h2,h3⟩:=Od h1;obtain⟨h4,h5⟩:=aaI (l:=ops.toList) pm (fun x hx=>by simpa using aM x hx);refine⟨_,_,hπ,q1,⟨by rw[h2,h4,hl],fun i r o hr ho=>h3 i r o hr ?_⟩,fun i j x y qR hx hy=>?_,hv⟩
 .have hi:i<pm.length:=by have:=(xN.1 hr).1;omega
  rw[h5,xb hi,wE];rw[yS,xb hi,xW] at ho;simpa using ho
 .have hj:j<pm.length:=by have:=(xN.1 hy).1;omega
  obtain⟨mm,g1,g2⟩:=Sp (done:=[]) (i:=i) (j:=j) (a:=x) (b:=y) q3 (by simpa using hx) hy (by simpa using qR);refine g2.imp (fun g=>?_) (fun g=>by simpa using g);rw[<-XK,Zr,xb hj,wO,yc] at g1;subst g1;obtain⟨_,z,g3,g4⟩:=Zq _ _ _ g;unfold Ord
  rw[yS (l:=pm),xb hj,xW]
  rw[yS (l:=pm),show pm[i]? =F5 z by simpa using g3,xW];exact g4
def amo{m:Mp}{S:Nat->Prop}{w:yk}{hp:Hp}{ct:Nat}(hh:aT O m S w hp ct):Calm w {w with drawn:=w.drawn+1}:=⟨rfl,rfl,rfl,yx _,fun _ _=>rfl⟩
def atc(hO:iK O)(hC:pW O self)(h:Nat)(id:Nat)(ops:Array yV)(draw:Bool)(k:Nat)(hv:de O.prog O.aI self (Oq O.P (O.hint h) ops draw k).1 s=F5 s'):CV O h (.region id ops draw) s .normal s':=by
 intro ro lo m S w a cU ht hh hb hn aZ fC cA;unfold Oq at hv;have FG:=ZS (P:=O.P) (H:=O.hint h) (ops:=ops) ops.toList k;generalize hq:Ek O.P (O.hint h) ops ops.toList k=q at hv FG;obtain⟨l,k'⟩:=q;simp only at hv FG;have post:∀{a':Act} {m':Mp} {S':Nat->Prop} {w':yk},aT O m' S' w' s'.hp s'.ct->s.ct<=s'.ct->bT O m' S' w' s'.tm a'.tmps->cg m S w s.hp m' S' w' s'.hp s.ct->a'.tmps.size=a.tmps.size->a'.defers=a.defers->s'.base=s.base->eU O m S w s .normal s' a.tmps.size lo .normal a' w':=by
  intro a' m' S' w' h1 h2 h3 h4 h5 h6 h7;exact⟨rfl,m',S',h3,h1,h7,by omega,h4.As hb,h5,by rw[h6];exact Cp hh h4 cA⟩
 cases draw with
 | false=>
  simp only[yO] at hv;refine wpIn_region ?_;rw[List.range_eq_range'];have hl:ops.size=ops.toList.length:=by simp
  rw[hl];exact acY hC (hO.hint h) ops.toList l 0 s s' a m S w (fun j=>by simp) FG hv ht hh hn (fun a' m' S' w' h1 h2 h3 h4 h5 h6 h7=>post h1 h2 h3 h4 h5 h6 h7)
 | true=>
  simp only[yu] at hv;have lV:∃rs π,Kg ops.size π/\oC ops.toList 0=ydo/\(rs.length=ops.size/\∀(i:Nat) (r:aS) (o:yV),rs[i]? =F5 r->ops[π i]? =F5 o->EW O.P (O.hint h) ops r o\/(r.guard=F6/\r.op=bad))/\
    (∀(i j:Nat) (x y:aS),i<j->rs[i]? =F5 x->rs[j]? =F5 y->Ord ops (π i) (π j)\/E3 x y ((rs.take j).drop (i+1)))/\de O.prog O.aI self rs s=F5 s':=by
   have PS:=Gg l ops.toList [] (kK [] ops.toList) FG
   cases dh:(oC ops.toList 0&&rq [] (lJ [] l (kK [] ops.toList)) (kK [] ops.toList)) with
   | true=>
    rw[dh] at hv;exact Zs dh PS hv
   | false=>
    rw[dh] at hv;simp only[yO] at hv
    cases G7:(oC ops.toList 0&&rq [] (GY [] (lJ [] l (kK [] ops.toList))) (kK [] ops.toList)) with
    | true=>
     rw[G7] at hv;exact Zs G7 (abC _ _ _ PS) hv
    | false=>
     rw[G7] at hv;simp only[yO] at hv;generalize hpm:places l (kK [] ops.toList)=pm at hv;generalize XK:Cw (kK [] ops.toList) pm pm pm=zn at hv
     cases PT:(oC ops.toList 0&&(Kc ops.size pm (Aj pm ops.size)&&rq [] (lJ [] (CS (EP l l) pm) zn) zn)) with
     | false=>
      rw[PT] at hv;simp[de,bad,aX,eR,ax] at hv
     | true=>
      rw[PT] at hv;simp only[yu] at hv;simp only[ye] at PT;obtain⟨q1,q2,q3⟩:=PT;exact aks FG XK q1 q2 q3 hv
  clear hv;obtain⟨rs,π,hπ,aw1,⟨hlen,ak⟩,aw2,hv⟩:=lV
  .obtain ⟨bO,bD,bA,vF,hR,e1,e2,e3,e4,e5,e6,e7⟩:=acZ hv;have hG:Al O (O.hint h) self ops π rs bO bD bA vF:=by
    refine⟨hR,hlen,fun i r o hr ho=>?_,aw2,fun i o ho e he hbd=>?_⟩
    .rcases ak i r o hr ho with g | ⟨g1,g2⟩
     .exact g
     .have:=hR.step i r hr
      simp[fg,g1,rI,g2,bad,aX,eR,ax] at this
    .have:=Y8 aw1 (j:=i) (o:=o) (by simpa using ho) e he hbd
     omega
   refine wpIn_region_any hO.mixed ?_;have KW:=amo hh;have iX:=Co hh KW (S':=S) (fun _ h=>h) (fun _ h=>.inl h) hh.slt
   have mD:cg m S w s.hp m S {w with drawn:=w.drawn+1} s.hp (bA 0):=Be hh KW (fun _ h=>h) (fun _ h=>.inl h);obtain⟨c,c1,c2,c3,c4⟩:=UM rs rs.length 0 (by omega);have hg:∀k',k'<=c->jv (bD 0) (bA 0) (bD (0+k')) (bA (0+k')):=fun k' BV=>
    NS hR (by rw[e2,e3];exact hh.aM) k' (by omega) (fun j r g1 g2 hr=>JW hr (c3 j g1 (by omega)))
   have jl:=hg c (yx _);rw[yd] at jl;obtain⟨S1,g1,g2,g3,g4⟩:=N9 (by rw[e2,e3];exact iX:aT O m S {w with drawn:=w.drawn+1} (bD 0) (bA 0)) jl
   have Ak:∀i,(uK ops.size ydp).getD i ydp=ydo->False:=fun i hi=>by
    simp only[wj] at hi;by_cases aM:i<ops.size
    .simp [aM] at hi
    .rw [ybc (by simpa using aM)] at hi;simp at hi
   refine atb (m0:=m) (S0:=S) (w0:=w) (n0:=a.tmps.size) (d0:=a.defers) hC (hO.hint h) hG hπ hn (fun a' m' S' w' h1 h2 h3 h4 h5 h6=>?_) ops.size _ 0 c m S1 _ a (by simp) ?_ (fun j o _ hj=>(Ak j hj).elim) ?_
   .rw [e5,e6] at h1;rw[e3,e6] at h2;rw[e4] at h3;rw[e2,e3,e5] at h4;exact post h1 h2 h3 h4 h5 h6 e7
   .unfold left;rw[List.countP_eq_length.2]
    .simp
    .intro i hi;simp only[vW]
     cases hq:(uK ops.size ydp).getD i ydp with
     | false=>rfl
     | true=>exact (Ak i hq).elim
   .refine ⟨tD _,c2,fun i hi=>by omega,c3,c4.imp (fun h=>h) (fun h=>⟨h,fun hd=>Ak _ hd⟩),fun i r _ _ _ hd=>Ak _ hd,g1,fun id p hp=>.inl (by rw[e3];exact hh.lt id p hp),fun t=>⟨0,tD _,fun i r _ _=>⟨fun hd=>(Ak _ hd).elim,fun h=>by omega⟩,?_⟩,?_,jl.r7,rfl,rfl,.inl rfl,fun j hj=>?_⟩
    .rw [e1];exact mN (fun _ _ h=>h) (fun b hb=>g2 b hb) (fun b hb=>KW.same b (hh.slt b hb)) _ _ (ht t)
    .rw [e2];have g5:=g4 (bA 0);rw[e2] at g5;exact mD.trans g5
    .have:=(hg j hj).lt
     rw[yd] at this;exact this
end
end
end
section
open Go
section
variable {ps:List Nat}{b l:Nat}{P:xy}
section
variable {O:bq}{m:Mp}{S:Nat->Prop}{w:yk}{hp:Hp}{ct:Nat}
def ZV(hh:aT O m S w hp ct){g:Nat}{w':yk}(hw:One w w' g)(hg:¬S g)(ho:¬er m hp g)(aZ:O.w0.heap.size<=g):aT O m S w' hp ct:=by
 have aR:gh S w w':=fun b hb=>hw.other b (fun e=>hg (e▸hb))
 refine⟨fun id o p h1 h2=>?_,hh.lt,hh.inj,fun b hb=>by rw[hw.size];exact hh.slt b hb,fun id p h=>by rw[hw.size];exact hh.blt id p h,hh.low,fun b hb=>?_,by rw[hw.size];exact hh.gH,hh.aM⟩
 .exact zT (fun _ _ h=>h) (fun _ h=>h) aR (fun q hq=>hw.other _ (fun e=>ho ⟨id,o,q,h1,hq,e⟩)) (fun _ _ h=>h) (hh.obj id o p h1 h2)
 .rw [hw.other b (by lia)];exact hh.mW b hb
def ZW{o:yaJ}(h:w.heap[b]? =F5 o)(hc:∀c t f,o≠.cells c t f):(getObj b).run P w=.ok o w:=by
 simp only[getObj,Sem.run,h]
def NC{o x:yaJ}(h:w.heap[b]? =F5 o)(hc:∀c t f,o≠.cells c t f):(setObj b x).run P w=.ok () {w with heap:=w.heap.setIfInBounds b x}:=by
 simp only[setObj,Sem.run,h]
def Jp{r:td}(h:w.heap[b]? =F5 (.loop r)):(Instr.getLoop b).run P w=.ok r w:=by
 simp only[Instr.getLoop,Sem.run_bind,ZW (P:=P) h (fun _ _ _=>by simp),Result.andThen_ok,Sem.run_pure]
def JX(hh:aT O m S w hp ct){tm:Env}{as_ body:VC}{st:Nat}{pe:sZ}{p:Pl}(hg:ak hp l=F5 (.lp tm ps as_ body st pe))(hm:m l=F5 p):
  ∃(r:td) (h:Nat),w.heap[p.b]? =F5 (.loop r)/\¬S p.b/\r.state=C2 st/\st<=2/\r.pending=Bm pe/\bT O m S w tm r.tmps/\r.params.toList=ps/\Dm O.P (O.hint h) as_ r.assign/\Dm O.P (O.hint h) body r.body/\
   (O.hint h).n<=r.tmps.size/\Bs (O.hint h).n ps=ydo:=by
 have⟨q,r,h,g1,g2,g3⟩:=hh.obj l _ p hg hm
 grind
def aaJ(hh:aT O m S w hp ct){tm:Env}{as_ body:VC}{st:Nat}{pe:sZ}{p:Pl}(hg:ak hp l=F5 (.lp tm ps as_ body st pe))(hm:m l=F5 p){r:td}(hr:w.heap[p.b]? =F5 (.loop r)){st':Nat}{pe':sZ}(h2:st'<=2):
  aT O m S {w with heap:=w.heap.setIfInBounds p.b (.loop {r with state:=C2 st',pending:=Bm pe'})} (aU hp l (.lp tm ps as_ body st' pe')) ct/\
  cg m S w hp m S {w with heap:=w.heap.setIfInBounds p.b (.loop {r with state:=C2 st',pending:=Bm pe'})} (aU hp l (.lp tm ps as_ body st' pe')) ct:=by
 have⟨r',h,g1,g2,g3,g4,g5,g6,g7,g8,g9,g10,g11⟩:=JX hh hg hm;rw[hr] at g1;injection g1 with g1
 injection g1 with g1
 subst g1;have gV:=F8 w p.b (.loop {r with state:=C2 st',pending:=Bm pe'})
 refine JI hh hg hm g2 gV ⟨p,{r with state:=C2 st',pending:=Bm pe'},h,hm,Ny hr,g2,rfl,h2,rfl,?_,g7,g8,g9,g10,g11⟩ (fun _ _=>⟨_,Ny hr⟩);exact Cn (fun _ _ h=>h) (fun _ h=>h) (fun b hb=>gV.other b (fun e=>g2 (e▸hb))) g6
def aaK{n:Nat}:∀{ps:List Nat} {vs:List AV} {us:List yh} {tm tm':Env} {tmps:Array yh},rD tm ps vs=F5 tm'->aB O.ab m S w vs us->bT O m S w tm tmps->n<=tmps.size->Bs n ps=ydo->
  ps.length=us.length/\bT O m S w tm' ((ps.zip us).foldl (fun t (x:Nat×yh)=>t.setIfInBounds x.1 x.2) tmps)/\((ps.zip us).foldl (fun t (x:Nat×yh)=>t.setIfInBounds x.1 x.2) tmps).size=tmps.size
 | [],[],us,tm,tm',tmps,h,hr,ht,hn,ha=>by
  simp only[rD,yc] at h;simp only[aB] at hr
  simp_all
 | [],_::_,us,tm,tm',tmps,h,hr,ht,hn,ha=>by simp[rD] at h
 | _::_,[],us,tm,tm',tmps,h,hr,ht,hn,ha=>by simp[rD] at h
 | p::ps,v::vs,us,tm,tm',tmps,h,hr,ht,hn,ha=>by
  simp only[rD] at h;obtain⟨u,t,rfl,h1,h2⟩:=hr;simp only[Bs,ye] at ha;have hp:=rz.1 ha.1;have ht1:bT O m S w ((p,v)::tm) (tmps.setIfInBounds p u):=TK (a:=⟨tmps,[]⟩) (d:=F5 p) ht (fun i hi=>by injection hi with hi;show i<tmps.size;lia) h1
  have⟨g1,g2,g3⟩:=aaK (n:=n) h h2 ht1 (by simpa using hn) ha.2
  simp_all
def aoi(ps:Array Tmp)(args:Array yh)(tmps:Array yh):(ps.zip args).foldl (fun tmps (x:Tmp×yh)=>tmps.setIfInBounds x.1 x.2) tmps=(ps.toList.zip args.toList).foldl (fun t (x:Nat×yh)=>t.setIfInBounds x.1 x.2) tmps:=by
 rw[<-Array.foldl_toList,Array.toList_zip]
def akt{r:td}(h:w.heap[b]? =F5 (.loop r))(jump:Option vA):
  (Instr.endRound b jump).run P w=.ok (.bool jump.isNone) {w with heap:=w.heap.setIfInBounds b (.loop {r with state:=if jump.isNone then .ready else .done,pending:=jump})}:=by
 simp only[Instr.endRound,Sem.run_bind,Jp h,Result.andThen_ok,NC (P:=P) h (fun _ _ _=>by simp),Sem.run_pure]
def akg{r:td}(h:w.heap[b]? =F5 (.loop r))(hs:r.state=.ready):
  (Instr.beginRound b).run P w=.ok () {w with heap:=w.heap.setIfInBounds b (.loop {r with state:=.busy})}:=by
 simp only[Instr.beginRound,Sem.run_bind,Jp h,Result.andThen_ok,NC (P:=P) h (fun _ _ _=>by simp),hs,Sem.run_pure]
def aoj{self:cu}(hS:∀v s ex s',self v s=F5 (ex,s')->∀c h l k,(comp O.P (O.hint h) c l k).1=v->CV O h c s ex s'){xs:List AV}{v:AV}{an:Hp}{aH:Nat}(hv:ie self hp ct l xs=F5 (v,an,aH)):adT O hp ct l xs v an aH:=by
 intro m S w args p hh hm eI;unfold ie at hv
 split at hv
 case h_2=>cases hv
 rename_i tm ps as_ body pe hg;have⟨r,h,g1,g2,g3,g4,g5,g6,g7,⟨ca,ka,g8⟩,⟨cb,kb,g9⟩,g10,g11⟩:=JX hh hg hm
 cases hb:rD tm ps xs with
 | none=>simp[hb] at hv
 | some tm'=>
  simp only[hb] at hv;have⟨b1,b2,b3⟩:=aaK hb eI g6 g10 g11;rw[<-g7] at b1 b2 b3;have eJ:args.size=r.params.size:=by
   grind
  let tmps:Array yh:=(r.params.zip args).foldl (fun tmps (x:Tmp×yh)=>tmps.setIfInBounds x.1 x.2) r.tmps
  have agp:tmps=(r.params.toList.zip args.toList).foldl (fun t (x:Nat×yh)=>t.setIfInBounds x.1 x.2) r.tmps:=aoi _ _ _;refine⟨r.fn,tmps,r.assign,r.body,?_,?_⟩
  .simp only [Instr.yield,Sem.run_bind,Jp g1,Result.andThen_ok,eJ,ycs,tV,xz,Sem.run_pure];rfl
  refine roundIn_of_wpIn (F:=Fence.wide) trivial ?_
  cases h1:self as_ ⟨tm',hp,ct,ct⟩ with
  | none=>simp[h1] at hv
  | some q=>
   have⟨ex1,s1⟩:=q
   cases ex1 with
   | ret=>simp[h1] at hv
   | exit id=>simp[h1] at hv
   | normal=>
    simp only[h1] at hv;have eQ:=hS _ _ _ _ h1 r.assign h ca ka g8;have cU:∀w',cg m S w hp m S w' hp ct->Bn (F5 p.b) w':=fun w' hf=>NU hf (fun l hl=>⟨r,by injection hl with hl;subst hl;exact g1⟩)
    refine wpIn_mono (eQ (F5 p.b) w.heap.size m S w ⟨tmps,[]⟩ (cU w cg.refl) (by rw[agp];exact b2) hh (yx _) (by show _<=tmps.size;rw[agp,b3];exact g10) hh.gH (yx _) ⟨[],rfl,by simp,by simp⟩) ?_
    rintro e a1 w1 ⟨rfl,m1,S1,k1,k2,k3,k4,k5,k6,k7⟩;simp only[zc,Exit.then];have DB:m1 l=F5 p:=k5.old l p (hh.lt l p hm) hm
    split at hv
    case h_2=>cases hv
    rename_i gM qG Dl EQ oc jl;have⟨r1,iX,f1,f2,f3,f4,f5,f6,f7,f8,f9,f10,f11⟩:=JX k2 jl DB;have XL:=akg (P:=O.P) f1 f3;have⟨q1,q2⟩:=aaJ k2 jl DB f1 (st':=1) (pe':=oc) (by lia)
    have et:({r1 with state:=C2 1,pending:=Bm oc}:td)={r1 with state:=.busy}:=by rw[<-f5];rfl
    rw[et] at q1 q2;refine⟨_,XL,?_⟩
    cases h2:self body ⟨s1.tm,aU s1.hp l (.lp gM qG Dl EQ 1 oc),s1.ct,s1.ct⟩ with
    | none=>simp[h2] at hv
    | some q=>
     have⟨ex,s2⟩:=q;simp only[h2] at hv;have Du:=hS _ _ _ _ h2 r.body h cb kb g9
     have ay3:Bn (F5 p.b) {w1 with heap:=w1.heap.setIfInBounds p.b (.loop {r1 with state:=.busy})}:=fun l hl=>by
      grind
     have XM:bT O m1 S1 {w1 with heap:=w1.heap.setIfInBounds p.b (.loop {r1 with state:=.busy})} s1.tm a1.tmps:=
      Cn (fun _ _ h=>h) (fun _ h=>h) (fun b hb=>q2.still b hb) k1
     have ay4:(O.hint h).n<=a1.tmps.size:=by
      grind
     refine wpIn_mono (Du (F5 p.b) w.heap.size m1 S1 _ a1 ay3 XM q1 (yx _) ay4 hh.gH (xu k5.size q2.size) (Cp k2 q2 k7)) ?_;rintro e a2 w2 ⟨rfl,m2,S2,j1,j2,j3,j4,j5,j6,j7⟩;have XN:m2 l=F5 p:=j5.old l p (k2.lt l p DB) DB
     split at hv
     case h_2=>cases hv
     rename_i lQ zm Mk KT Rk HW;have⟨r2,MB,d1,d2,d3,d4,d5,d6,d7,d8,d9,d10,d11⟩:=JX j2 HW XN;have ay5:cg m S w hp m2 S2 w2 s2.hp ct:=(k5.trans (q2.As k4)).trans (j5.As k4);have agq:ct<=s2.ct:=xu k4 j4;have fin:∀(jump:Option vA) (st':Nat) (pe':sZ),Bm pe'=jump->C2 st'=(if jump.isNone then .ready else .done)->st'<=2->
       ∃v' w',(Instr.endRound p.b jump).run O.P w2=.ok v' w'/\Bb O m S w hp ct (.bool jump.isNone) (aU s2.hp l (.lp lQ zm Mk KT st' pe')) s2.ct (.returned v') w':=by
      intro jump st' pe' e1 e2 e3;have⟨z1,z2⟩:=aaJ j2 HW XN d1 (st':=st') (pe':=pe') e3;rw[e1,e2] at z1 z2;exact⟨_,_,akt d1 jump,_,m2,S2,rfl,z1,agq,by simp[ae],ay5.trans (z2.As agq)⟩
     cases ex with
     | normal=>
      simp only[yc,ym] at hv;obtain⟨rfl,rfl,rfl⟩:=hv;simp only[zc,roundPost];exact fin F6 0 .none rfl rfl (by lia)
     | ret=>
      simp only[OR,yc,ym] at hv;obtain⟨rfl,rfl,rfl⟩:=hv;simp only[zc,roundPost];exact fin (F5 .ret) 2 .ret rfl rfl (by lia)
     | exit id=>
      simp only[OR,yc,ym] at hv;obtain⟨rfl,rfl,rfl⟩:=hv;simp only[zc,roundPost];exact fin (F5 (.exit id)) 2 (.exit id) rfl rfl (by lia)
end
end
end
section
open Go
section
variable {O:bq}{self:cu}
def JK{P:xy}{f:yal}{fn:ybe}{args:Array yh}{w:yk}(hf:P.funcs[f]? =F5 fn)(hb:fn.body.isSome=ydo)(hn:fn.name≠ "runtime.NumGoroutine"):(callFunc f args).run P w=.ok (.enter f args) w:=by
 have h1:fn.body≠F6:=fun e=>by rw[e] at hb;cases hb
 simp[callFunc,program,Sem.run,hf,h1,hn]
def SB{P:xy}{H:Hint}{fn:ybe}{F:aD}(h:Gu P H fn=F5 F):∃c,fn.body=F5 c/\F.body=(comp P H c 0 0).1/\ru P fn.results.toList=F5 F.dX/\H.n<=fn.ntmps:=by
 unfold Gu at h
 split at h
 .rename_i c rs h1 h2
  cases hb:yC H.n fn.ntmps with
  | false=>rw[hb] at h;cases h
  | true=>
   rw[hb] at h;simp only[yu,yc] at h;subst h
   simp_all
 .cases h
def aok{m:Mp}{S:Nat->Prop}{w:yk}{hp:Hp}{ct:Nat}{tm:Env}{a:Act}{ro:Option Nat}(fn:yal)(ps:Array Tmp)(assign body:vA){as_ b':VC}{h:Nat}(hh:aT O m S w hp ct)(ht:bT O m S w tm a.tmps)(cU:Bn ro w)(XO:Dm O.P (O.hint h) as_ assign)(XP:Dm O.P (O.hint h) b' body)(hn:(O.hint h).n<=a.tmps.size)(jk:Bs (O.hint h).n ps.toList=ydo){lo:Nat}(fC:lo<=w.heap.size)(cA:Marks lo S w a.defers):
  ∃l mark w1,(Instr.enterLoop fn a.tmps ps assign body ro).run O.P w=.ok (l,mark) w1/\aT O (fL m ct ⟨l,0,0,0⟩) S w1 ((ct,.lp tm ps.toList as_ b' 0 .none)::hp) (ct+1)/\
   cg m S w hp (fL m ct ⟨l,0,0,0⟩) S w1 ((ct,.lp tm ps.toList as_ b' 0 .none)::hp) ct/\m ct=F6/\Marks lo S w1 (mark++a.defers)/\w.heap.size<=l:=by
 have bG:m ct=F6:=by
  cases hq:m ct with
  | none=>rfl
  | some p=>have:=hh.lt ct p hq;omega
 have lay:∀(w':yk) (d:Nat),Calm w w'->Marks lo S w' a.defers->
   aT O (fL m ct ⟨w'.heap.size,0,0,0⟩) S (w'.alloc (.loop {state:=.ready,pending:=F6,fn:=fn,tmps:=a.tmps,params:=ps,assign:=assign,body:=body,defers:=d})) ((ct,.lp tm ps.toList as_ b' 0 .none)::hp) (ct+1)/\
   cg m S w hp (fL m ct ⟨w'.heap.size,0,0,0⟩) S (w'.alloc (.loop {state:=.ready,pending:=F6,fn:=fn,tmps:=a.tmps,params:=ps,assign:=assign,body:=body,defers:=d})) ((ct,.lp tm ps.toList as_ b' 0 .none)::hp) ct:=by
  intro w' d hw agr;have iX:aT O m S w' hp ct:=Co hh hw (fun _ h=>h) (fun _ h=>.inl h) (fun b hb=>yG (hh.slt b hb) hw.size);have mD:cg m S w hp m S w' hp ct:=Be hh hw (fun _ h=>h) (fun _ h=>.inl h);have hg:jv hp ct ((ct,.lp tm ps.toList as_ b' 0 .none)::hp) (ct+1):=by
   refine⟨fun id o ho=>⟨o,?_,jI.refl o⟩,by omega,fun id o ho=>?_,fun id o ho hi=>?_⟩
   .rw [fF,yp (by have:=hh.aM id o ho;omega)];exact ho
   .rw [fF] at ho;by_cases hc:ct=id
    .omega
    .simp only [hc,xz] at ho;have:=hh.aM id o ho;omega
   .rw [fF,yp (by omega)] at ho;exact⟨o,ho⟩
  have bZ:∀i q,ak ((ct,Obj.lp tm ps.toList as_ b' 0 .none)::hp) i=F5 q->i≠ct->ak hp i=F5 q:=fun i q h hi=>by
   rw[fF,yp (fun e=>hi e.symm)] at h;exact h
  have MB:aT O m S w' ((ct,.lp tm ps.toList as_ b' 0 .none)::hp) (ct+1):=by
   have eK:∀id p,m id=F5 p->id≠ct:=fun id p hm e=>by have:=hh.lt id p hm;omega
   exact⟨fun id o p ho hm=>iX.obj id o p (bZ id o ho (eK id p hm)) hm,fun id p hm=>by have:=hh.lt id p hm;omega,
    fun i j oi oj pi pj hi hj bG gX e=>iX.inj i j oi oj pi pj (bZ i oi hi (eK i pi bG)) (bZ j oj hj (eK j pj gX)) bG gX e,iX.slt,iX.blt,iX.low,iX.mW,iX.gH,hg.lt⟩
  have qO:fk O (fL m ct ⟨w'.heap.size,0,0,0⟩) S (w'.alloc (.loop {state:=.ready,pending:=F6,fn:=fn,tmps:=a.tmps,params:=ps,assign:=assign,body:=body,defers:=d})) ct (.lp tm ps.toList as_ b' 0 .none):=by
   refine⟨⟨w'.heap.size,0,0,0⟩,_,h,dI,heap_alloc_new w' _,?_,rfl,by omega,rfl,?_,rfl,XO,XP,hn,jk⟩
   .intro hS
    have:=iX.slt _ hS
    simp at this
   .exact Cn (jM bG) (fun _ h=>h) (fun b hb=>(Jt iX _ b hb).trans (hw.same b (hh.slt b hb))) ht
  obtain⟨S',k1,k2,k3⟩:=TE (i:=ct) (p:=⟨w'.heap.size,0,0,0⟩) MB bG (by omega) rfl (fun o ho=>by
   rw[fF] at ho;simp only[xJ,yc] at ho;subst ho
   exact .inl ⟨qO,by simp[jq]⟩)
  have k1':aT O (fL m ct ⟨w'.heap.size,0,0,0⟩) S (w'.alloc (.loop {state:=.ready,pending:=F6,fn:=fn,tmps:=a.tmps,params:=ps,assign:=assign,body:=body,defers:=d})) ((ct,.lp tm ps.toList as_ b' 0 .none)::hp) (ct+1):=by
   have Mr:∀id q,m id=F5 q->q.b≠w'.heap.size:=fun id q hq=>by have:=iX.blt id q hq;lia
   refine⟨?_,k1.lt,k1.inj,fun b hb=>k1.slt b (k2 b hb),k1.blt,k1.low,k1.mW,k1.gH,k1.aM⟩;intro id o q ho hm;by_cases hc:id=ct
   .subst hc;rw[fF] at ho
    grind
   .rw [eB hc] at hm;exact zT (jM bG) (fun _ h=>h) (Jt iX _) (fun q' bL=>alloc_old (iX.blt id q' bL)) (fun _ _ h=>h) (iX.obj id o q (bZ id o ho hc) hm)
  refine⟨k1',mD.trans ⟨rfl,rfl,rfl,by simp,fun b hb _=>alloc_old hb,fun _ h=>h,fun b hb=>Jt iX _ b hb,fun b hb=>.inl hb,?_,fun i q _ hq=>jM bG i q hq,fun b r hb=>⟨r,(alloc_old (xE.1 hb).1).trans hb⟩⟩⟩;rintro b ⟨i,o,q,g1,g2,g3⟩;by_cases hc:i=ct
  .subst hc;rw[dI] at g2
   grind
  .rw [eB hc] at g2;exact .inl ⟨i,o,q,bZ i o g1 hc,g2,g3⟩
 cases ro with
 | none=>
  have KW:Calm w (w.alloc (.deferred (F5 []))):=⟨rfl,rfl,rfl,by simp,fun b hb=>alloc_old hb⟩;have⟨rs,r1,r2,r3⟩:=cA;have V1:Marks lo S (w.alloc (.deferred (F5 []))) a.defers:=⟨rs,r1,r2,fun r hr=>⟨(alloc_old (xE.1 (r3 r hr).1).1).trans (r3 r hr).1,(r3 r hr).2⟩⟩;have⟨k1,k2⟩:=lay (w.alloc (.deferred (F5 []))) w.heap.size KW V1
  refine⟨(w.alloc (.deferred (F5 []))).heap.size,[{target:=.collected w.heap.size,args:=#[]}],_,?_,k1,k2,bG,?_,by simp⟩
  .simp [Instr.enterLoop,newObj,Sem.run]
  .have hold:∀(b:Nat) (x:yaJ),(w.alloc (.deferred (F5 []))).heap[b]? =F5 x->((w.alloc (.deferred (F5 []))).alloc (.loop {state:=.ready,pending:=F6,fn:=fn,tmps:=a.tmps,params:=ps,assign:=assign,body:=body,defers:=w.heap.size})).heap[b]? =F5 x:=fun b x hb=>
    (alloc_old (xE.1 hb).1).trans hb
   refine⟨w.heap.size::rs,by rw[r1];rfl,?_,?_⟩
   .grind
   .intro r hr;rcases wB.1 hr with rfl | hr
    .exact ⟨hold _ _ (heap_alloc_new w _),fun hs=>by have:=hh.slt _ hs;lia,fC⟩
    .exact ⟨hold _ _ ((alloc_old (xE.1 (r3 r hr).1).1).trans (r3 r hr).1),(r3 r hr).2⟩
 | some l0=>
  have⟨r0,mE⟩:=cU l0 rfl;have⟨k1,k2⟩:=lay w r0.defers Calm.refl cA;refine⟨w.heap.size,[],_,?_,k1,k2,bG,?_,yx _⟩
  .simp [Instr.enterLoop,Jp mE,newObj,Sem.run]
  .exact Cp hh k2 cA
def aw3(hO:iK O)(hC:pW O self){h:Nat}{f:xB}{ps:Array Tmp}{assign body:vA}{as_ b':VC}(XO:Dm O.P (O.hint h) as_ assign)(XP:Dm O.P (O.hint h) b' body)(jk:Bs (O.hint h).n ps.toList=ydo){s:St}{ex:Ex}{s':St}(hv:bz O.prog O.aI self (.rf (aJ (O.hint h) f) ps.toList as_ b') s=F5 (ex,s')):CV O h (.rangeFunc f ps assign body) s ex s':=by
 intro ro lo m S w a cU ht hh hb hn aZ fC cA;simp only[bz] at hv
 split at hv
 case h_2=>cases hv
 rename_i n first cap hx
 split at hv
 case h_1=>cases hv
 rename_i hL
 cases he:js O.prog O.aI self ((s.ct,.lp s.tm ps.toList as_ b' 0 .none)::s.hp) (s.ct+1) n (first++(.fn (.y s.ct) [] []::cap)) with
 | none=>simp[he] at hv
 | some q=>
  have⟨v,aY,qQ⟩:=q;simp only[he] at hv
  split at hv
  case h_2=>cases hv
  rename_i lQ zm Mk KT st pe HW
  cases aR:yo st 1 with
  | true=>rw[aR] at hv;cases hv
  | false=>
   rw[aR] at hv;simp only[yO] at hv;refine wpIn_rangeFunc (fun fn _=>?_);have⟨l,mark,w1,e1,e2,e3,e4,e5,e6⟩:=aok (ro:=ro) fn ps assign body hh ht cU XO XP hn jk fC cA;have rf:=bX (hO.hint h) ht f;rw[hx] at rf;simp only[ae] at rf;have⟨fi,ca,hf,r2,r3⟩:=rf;have hle:=jM e4 (p:=⟨l,0,0,0⟩);have G8:gh S w w1:=fun b hb=>e3.still b hb
   have eI:aB O.ab (fL m s.ct ⟨l,0,0,0⟩) S w1 (first++(.fn (.y s.ct) [] []::cap)) (fi++#[Value.func (.yield l) #[] #[]]++ca).toList:=by
    have:=mL (iJ hle (fun _ h=>h) G8 _ _ r2) (mL (a:=[.fn (.y s.ct) [] []]) (x:=[Value.func (.yield l) #[] #[]]) (by
     simp only[aB]
     exact⟨_,[],rfl,by simp only[ae];exact⟨_,dI,rfl⟩,rfl⟩) (iJ hle (fun _ h=>h) G8 _ _ r3))
    grind
   have Vg:=hC.heap _ _ _ _ _ _ _ he _ S w1 _ e2 eI;have hP:∃F,O.prog n=F5 F:=by
    unfold js at he;rw[hL] at he
    cases hq:O.prog n with
    | none=>simp[hq] at he
    | some F=>exact⟨F,rfl⟩
   have⟨F,hF⟩:=hP;have⟨fn',q1,q2,q3⟩:=hO.prog n F hF;have⟨cb,q4,_⟩:=SB q2;have fM:(callFunc (O.ab n) (fi++#[Value.func (.yield l) #[] #[]]++ca)).run O.P w1=.ok (.enter (O.ab n) (fi++#[Value.func (.yield l) #[] #[]]++ca)) w1:=JK q1 (by rw[q4];rfl) q3
   refine⟨l,mark,w1,{target:=.fn (.func (O.ab n)) ca,args:=fi++#[Value.func (.yield l) #[] #[]]},w1,O.ab n,fi++#[Value.func (.yield l) #[] #[]]++ca,w1,e1,?_,fun _ _=>trivial,?_,fun hd=>by simp[WF,Fence.wide] at hd,?_⟩
   .show Sem.run O.P (Deferred.ofValue (a.eval f) _) w1=_
    rw[hf];simp[Deferred.ofValue,Act.eval]
   .simp only [invoke];exact fM
   .rcases Vg with ⟨_,Vg⟩ | ⟨u,w',h1,_⟩
    case inr=>rw[fM] at h1;cases h1
    have atd:CallsIn (WF ro) 0 O.P (O.ab n) (fi++#[Value.func (.yield l) #[] #[]]++ca) w1 (Bb O (fL m s.ct ⟨l,0,0,0⟩) S w1 ((s.ct,.lp s.tm ps.toList as_ b' 0 .none)::s.hp) (s.ct+1) v aY qQ):=Vg;refine CallsIn.mono atd ?_;rintro e w3 ⟨u,m',S',rfl,k1,k2,k3,k4⟩;have jG:m' s.ct=F5 ⟨l,0,0,0⟩:=k4.old s.ct _ (yaC _) dI;have⟨r,MB,d1,d2,d3,d4,d5,d6,_⟩:=JX k1 HW jG;have sf:(r.state==LoopState.busy)=ydp:=by
     rw[d3];rcases st with _ | _ | st
     .rfl
     .simp_all
     .have:st=0:=by lia
      subst this;rfl
    have gV:=F8 w3 l (.loop {r with state:=.exhausted});have hdl:=abx k1 s.ct;have qP:¬er m' (c7 aY s.ct) l:=Zl k1 HW jG
    have z1:aT O m' S' {w3 with heap:=w3.heap.setIfInBounds l (.loop {r with state:=.exhausted})} (VE.c7 aY s.ct) qQ:=ZV hdl gV d2 qP (by have:=hh.gH;lia)
    have z2:cg m' S' w3 aY m' S' {w3 with heap:=w3.heap.setIfInBounds l (.loop {r with state:=.exhausted})} (VE.c7 aY s.ct) s.base:=by
     refine⟨rfl,rfl,rfl,by rw[gV.size];exact yx _,fun b _ hb=>gV.other b (fun e=>hb (e▸Ke HW jG)),fun _ h=>h,fun b hb=>gV.other b (fun e=>d2 (e▸hb)),fun b hb=>.inl hb,fun b hb=>.inl (acW hb),fun _ _ _ h=>h,fun b x hb=>?_⟩
     grind
    have V2:cg m S w s.hp m' S' {w3 with heap:=w3.heap.setIfInBounds l (.loop {r with state:=.exhausted})} (VE.c7 aY s.ct) s.base:=
     ((e3.As hb).trans (k4.As (by lia))).trans z2
    have PU:(Instr.endLoop l).run O.P w3=.ok (Bm pe) {w3 with heap:=w3.heap.setIfInBounds l (.loop {r with state:=.exhausted})}:=by
     simp only[Instr.endLoop,Sem.run_bind,Jp d1,Result.andThen_ok,sf,yD,xz,Sem.run_pure,NC (P:=O.P) d1 (fun _ _ _=>by simp),d5]
    have agr:Marks lo S' {w3 with heap:=w3.heap.setIfInBounds l (.loop {r with state:=.exhausted})} (mark++a.defers):=Cp k1 z2 (Cp e2 k4 e5)
    have zD:bT O m' S' {w3 with heap:=w3.heap.setIfInBounds l (.loop {r with state:=.exhausted})} s.tm a.tmps:=by
     refine Cn (fun id p hp=>?_) V2.sub (fun b hb=>V2.still b hb) ht;have h1:=hh.lt id p hp;exact k4.old id p (by lia) (hle id p hp)
    have post:∀XQ,s'={s with hp:=VE.c7 aY s.ct,ct:=qQ}->ex=XQ->eU O m S w s ex s' a.tmps.size lo (zc XQ) {a with defers:=mark++a.defers} {w3 with heap:=w3.heap.setIfInBounds l (.loop {r with state:=.exhausted})}:=by
     rintro XQ rfl rfl;exact⟨rfl,m',S',zD,z1,rfl,by show s.base<=qQ;lia,V2,rfl,agr⟩
    refine⟨_,_,PU,?_⟩
    cases pe with
    | none=>
     simp only[yc,ym] at hv;exact post .normal hv.2.symm hv.1.symm
    | ret=>
     simp only[yc,ym] at hv;exact wpIn_ret (post .ret hv.2.symm hv.1.symm)
    | exit id=>
     simp only[yc,ym] at hv;exact wpIn_exit (post (.exit id) hv.2.symm hv.1.symm)
end
end
def Le(f g:cu):Prop:=∀c s r,f c s=F5 r->g c s=F5 r
section
variable {P:aF}{L:Lib}{f g:cu}
def Sn(h:Le f g)(n:Nat)(aq:List AV)(r:AV)(hr:bW P L f n aq=F5 r):bW P L g n aq=F5 r:=by
 unfold bW at hr ⊢
 cases hL:L.pure n with
 | some sp=>simpa only[hL] using hr
 | none=>
  simp only[hL] at hr ⊢
  cases hP:P n with
  | none=>simp[hP] at hr
  | some F=>
   simp only[hP] at hr ⊢
   cases hf:f F.body ⟨fG 0 aq,[],0,0⟩ with
   | none=>simp[hf] at hr
   | some q=>rw[h _ _ _ hf];simpa only[hf] using hr
def SC(h:Le f g)(hp:Hp)(ct:Nat)(n:Nat)(aq:List AV)(r:AV×Hp×Nat)(hr:js P L f hp ct n aq=F5 r):js P L g hp ct n aq=F5 r:=by
 unfold js at hr ⊢
 cases hL:L.heap n with
 | some sp=>simpa only[hL] using hr
 | none=>
  simp only[hL] at hr ⊢
  cases hP:P n with
  | none=>simp[hP] at hr
  | some F=>
   simp only[hP] at hr ⊢
   cases hf:f F.body ⟨fG 0 aq,hp,ct,ct⟩ with
   | none=>simp[hf] at hr
   | some q=>rw[h _ _ _ hf];simpa only[hf] using hr
def Ze(h:Le f g)(hp:Hp)(ct:Nat)(l:Nat)(xs:List AV)(r:AV×Hp×Nat)(hr:ie f hp ct l xs=F5 r):ie g hp ct l xs=F5 r:=by
 unfold ie at hr ⊢
 cases hl:ak hp l with
 | none=>simp[hl] at hr
 | some o=>
  simp only[hl] at hr ⊢
  split at hr
  .rename_i tm ps as_ body pe zE
   cases hb:rD tm ps xs with
   | none=>simp[hb] at hr
   | some tm'=>
    simp only[hb] at hr ⊢
    cases h1:f as_ ⟨tm',hp,ct,ct⟩ with
    | none=>simp[h1] at hr
    | some q=>
     rw[h _ _ _ h1];simp only[h1] at hr ⊢
     split at hr
     .rename_i s1 ay6
      split at hr
      .rename_i gM qG Dl EQ oc ay7
       cases h2:f body ⟨s1.tm,aU s1.hp l (.lp gM qG Dl EQ 1 oc),s1.ct,s1.ct⟩ with
       | none=>simp[h2] at hr
       | some q2=>rw[h _ _ _ h2];simpa only[h2] using hr
      .simp at hr
     .simp at hr
  .simp at hr
def Zt(h:Le f g)(hp:Hp)(ct:Nat)(m:Md)(fv:AV)(xs:List AV)(r:AV×Hp×Nat)(hr:eR P L f hp ct m fv xs=F5 r):eR P L g hp ct m fv xs=F5 r:=by
 unfold eR at hr ⊢
 split at hr
 .rename_i n first cap
  cases m with
  | pure=>
   cases hz:cB deep hp (first++(xs++cap)) with
   | none=>simp[hz] at hr
   | some q=>
    simp only[hz] at hr ⊢
    cases hc:bW P L f n q.1 with
    | none=>simp[hc] at hr
    | some u=>rw[Sn h n q.1 u hc];simpa only[hc] using hr
  | own=>
   cases hz:cB deep hp (first++(xs++cap)) with
   | none=>simp[hz] at hr
   | some q=>
    simp only[hz] at hr ⊢
    cases hc:bW P L f n q.1 with
    | none=>simp[hc] at hr
    | some u=>rw[Sn h n q.1 u hc];simpa only[hc] using hr
  | heap=>exact SC h _ _ _ _ _ hr
  | dyn=>
   cases hz:aE (first++(xs++cap)) with
   | true=>
    simp only[hz,yu] at hr ⊢
    cases hc:bW P L f n (first++(xs++cap)) with
    | none=>simp[hc] at hr
    | some u=>rw[Sn h n _ u hc];simpa only[hc] using hr
   | false=>
    simp only[hz,yO] at hr ⊢;exact SC h _ _ _ _ _ hr
 .split at hr
  .exact Ze h _ _ _ _ _ hr
  .exact Ze h _ _ _ _ _ hr
  .simp at hr
 .simp at hr
def aaL(h:Le f g)(tm:Env)(hp:Hp)(ct:Nat)(o:Op)(r:AV×Hp×Nat)(hr:aX P L f tm hp ct o=F5 r):aX P L g tm hp ct o=F5 r:=by
 unfold aX at hr ⊢
 split at hr
 .exact Zt h _ _ _ _ _ _ hr
 .rename_i rs fv xs
  cases hc:eR P L f hp ct .dyn (ax tm fv) (dK tm xs) with
  | none=>simp[hc] at hr
  | some q=>rw[Zt h _ _ _ _ _ _ hc];simpa only[hc] using hr
 all_goals simpa only using hr
def ND(h:Le f g):∀(ops:List aS) (s s':St),de P L f ops s=F5 s'->de P L g ops s=F5 s'
 | [],s,s',hr=>by simpa only[de] using hr
 | ⟨d,gd,o⟩::r,s,s',hr=>by
  simp only[de] at hr ⊢
  split at hr
  .rename_i hw
   cases ho:aX P L f s.tm s.hp s.ct o with
   | none=>simp[ho] at hr
   | some q=>rw[aaL h _ _ _ _ _ ho];simp only[ho] at hr ⊢;exact ND h r _ _ hr
  .rename_i hw
   (try simp only[hw]);exact ND h r _ _ hr
  .simp at hr
def sM(h:Le f g):∀(c:VC) (s:St) (r:Ex×St),bz P L f c s=F5 r->bz P L g c s=F5 r
 | .skip,s,r,hr=>by simpa only[bz] using hr
 | .kQ ops,s,r,hr=>by
  simp only[bz] at hr ⊢
  cases ho:de P L f ops s with
  | none=>simp[ho] at hr
  | some s'=>rw[ND h _ _ _ ho];simpa only[ho] using hr
 | .seq a b,s,r,hr=>by
  simp only[bz] at hr ⊢
  cases ha:bz P L f a s with
  | none=>simp[ha] at hr
  | some q=>
   rw[sM h a s q ha];obtain⟨ex,s1⟩:=q
   cases ex with
   | normal=>simp only[ha] at hr ⊢;exact sM h b s1 r hr
   | ret=>simpa only[ha] using hr
   | exit id=>simpa only[ha] using hr
 | .cond x a b,s,r,hr=>by
  simp only[bz] at hr ⊢
  split at hr
  .rename_i t ht
   cases t with
   | true=>simp only[yu] at hr ⊢;exact sM h a s r hr
   | false=>simp only[yO] at hr ⊢;exact sM h b s r hr
  .simp at hr
 | .dE id a,s,r,hr=>by
  simp only[bz] at hr ⊢
  cases ha:bz P L f a s with
  | none=>simp[ha] at hr
  | some q=>rw[sM h a s q ha];simpa only[ha] using hr
 | .kp live,s,r,hr=>by simpa only[bz] using hr
 | .fz ts,s,r,hr=>by simpa only[bz] using hr
 | .loop live a,s,r,hr=>by
  simp only[bz] at hr ⊢
  cases ha:bz P L f a (bE live s) with
  | none=>simp[ha] at hr
  | some q=>
   rw[sM h a _ q ha];obtain⟨ex,s1⟩:=q
   cases ex with
   | normal=>simp only[ha] at hr ⊢;exact h _ _ _ hr
   | ret=>simpa only[ha] using hr
   | exit id=>simpa only[ha] using hr
 | .rf fv ps as_ body,s,r,hr=>by
  simp only[bz] at hr ⊢
  split at hr
  .rename_i n first cap hx
   split at hr
   .grind
   .rename_i hL
    cases hc:js P L f ((s.ct,.lp s.tm ps as_ body 0 .none)::s.hp) (s.ct+1) n (first++(.fn (.y s.ct) [] []::cap)) with
    | none=>simp[hc] at hr
    | some q=>rw[SC h _ _ _ _ _ hc];simpa only[hc] using hr
  .simp at hr
 | .exit id,s,r,hr=>by simpa only[bz] using hr
 | .ret,s,r,hr=>by simpa only[bz] using hr
end
def JY(P:aF)(L:Lib)(c:VC)(s:St):ev P L 0 c s=F6:=rfl
def OA(P:aF)(L:Lib)(n:Nat):ev P L (n+1)=bz P L (ev P L n):=rfl
def aeM(P:aF)(L:Lib):∀n,Le (ev P L n) (ev P L (n+1))
 | 0=>fun c s r h=>by rw[JY] at h;cases h
 | n+1=>fun c s r h=>by
  exact sM (aeM P L n) c s r h
def Up(P:aF)(L:Lib){n m:Nat}(h:n<=m):Le (ev P L n) (ev P L m):=by
 induction h with
 | refl=>exact fun _ _ _ h=>h
 | step _ ih=>exact fun c s r hr=>aeM P L _ c s r (ih c s r hr)
section
open Go
section
variable {ex:Ex}{lo n:Nat}{s:St}{w w':yk}
section
variable {O:bq}{self:cu}
def eU.none{m:Mp}{S:Nat->Prop}{s':St}{a:Act}(l:Nat):¬eU O m S w s ex s' n lo (.goto l) a w':=by
 rintro⟨h,_⟩;cases ex<;>cases h
def eU.then{m m1:Mp}{S S1:Nat->Prop}{w1:yk}{s1 s2:St}{a':Act}{e:uJ}{ex1:Ex}(h1:s1.base=s.base)(hf:cg m S w s.hp m1 S1 w1 s1.hp s.base)(h:eU O m1 S1 w1 s1 ex s2 n lo e a' w'):eU O m S w s ex s2 n lo e a' w':=by
 have⟨h2,m',S',k1,k2,k3,k4,k5,k6,k7⟩:=h;rw[h1] at k3 k4 k5;exact⟨h2,m',S',k1,k2,k3,k4,hf.trans k5,k6,k7⟩
def eU.cd{m:Mp}{S:Nat->Prop}{s1:St}{a':Act}{e:uJ}(live:List Nat)(h:eU O m S w s ex s1 n lo e a' w'):eU O m S w s ex (bE live s1) n lo e a' w':=by
 have⟨h2,m',S',k1,k2,k3,k4,k5,k6,k7⟩:=h;have⟨m2,g1,g2,g3,g4,g5⟩:=SO (live:=live) k1 k2 (by rw[k3];exact k4)
 rw[k3] at g3 g4 g5;exact⟨h2,m2,S',g1,g2,g3,g4,k5.trans g5,k6,Cp k2 g5 k7⟩
def aeN{m:Mp}{w:yk}{tmps:Array yh}:∀{ts:List Nat} {s s1:St} {S:Nat->Prop},bT O m S w s.tm tmps->aT O m S w s.hp s.ct->rH ts s=F5 s1->
  ∃S1,bT O m S1 w s1.tm tmps/\aT O m S1 w s1.hp s1.ct/\s1.base=s.base/\s1.ct=s.ct/\∀base,cg m S w s.hp m S1 w s1.hp base
 | [],s,s1,S,ht,hh,h=>by
  simp only[rH,yc] at h;subst h;exact⟨S,ht,hh,rfl,rfl,fun _=>cg.refl⟩
 | t::r,s,s1,S,ht,hh,h=>by
  simp only[rH] at h
  cases hz:freeze deep s.hp (aj s.tm t) with
  | none=>simp[hz] at h
  | some q=>
   have⟨v,hp⟩:=q;simp only[hz] at h;have⟨h1,h2,h3⟩:=Tc (O:=O) hz;have hg:jv s.hp s.ct hp s.ct:=⟨h1,yx _,fun id o ho=>(by
     have:=h2 id
     rw[ho] at this
     cases hq:ak s.hp id with
     | none=>rw[hq] at this;simp at this
     | some o'=>exact hh.aM id o' hq),fun id o ho _=>(by
     have:=h2 id
     rw[ho] at this
     cases hq:ak s.hp id with
     | none=>rw[hq] at this;simp at this
     | some o'=>exact⟨o',rfl⟩)⟩
   have⟨S',k1,k2,k3,k4⟩:=N9 hh hg;have zD:bT O m S' w ((t,v)::s.tm) tmps:=by
    intro i;simp only[aj]
    cases hb:yo t i with
    | true=>
     have:=yf hb
     subst this;exact (h3 hp m S' w s.ct cR.refl k1).1 _ (mN (fun _ _ h=>h) k2 (fun _ _=>rfl) _ _ (ht t))
    | false=>
     exact mN (fun _ _ h=>h) k2 (fun _ _=>rfl) _ _ (ht i)
   have⟨S1,g1,g2,g3,g4,g5⟩:=aeN (s:={s with tm:=(t,v)::s.tm,hp:=hp}) zD k1 h;exact⟨S1,g1,g2,g3,g4,fun base=>(k4 base).trans (g5 base)⟩
def ac2(hO:iK O)(n:Nat)(hC:∀k,k<=n->pW O (ev O.prog O.aI k))(h:Nat):∀(c:vA) (l k:Nat) (j:Nat),j<=n->∀(s:St) (ex:Ex) (s':St),
  bz O.prog O.aI (ev O.prog O.aI j) (comp O.P (O.hint h) c l k).1 s=F5 (ex,s')->CV O h c s ex s':=by
 have refl:∀{s:St} {ex:Ex} {m:Mp} {S:Nat->Prop} {w:yk} {a:Act} {lo:Nat},bT O m S w s.tm a.tmps->aT O m S w s.hp s.ct->s.base<=s.ct->Marks lo S w a.defers->eU O m S w s ex s a.tmps.size lo (zc ex) a w:=
  fun h1 h2 h3 h4=>⟨rfl,_,_,h1,h2,rfl,h3,cg.refl,rfl,h4⟩
 have V3:∀{self:cu} {s:St} {r:Ex×St},bz O.prog O.aI self (.kQ [⟨F6,F6,bad⟩]) s=F5 r->False:=by
  intro self s r hv;simp[bz,de,bad,aX,eR,ax] at hv
 intro c
 induction c with
 | skip=>
  intro l k j hj s ex s' hv ro lo m S w a cU ht hh hb hn aZ fC cA;simp only[comp,bz,yc,ym] at hv;obtain⟨rfl,rfl⟩:=hv;exact wpIn_skip (refl ht hh hb cA)
 | label x=>
  intro l k j hj s ex s' hv ro lo m S w a cU ht hh hb hn aZ fC cA;simp only[comp,bz,yc,ym] at hv;obtain⟨rfl,rfl⟩:=hv;exact wpIn_label (refl ht hh hb cA)
 | exit id=>
  intro l k j hj s ex s' hv ro lo m S w a cU ht hh hb hn aZ fC cA;simp only[comp,bz,yc,ym] at hv;obtain⟨rfl,rfl⟩:=hv
  exact wpIn_exit (refl (ex:=.exit id) ht hh hb cA)
 | ret=>
  intro l k j hj s ex s' hv ro lo m S w a cU ht hh hb hn aZ fC cA;simp only[comp,bz,yc,ym] at hv;obtain⟨rfl,rfl⟩:=hv
  exact wpIn_ret (refl (ex:=.ret) ht hh hb cA)
 | goto x=>intro l k j hj s ex s' hv;exact (V3 (by simpa only[comp] using hv)).elim
 | refuse x=>intro l k j hj s ex s' hv;exact (V3 (by simpa only[comp] using hv)).elim
 | region id ops d=>
  intro l k j hj s ex s' hv;simp only[comp] at hv;generalize hq:Oq O.P (O.hint h) ops d k=q at hv;have⟨r,k'⟩:=q;have main:∀{s s':St} {ex:Ex},bz O.prog O.aI (ev O.prog O.aI j) (.kQ r) s=F5 (ex,s')->CV O h (.region id ops d) s ex s':=by
   intro s s' ex hv;simp only[bz] at hv
   cases ho:de O.prog O.aI (ev O.prog O.aI j) r s with
   | none=>simp[ho] at hv
   | some s1=>
    simp only[ho,yc,ym] at hv;obtain⟨rfl,rfl⟩:=hv;exact atc hO (hC j hj) h id ops d k (by rw[hq];exact ho)
  simp only at hv
  split at hv
  .exact main hv
  .rename_i t ts _;simp only[bz] at hv
   cases hf:rH (t::ts) s with
   | none=>simp[hf] at hv
   | some s1=>
    simp only[hf] at hv;intro ro lo m S w a cU ht hh hb hn aZ fC cA;have⟨S1,g1,g2,g3,g4,g5⟩:=aeN ht hh hf;have h1:=main (s:=s1) (by simpa only[bz] using hv) ro lo m S1 w a cU g1 g2 (by rw[g3,g4];exact hb) hn aZ fC (Cp hh (g5 s.base) cA)
    refine wpIn_mono h1 (fun e a' w' hp=>?_)
    exact eU.then (ex1:=.normal) g3 (g5 s.base) hp
 | seq x y ihx ihy=>
  intro l k j hj s ex s' hv ro lo m S w a cU ht hh hb hn aZ fC cA;simp only[comp] at hv;generalize AP:comp O.P (O.hint h) x l k=qx at hv;have⟨x',l1,k1⟩:=qx;simp only at hv;generalize MC:comp O.P (O.hint h) y l1 k1=qy at hv;have⟨y',l2,k2⟩:=qy;simp only[bz] at hv
  cases hx:bz O.prog O.aI (ev O.prog O.aI j) x' s with
  | none=>simp[hx] at hv
  | some r=>
   have⟨ex1,s1⟩:=r;have h1:=ihx l k j hj s ex1 s1 (by rw[AP];exact hx) ro lo m S w a cU ht hh hb hn aZ fC cA
   refine wpIn_seq (wpIn_mono h1 ?_);rintro e a1 w1 ⟨rfl,m1,S1,g1,g2,g3,g4,g5,g6,g7⟩;have stop:ex1≠.normal->ex=ex1/\s'=s1:=by
    intro eK;rw[hx] at hv
    cases ex1 with
    | normal=>exact absurd rfl eK
    | ret=>simp only[yc,ym] at hv;exact⟨hv.1.symm,hv.2.symm⟩
    | exit id=>simp only[yc,ym] at hv;exact⟨hv.1.symm,hv.2.symm⟩
   cases ex1 with
   | normal=>
    simp only[hx] at hv;simp only[zc,Exit.then];have h2:=ihy l1 k1 j hj s1 ex s' (by rw[MC];exact hv) ro lo m1 S1 w1 a1 (NU g5 cU) g1 g2 (by rw[g3];exact g4) (by rw[g6];exact hn) aZ (xu fC g5.size) g7
    rw[g6] at h2
    exact wpIn_mono h2 (fun e a' w' hp=>eU.then (ex1:=.normal) g3 g5 hp)
   | ret=>
    obtain⟨rfl,rfl⟩:=stop (by simp);exact⟨rfl,m1,S1,g1,g2,g3,g4,g5,g6,g7⟩
   | exit id=>
    obtain⟨rfl,rfl⟩:=stop (by simp);exact⟨rfl,m1,S1,g1,g2,g3,g4,g5,g6,g7⟩
 | cond x p q ihp ihq=>
  intro l k j hj s ex s' hv ro lo m S w a cU ht hh hb hn aZ fC cA;simp only[comp] at hv;generalize AP:comp O.P (O.hint h) p (l+1) k=qx at hv;have⟨p',l1,k1⟩:=qx;simp only at hv;generalize MC:comp O.P (O.hint h) q l1 k1=qy at hv;have⟨q',l2,k2⟩:=qy;simp only at hv;have main:∀(ex:Ex) (s':St),bz O.prog O.aI (ev O.prog O.aI j) (.cond (aJ (O.hint h) x) p' q') s=F5 (ex,s')->(Code.cond x p q).wpIn (WF ro) 0 O.P (eU O m S w s ex s' a.tmps.size lo) a w:=by
   intro ex s' hv;simp only[bz] at hv;have rx:=bX (hO.hint h) ht x
   split at hv
   .rename_i t hx;rw[hx] at rx;simp only[ae] at rx
    cases t with
    | true=>
     simp only[yu] at hv;exact wpIn_cond_true rx (ihp (l+1) k j hj s ex s' (by rw[AP];exact hv) ro lo m S w a cU ht hh hb hn aZ fC cA)
    | false=>
     simp only[yO] at hv;exact wpIn_cond_false rx (ihq l1 k1 j hj s ex s' (by rw[MC];exact hv) ro lo m S w a cU ht hh hb hn aZ fC cA)
   .cases hv
  cases G9:(O.hint h).out l with
  | none=>rw[G9] at hv;exact main ex s' hv
  | some live=>
   rw[G9] at hv;simp only at hv;rw[show bz O.prog O.aI (ev O.prog O.aI j) (.seq (.cond (aJ (O.hint h) x) p' q') (.kp live)) s=match bz O.prog O.aI (ev O.prog O.aI j) (.cond (aJ (O.hint h) x) p' q') s with | some (.normal,s1)=>F5 (.normal,bE live s1) | r=>r from rfl] at hv
   cases hx:bz O.prog O.aI (ev O.prog O.aI j) (.cond (aJ (O.hint h) x) p' q') s with
   | none=>simp[hx] at hv
   | some r=>
    have⟨ex1,s1⟩:=r;have h1:=main ex1 s1 hx;rw[hx] at hv
    cases ex1 with
    | normal=>
     simp only[yc,ym] at hv;obtain⟨rfl,rfl⟩:=hv;exact wpIn_mono h1 (fun e a' w' hp=>eU.cd live hp)
    | ret=>simp only[yc,ym] at hv;obtain⟨rfl,rfl⟩:=hv;exact h1
    | exit id=>simp only[yc,ym] at hv;obtain⟨rfl,rfl⟩:=hv;exact h1
 | block id x ih=>
  intro l k j hj s ex s' hv ro lo m S w a cU ht hh hb hn aZ fC cA;simp only[comp] at hv;generalize AP:comp O.P (O.hint h) x l k=qx at hv;have⟨x',r⟩:=qx;simp only at hv;have main:∀(ex:Ex) (s':St),bz O.prog O.aI (ev O.prog O.aI j) (.dE id x') s=F5 (ex,s')->(Code.block id x).wpIn (WF ro) 0 O.P (eU O m S w s ex s' a.tmps.size lo) a w:=by
   intro ex s' hv;simp only[bz] at hv
   cases hx:bz O.prog O.aI (ev O.prog O.aI j) x' s with
   | none=>simp[hx] at hv
   | some q=>
    have⟨ex1,s1⟩:=q;have h1:=ih l k j hj s ex1 s1 (by rw[AP];exact hx) ro lo m S w a cU ht hh hb hn aZ fC cA
    refine wpIn_block (wpIn_mono h1 ?_);rintro e a1 w1 ⟨rfl,g⟩
    cases ex1 with
    | normal=>
     simp only[hx,yc,ym] at hv;obtain⟨rfl,rfl⟩:=hv;exact⟨rfl,g⟩
    | ret=>
     simp only[hx,yc,ym] at hv;obtain⟨rfl,rfl⟩:=hv;exact⟨rfl,g⟩
    | exit i=>
     simp only[hx] at hv
     cases Rl:yo i id with
     | true=>
      rw[Rl] at hv;simp only[yu,yc,ym] at hv;obtain⟨rfl,rfl⟩:=hv
      have:=yf Rl
      subst this;simp only[zc,Exit.inBlock,xJ];exact⟨rfl,g⟩
     | false=>
      rw[Rl] at hv;simp only[yO,yc,ym] at hv;obtain⟨rfl,rfl⟩:=hv;have eK:i≠id:=fun e=>by subst e;simp at Rl
      simp only[zc,Exit.inBlock,eK,xz];exact⟨rfl,g⟩
  have aw4:∀live:List Nat,bz O.prog O.aI (ev O.prog O.aI j) (.seq (.dE id x') (.kp live)) s=F5 (ex,s')->(Code.block id x).wpIn (WF ro) 0 O.P (eU O m S w s ex s' a.tmps.size lo) a w:=by
   intro live hv;rw[show bz O.prog O.aI (ev O.prog O.aI j) (.seq (.dE id x') (.kp live)) s=match bz O.prog O.aI (ev O.prog O.aI j) (.dE id x') s with | some (.normal,s1)=>F5 (.normal,bE live s1) | r=>r from rfl] at hv
   cases hx:bz O.prog O.aI (ev O.prog O.aI j) (.dE id x') s with
   | none=>simp[hx] at hv
   | some r=>
    have⟨ex1,s1⟩:=r;have h1:=main ex1 s1 hx;rw[hx] at hv
    cases ex1 with
    | normal=>
     simp only[yc,ym] at hv;obtain⟨rfl,rfl⟩:=hv;exact wpIn_mono h1 (fun e a' w' hp=>eU.cd live hp)
    | ret=>simp only[yc,ym] at hv;obtain⟨rfl,rfl⟩:=hv;exact h1
    | exit id=>simp only[yc,ym] at hv;obtain⟨rfl,rfl⟩:=hv;exact h1
  split at hv
  .exact aw4 _ hv
  .exact main ex s' hv
 | loop x ih=>
  intro l k j hj s ex s' hv;simp only[comp] at hv;generalize AP:comp O.P (O.hint h) x (l+1) k=qx at hv;have⟨x',r⟩:=qx;simp only at hv;have rounds:∀(j:Nat),j<=n->∀(s:St) (ex:Ex) (s':St),bz O.prog O.aI (ev O.prog O.aI j) (.loop ((O.hint h).live l) x') s=F5 (ex,s')->∃K,∀(ro:Option Nat) (lo:Nat) (m:Mp) (S:Nat->Prop) (w:yk) (a:Act),Bn ro w->bT O m S w s.tm a.tmps->aT O m S w s.hp s.ct->s.base<=s.ct->(O.hint h).n<=a.tmps.size->O.w0.heap.size<=lo->lo<=w.heap.size->Marks lo S w a.defers->
    Code.roundsIn (WF ro) 0 O.P x (eU O m S w s ex s' a.tmps.size lo) K a w:=by
   intro j
   induction j with
   | zero=>
    intro hj s ex s' hv;simp only[bz] at hv
    cases hx:bz O.prog O.aI (ev O.prog O.aI 0) x' (bE ((O.hint h).live l) s) with
    | none=>simp[hx] at hv
    | some q=>
     have⟨ex1,s1⟩:=q;have stop:ex1≠.normal->ex=ex1/\s'=s1:=by
      intro eK;rw[hx] at hv
      cases ex1 with
      | normal=>exact absurd rfl eK
      | ret=>simp only[yc,ym] at hv;exact⟨hv.1.symm,hv.2.symm⟩
      | exit id=>simp only[yc,ym] at hv;exact⟨hv.1.symm,hv.2.symm⟩
     refine⟨1,fun ro lo m S w a cU ht hh hb hn aZ fC cA=>?_⟩;rw[roundsIn_succ];have⟨m1,c1,c2,c3,c4,c5⟩:=SO (live:=(O.hint h).live l) ht hh hb;have h1:=ih (l+1) k 0 hj _ ex1 s1 (by rw[AP];exact hx) ro lo m1 S w a cU c1 c2 (by rw[c3];exact c4) hn aZ fC cA
     refine wpIn_mono h1 ?_;rintro e a1 w1 hp;have an:=eU.then (O:=O) (m:=m) (S:=S) (w:=w) (s:=s) (ex1:=.normal) c3 c5 hp;obtain⟨rfl,_⟩:=hp
     cases ex1 with
     | normal=>simp only[hx,JY] at hv;cases hv
     | ret=>obtain⟨rfl,rfl⟩:=stop (by simp);exact an
     | exit id=>obtain⟨rfl,rfl⟩:=stop (by simp);exact an
   | succ j ihj=>
    intro hj s ex s' hv;simp only[bz] at hv
    cases hx:bz O.prog O.aI (ev O.prog O.aI (j+1)) x' (bE ((O.hint h).live l) s) with
    | none=>simp[hx] at hv
    | some q=>
     have⟨ex1,s1⟩:=q;have stop:ex1≠.normal->ex=ex1/\s'=s1:=by
      intro eK;rw[hx] at hv
      cases ex1 with
      | normal=>exact absurd rfl eK
      | ret=>simp only[yc,ym] at hv;exact⟨hv.1.symm,hv.2.symm⟩
      | exit id=>simp only[yc,ym] at hv;exact⟨hv.1.symm,hv.2.symm⟩
     have more:∃K,ex1=.normal->∀(ro:Option Nat) (lo:Nat) (m:Mp) (S:Nat->Prop) (w:yk) (a:Act),Bn ro w->bT O m S w s1.tm a.tmps->aT O m S w s1.hp s1.ct->s1.base<=s1.ct->(O.hint h).n<=a.tmps.size->O.w0.heap.size<=lo->lo<=w.heap.size->Marks lo S w a.defers->
       Code.roundsIn (WF ro) 0 O.P x (eU O m S w s1 ex s' a.tmps.size lo) K a w:=by
      cases ex1 with
      | normal=>
       rw[hx] at hv;have eV:ev O.prog O.aI (j+1) (.loop ((O.hint h).live l) x') s1=F5 (ex,s'):=hv;rw[OA] at eV;have⟨K,hK⟩:=ihj (by lia) s1 ex s' eV;exact⟨K,fun _=>hK⟩
      | ret=>exact⟨0,fun h=>by cases h⟩
      | exit id=>exact⟨0,fun h=>by cases h⟩
     have⟨K,hK⟩:=more;refine⟨K+1,fun ro lo m S w a cU ht hh hb hn aZ fC cA=>?_⟩;rw[roundsIn_succ];have⟨m1,c1,c2,c3,c4,c5⟩:=SO (live:=(O.hint h).live l) ht hh hb;have h1:=ih (l+1) k (j+1) hj _ ex1 s1 (by rw[AP];exact hx) ro lo m1 S w a cU c1 c2 (by rw[c3];exact c4) hn aZ fC cA
     refine wpIn_mono h1 ?_;rintro e a1 w1 hp;have an:=eU.then (O:=O) (m:=m) (S:=S) (w:=w) (s:=s) (ex1:=.normal) c3 c5 hp;obtain⟨rfl,_⟩:=hp
     cases ex1 with
     | normal=>
      simp only[zc,Exit.then];have⟨_,m2,S2,g1,g2,g3,g4,g5,g6,g7⟩:=an;have h2:=hK rfl ro lo m2 S2 w1 a1 (NU g5 cU) g1 g2 (by rw[g3];exact g4) (by rw[g6];exact hn) aZ (xu fC g5.size) g7
      rw[g6] at h2;revert h2;generalize hA:a.tmps.size=sz;intro h2;have step:∀(K:Nat) (a':Act) (w':yk),Code.roundsIn (WF ro) 0 O.P x (eU O m2 S2 w1 s1 ex s' sz lo) K a' w'->Code.roundsIn (WF ro) 0 O.P x (eU O m S w s ex s' sz lo) K a' w':=by
       intro K
       induction K with
       | zero=>intro a' w' Dw;exact Dw
       | succ K ihK=>
        intro a' w' Dw;rw[roundsIn_succ] at Dw ⊢;refine wpIn_mono Dw (fun e a'' Q9 hq=>?_)
        cases e with
        | normal=>exact ihK a'' Q9 hq
        | exit id=>exact eU.then (ex1:=.normal) g3 g5 hq
        | goto x=>exact eU.then (ex1:=.normal) g3 g5 hq
        | ret=>exact eU.then (ex1:=.normal) g3 g5 hq
        | panic x=>exact eU.then (ex1:=.normal) g3 g5 hq
        | outgrown=>exact eU.then (ex1:=.normal) g3 g5 hq
      exact step K a1 w1 h2
     | ret=>obtain⟨rfl,rfl⟩:=stop (by simp);exact an
     | exit id=>obtain⟨rfl,rfl⟩:=stop (by simp);exact an
  have⟨K,hK⟩:=rounds j hj s ex s' hv;intro ro lo m S w a cU ht hh hb hn aZ fC cA;exact wpIn_loop_rounds K (hK ro lo m S w a cU ht hh hb hn aZ fC cA)
 | scope x ih=>
  intro l k j hj s ex s' hv ro lo m S w a cU ht hh hb hn aZ fC cA;simp only[comp] at hv;exact alp (ih l k j hj s ex s' hv ro lo m S w a cU ht hh hb hn aZ fC cA) (fun l a w=>eU.none l)
 | rangeFunc f ps as_ body iha ihb=>
  intro l k j hj s ex s' hv;simp only[comp] at hv;generalize AP:comp O.P (O.hint h) as_ l k=qx at hv;have⟨x',l1,k1⟩:=qx;simp only at hv;generalize MC:comp O.P (O.hint h) body l1 k1=qy at hv;have⟨y',l2,k2⟩:=qy;simp only at hv
  cases ha:Bs (O.hint h).n ps.toList with
  | false=>rw[ha] at hv;exact (V3 hv).elim
  | true=>
   rw[ha] at hv;exact aw3 hO (hC j hj) ⟨l,k,by rw[AP]⟩ ⟨l1,k1,by rw[MC]⟩ ha hv
end
end
end
section
open Go
section
variable {v:AV}{args:Array yh}{aq:List AV}{n:Nat}{s:St}
section
variable {O:bq}{m:Mp}{S:Nat->Prop}{w:yk}
def aaM:∀(aq:List AV) (j i:Nat),aj (fG j aq) (j+i)=aq.getD i .undef
 | [],j,i=>by simp[fG,aj]
 | v::r,j,i=>by
  cases i with
  | zero=>simp[fG,aj]
  | succ i=>
   simp only[fG,aj];have hb:yo j (j+(i+1))=ydp:=by
    cases hq:yo j (j+(i+1)) with
    | false=>rfl
    | true=>have:=yf hq;lia
   rw[hb,show j+(i+1)=j+1+i by lia];rw[aaM r (j+1) i]
   simp
def aaN(n:Nat)(h:aB O.ab m S w aq args.toList):bT O m S w (fG 0 aq) (args++uK n undef):=by
 intro i
 have:=aaM aq 0 i
 rw[yd] at this;rw[this,yS]
 cases hv:aq[i]? with
 | none=>simp only[Option.getD_none,ae]
 | some v=>
  have⟨u,h1,h2⟩:=TC h hv;have hl:i<args.size:=by
   grind
  have:(args++uK n undef).getD i undef=u:=by
   rw[wj,yaO hl]
   grind
  grind
def Hb(tmps:Array yh):ycV->Sem yh
 | .tmp t=>pure (tmps.getD t undef)
 | .cell a t=>do loadVar t (<-asAddr (tmps.getD a undef))
def alq(fn:ybe)(tmps:Array yh):results fn tmps=(do let vs <-fn.results.mapM (Hb tmps);pure (if h:vs.size=1 then vs[0] else .tuple vs)):=by
 rfl
def SQ{s:St}{ct:Nat}{tmps:Array yh}(hh:aT O m S w s.hp ct)(ht:bT O m S w s.tm tmps):∀{rs:List ycV} {rv:List RV} {vs:List AV},ru O.P rs=F5 rv->mM s rv=F5 vs->
  ∃us,(rs.mapM (Hb tmps)).run O.P w=.ok us w/\aB O.ab m S w vs us
 | [],rv,vs,h1,h2=>by
  simp only[ru,yc] at h1;subst h1;simp only[mM,yc] at h2;subst h2;exact⟨[],by simp,by simp[aB]⟩
 | .tmp t::rs,rv,vs,h1,h2=>by
  simp only[ru] at h1
  cases hc:ru O.P rs with
  | none=>simp[hc] at h1
  | some l=>
   simp only[hc,yc] at h1;subst h1;simp only[mM,results1] at h2
   cases hl:mM s l with
   | none=>simp[hl] at h2
   | some Mj=>
    simp only[hl,yc] at h2;subst h2;have⟨us,g1,g2⟩:=SQ hh ht hc hl;refine⟨tmps.getD t undef::us,?_,by simp only[aB];exact⟨_,_,rfl,ht t,g2⟩⟩
    rw[uU];simp only[Hb,Sem.run_bind,Sem.run_pure,Result.andThen_ok];rw[g1];rfl
 | .cell a t::rs,rv,vs,h1,h2=>by
  simp only[ru] at h1
  cases hz:cy O.P t with
  | none=>simp[hz] at h1
  | some sz=>
   cases AI:dB O.P t with
   | none=>simp[hz,AI] at h1
   | some ag=>
    cases hc:ru O.P rs with
    | none=>simp[hz,AI,hc] at h1
    | some l=>
     simp only[hz,AI,hc,yc] at h1;subst h1;simp only[mM] at h2
     cases et:results1 s (.cell a sz ag) with
     | none=>simp[et] at h2
     | some v=>
      cases hl:mM s l with
      | none=>simp[et,hl] at h2
      | some Mj=>
       simp only[et,hl,yc] at h2;subst h2;have⟨us,g1,g2⟩:=SQ hh ht hc hl;have ra:=ht a;have key:∃b o u,tmps.getD a undef=.pointer (F5 ⟨b,o,F6⟩)/\(loadVar t ⟨b,o,F6⟩).run O.P w=.ok u w/\ae O.ab m S w v u:=by
        simp only[results1] at et;cases MD:aj s.tm a<;>rw[MD] at et ra<;>simp only[reduceCtorEq] at et
        .rename_i id o;simp only[ae] at ra;have⟨p,hm,hp⟩:=ra
         cases hg:ak s.hp id with
         | none=>simp[hg] at et
         | some ob=>
          cases ob<;>simp only[hg,reduceCtorEq] at et
          have XR:=TB (o:=0) (n:=0) hh hg hm;have⟨u,q1,q2⟩:=Ou hz AI (sN o _ p.b p.o XR) et;exact⟨p.b,p.o+o,u,hp,q1,q2⟩
        .rename_i cs;simp only[ae] at ra;have⟨b,o,hp,_,_,XR⟩:=ra;have⟨u,q1,q2⟩:=Ou hz AI XR et;exact⟨b,o,u,hp,q1,q2⟩
       have⟨b,o,u,q1,q2,q3⟩:=key;refine⟨u::us,?_,by simp only[aB];exact⟨_,_,rfl,q3,g2⟩⟩
       rw[uU]
       have:(Hb tmps (.cell a t)).run O.P w=.ok u w:=by
        simp only[Hb];rw[q1];simp[asAddr,q2]
       rw[Sem.run_bind,this,Result.andThen_ok,Sem.run_bind,g1];rfl
def akK{ct:Nat}{tmps:Array yh}{fn:ybe}{rv:List RV}(hh:aT O m S w s.hp ct)(ht:bT O m S w s.tm tmps)(h1:ru O.P fn.results.toList=F5 rv)(h2:jo s rv=F5 v):
  ∃u,(results fn tmps).run O.P w=.ok u w/\ae O.ab m S w v u:=by
 unfold jo at h2
 cases hl:mM s rv with
 | none=>simp[hl] at h2
 | some vs=>
  have⟨us,g1,g2⟩:=SQ hh ht h1 hl;have hlen:=ic _ _ g2;have hm:(fn.results.mapM (Hb tmps)).run O.P w=.ok us.toArray w:=by
   rw[Array.mapM_eq_mapM_toList];simp[g1]
  have dV:(results fn tmps).run O.P w=.ok (if h:us.toArray.size=1 then us.toArray[0] else .tuple us.toArray) w:=by
   rw[alq,Sem.run_bind,hm];rfl
  rw[hl] at h2
  split at h2
  .rename_i v' zE;simp only[yc] at zE h2;subst zE;simp only[aB] at g2
   grind
  .rename_i eF eK zE;simp only[yc] at zE h2;subst zE;subst h2;have h1:¬us.toArray.size=1:=by
    intro h
    have:vs.length=1:=by simp_all
    cases vs with
    | nil=>simp at this
    | cons x t=>
     cases t with
     | nil=>exact eK x rfl
     | cons y t=>simp at this
   simp only[ae]
   grind
  .grind
def Ti{s:St}{tmps:Array yh}{fn:ybe}{rv:List RV}{v:AV}{m0:Mp}{S0:Nat->Prop}{w0:yk}{hp0:Hp}{Rn:Nat}(h1:ru O.P fn.results.toList=F5 rv)(h2:jo s rv=F5 v)(fw:Rn<=s.ct):∀(rs:List Nat) (w:yk),
  rs.Nodup->(∀r,r∈rs->w.heap[r]? =F5 (.deferred (F5 []))/\¬S r/\w0.heap.size<=r)->O.w0.heap.size<=w0.heap.size->aT O m S w s.hp s.ct->bT O m S w s.tm tmps->cg m0 S0 w0 hp0 m S w s.hp Rn->
  ycX Fence.wide 0 O.P fn tmps (Bb O m0 S0 w0 hp0 Rn v s.hp s.ct) (rs.map (fun r=>{target:=.collected r,args:=#[]})) .returning w
 | [],w,_,_,_,hh,ht,hf=>by
  have⟨u,g1,g2⟩:=akK hh ht h1 h2;exact⟨u,g1,u,m,S,rfl,hh,fw,g2,hf⟩
 | r::rs,w,mC,hr,aZ,hh,ht,hf=>by
  have⟨lU,cE⟩:=List.nodup_cons.1 mC;have⟨a1,a2,a3⟩:=hr r vj;have gV:=F8 w r (.deferred F6);have qP:¬er m s.hp r:=fun ho=>abB hh ho _ a1
  have Dw:=ZV hh gV a2 qP (xu aZ a3)
  have aR:gh S w {w with heap:=w.heap.setIfInBounds r (.deferred F6)}:=fun b hb=>gV.other b (fun e=>a2 (e▸hb))
  have jH:cg m0 S0 w0 hp0 m S {w with heap:=w.heap.setIfInBounds r (.deferred F6)} s.hp Rn:=by
   refine⟨hf.os,hf.tape,hf.output,by rw[gV.size];exact hf.size,fun b hb ho=>(gV.other b (by lia)).trans (hf.same b hb ho),hf.sub,fun b hb=>(gV.other b (fun e=>a2 (e▸hf.sub b hb))).trans (hf.still b hb),hf.new,hf.own,hf.old,fun b x hb=>?_⟩
   have⟨x',hx⟩:=hf.loops b x hb;exact⟨x',(gV.other b (fun e=>by subst e;rw[a1] at hx;cases hx)).trans hx⟩
  refine⟨by simp,.inl ⟨r,_,rfl,?_,Ti h1 h2 fw rs _ cE (fun r' bB=>?_) aZ Dw (Cn (fun _ _ h=>h) (fun _ h=>h) aR ht) jH⟩⟩
  .simp only [Instr.takeDeferred,Sem.run_bind,ZW (P:=O.P) a1 (fun _ _ _=>by simp),Result.andThen_ok,NC (P:=O.P) a1 (fun _ _ _=>by simp),Sem.run_pure]
  .have ⟨b1,b2,b3⟩:=hr r' (wJ _ bB);exact⟨(gV.other r' (fun e=>lU (e▸bB))).trans b1,b2,b3⟩
end
section
variable {O:bq}{self:cu}
def aw5(hO:iK O)(hS:∀v s ex s',self v s=F5 (ex,s')->∀c h l k,(comp O.P (O.hint h) c l k).1=v->CV O h c s ex s'){F:aD}(hF:O.prog n=F5 F){hp:Hp}{ct:Nat}{ex:Ex}(hv:self F.body ⟨fG 0 aq,hp,ct,ct⟩=F5 (ex,s))(hex:ex=.normal\/ex=.ret)(hr:jo s F.dX=F5 v):CU O n hp ct aq v s.hp s.ct:=by
 intro m S w args hh eI;have⟨fn,q1,q2,q3⟩:=hO.prog n F hF;have⟨c,q4,q5,q6,q7⟩:=SB q2;refine .inl ⟨JK q1 (by rw[q4];rfl) q3,?_⟩
 have hc:=hS _ _ _ _ hv c n 0 0 q5.symm;have hw:=hc F6 w.heap.size m S w {tmps:=args++uK (fn.ntmps-args.size) undef,defers:=[]} (fun l hl=>by cases hl) (aaN _ eI) hh (yx _) (by simp;lia) hh.gH (yx _) ⟨[],rfl,by simp,by simp⟩
 refine callsIn_of_wp_marks (F:=Fence.wide) q1 q4 trivial (wpIn_mono hw ?_);rintro e a' w' ⟨rfl,m',S',k1,k2,k3,k4,k5,k6,rs,k7,k8,k9⟩;have main:ycX Fence.wide 0 O.P fn a'.tmps (Bb O m S w hp ct v s.hp s.ct) a'.defers .returning w':=by
  rw[k7];exact Ti q6 hr k4 rs w' k8 k9 hh.gH k2 k1 k5
 rcases hex with rfl | rfl
 .exact main
 .exact main
def Cx.mono{P:xy}{f:yal}{w:yk}{R R':ybq->yk->Prop}(h:Cx P f args w R)(hr:∀e w',R e w'->R' e w'):Cx P f args w R':=by
 rcases h with ⟨h1,h2⟩ | ⟨u,w',h1,h2⟩
 .exact .inl ⟨h1,CallsIn.mono h2 hr⟩
 .exact .inr ⟨u,w',h1,hr _ _ h2⟩
def amp{w:yk}{S:Nat->Prop}(hg:CT O w)(hs:∀b,S b->b<w.heap.size):aT O ff S w [] 0:=
 ⟨(fun id o p h _=>by simp[ak] at h),(fun id p h=>by cases h),(fun i j oi oj pi pj h=>by simp[ak] at h),hs,(fun id p h=>by cases h),(fun id p h=>by cases h),hg.1,hg.2,(fun id o h=>by simp[ak] at h)⟩
def TN{b:Nat}(h:er ff [] b):False:=by
 have⟨_,_,_,h,_⟩:=h;simp[ak] at h
def Ss{r:AV}(h:CU O n [] 0 aq v s.hp s.ct)(hr:result s.hp v=F5 r):eD O n aq r:=by
 intro w S args hg hs eI hp;refine Cx.mono (h ff S w args (amp hg hs) eI) ?_;rintro e w' ⟨u,m',S',rfl,k1,k2,k3,k4⟩;have aZ:∀b,er m' s.hp b->w.heap.size<=b:=fun b hb=>(k4.own b hb).elim (fun h=>(TN h).elim) (fun h=>h)
 have⟨S2,g1,g2,g3,g4⟩:=amf (lo:=w.heap.size) k1 hr k3 aZ;refine⟨u,S2,rfl,⟨k4.os,k4.tape,k4.output,k4.size,fun b hb=>k4.same b hb TN⟩,fun b hb=>g1 b (k4.sub b hb),fun b hb=>?_,g3,g4⟩;rcases g2 b hb with h | h
 .rcases k4.new b h with h | h | h
  .exact .inl h
  .exact (TN h).elim
  .exact .inr h
 .exact .inr (aZ b h)
def alr(hO:iK O)(hS:∀v s ex s',self v s=F5 (ex,s')->∀c h l k,(comp O.P (O.hint h) c l k).1=v->CV O h c s ex s'):pW O self:=by
 have heap:∀(n:Nat) (F:aD),O.prog n=F5 F->∀(hp:Hp) (ct:Nat) (aq:List AV) (ex:Ex) (s:St) (v:AV),self F.body ⟨fG 0 aq,hp,ct,ct⟩=F5 (ex,s)->(ex=.normal\/ex=.ret)->jo s F.dX=F5 v->CU O n hp ct aq v s.hp s.ct:=
  fun n F hF hp ct aq ex s v h1 h2 h3=>aw5 hO hS hF h1 h2 h3
 refine⟨?_,?_,fun hp ct l xs v an aH hv=>aoj hS hv⟩
 .intro n aq r hv;unfold bW at hv
  cases hL:O.aI.pure n with
  | some sp=>rw[hL] at hv;exact hO.aI n sp aq r hL hv
  | none=>
   simp only[hL] at hv
   cases hF:O.prog n with
   | none=>simp[hF] at hv
   | some F=>
    simp only[hF] at hv
    split at hv
    .rename_i s hb
     cases hr:jo s F.dX with
     | none=>simp[hr] at hv
     | some v=>simp only[hr] at hv;exact Ss (heap n F hF [] 0 aq .normal s v hb (.inl rfl) hr) hv
    .rename_i s hb
     cases hr:jo s F.dX with
     | none=>simp[hr] at hv
     | some v=>simp only[hr] at hv;exact Ss (heap n F hF [] 0 aq .ret s v hb (.inr rfl) hr) hv
    .cases hv
 .intro hp ct n aq v an aH hv;unfold js at hv
  cases hL:O.aI.heap n with
  | some sp=>rw[hL] at hv;exact hO.G6 n sp hp ct aq v an aH hL hv
  | none=>
   simp only[hL] at hv
   cases hF:O.prog n with
   | none=>simp[hF] at hv
   | some F=>
    grind
def Zu(hO:iK O):∀n,pW O (ev O.prog O.aI n):=by
 intro n
 induction n using vT with
 | _ n ih=>
  refine alr hO (fun v s ex s' hv c h l k hc=>?_)
  cases n with
  | zero=>rw[JY] at hv;cases hv
  | succ n=>
   rw[OA,<-hc] at hv;exact ac2 hO n (fun k hk=>ih k (by lia)) h c l k n (yx _) s ex s' hv
def sound(hO:iK O){f:Nat}{r:AV}(h:Xq O.prog O.aI n f aq=F5 r):eD O f aq r:=(Zu hO n).pure f aq r h
end
end
end
def iq:List Nat->List Nat->Bool
 | [],_=>ydo
 | a::x,b::y=>yo a b&&iq x y
 | _::_,[]=>ydp
def nM(sub:List Nat):List Nat->Nat->Option Nat
 | [],k=>bif iq sub [] then F5 k else F6
 | b::r,k=>bif iq sub (b::r) then F5 k else nM sub r (k+1)
def PV:List AV->Option AV
 | [.str s,.str sep]=>
  bif yM s.length 4294967281 then
   match nM sep s 0 with
   | some i=>F5 (.aw [.str (s.take i),.str (s.drop (i+sep.length)),.bool ydo])
   | none=>F5 (.aw [.str s,.str [],.bool ydp])
  else F6
 | _=>F6
def NE:List AV->Option AV
 | [.str s,.str p]=>F5 (bif iq p s then .aw [.str (s.drop p.length),.bool ydo] else .aw [.str s,.bool ydp])
 | _=>F6
def NF:List AV->Option AV
 | [.str s,.str p]=>F5 (.bool (iq p s))
 | _=>F6
def Ns:List AV->Option AV
 | [.str s,.str p]=>F5 (.str (bif iq p s then s.drop p.length else s))
 | _=>F6
def Hc(i:Nat):List Nat->Bool
 | []=>ydp
 | j::r=>bif yo j i then ydo else Hc i r
def mu(set:List Nat):List Nat->List Nat
 | []=>[]
 | b::r=>bif Hc b set then mu set r else b::r
def Gy:List Nat->Bool
 | []=>ydo
 | b::r=>yM b 128&&Gy r
def trimS:List AV->Option AV
 | [.str s,.str set]=>bif Gy set&&(yM s.length 4294967281&&yM set.length 4294967281) then F5 (.str (mu set (mu set s.reverse).reverse)) else F6
 | _=>F6
def iR(s:List Nat):Nat->List Nat
 | 0=>[]
 | n+1=>s++iR s n
def Cy:List AV->Option AV
 | [.str s,.int .i64 (.ofNat n)]=>bif yC n 1099511627776&&yC (s.length*n) 1099511627776 then F5 (.str (iR s n)) else F6
 | _=>F6
def oE:Nat->Nat->List Nat->List Nat
 | 0,_,acc=>acc
 | f+1,n,acc=>bif yM n 10 then (48+n)::acc else oE f (n/10) ((48+n%10)::acc)
def aA(n:Nat):List Nat:=oE (n+1) n []
def bf:Int->List Nat
 | .ofNat n=>aA n
 | .negSucc n=>45::aA (n+1)
def CX:Int->Bool
 | .ofNat n=>yM n 9223372036854775808
 | .negSucc n=>yM n 9223372036854775808
def KX:List AV->Option AV
 | [.int .i64 n]=>bif CX n then F5 (.str (bf n)) else F6
 | _=>F6
def Cj:List AV->Option AV
 | [.int .u64 (.ofNat n),.int .i64 10]=>bif yM n 18446744073709551616 then F5 (.str (aA n)) else F6
 | _=>F6
def cL:List Nat->Nat->Option Nat
 | [],a=>F5 a
 | b::r,a=>bif yC 48 b&&yC b 57 then cL r (10*a+(b-48)) else F6
def KY:List AV->Option AV
 | [.str s]=>
  bif yM 0 s.length&&yC s.length 18 then
   match cL s 0 with | some n=>F5 (.aw [.int .i64 n,.undef]) | none=>F6
  else F6
 | _=>F6
def pY:List AV->Option AV
 | [.int .u64 (.ofNat x),.int .u64 (.ofNat y),.int .u64 (.ofNat c)]=>
  bif yC c 1&&(yM x 18446744073709551616&&yM y 18446744073709551616) then F5 (.aw [.int .u64 ((x+y+c)%18446744073709551616:Nat),.int .u64 ((x+y+c)/18446744073709551616:Nat)]) else F6
 | _=>F6
def CC:List AV->Option AV
 | [.int .u64 (.ofNat x),.int .u64 (.ofNat y),.int .u64 (.ofNat c)]=>
  bif yC c 1&&(yM x 18446744073709551616&&yM y 18446744073709551616) then F5 (.aw [.int .u64 ((x+18446744073709551616*2-y-c)%18446744073709551616:Nat),.int .u64 (bif yC (y+c) x then 0 else 1)]) else F6
 | _=>F6
def Aa:List AV->Option AV
 | [.int .u64 (.ofNat x),.int .u64 (.ofNat y)]=>bif yM x 18446744073709551616&&yM y 18446744073709551616 then F5 (.aw [.int .u64 (x*y/18446744073709551616:Nat),.int .u64 (x*y%18446744073709551616:Nat)]) else F6
 | _=>F6
def eO:Nat->Nat->Nat
 | 0,_=>0
 | f+1,n=>bif yo n 0 then 0 else 1+eO f (n/2)
def Kh:List AV->Option AV
 | [.int .u64 (.ofNat x)]=>bif yM x 18446744073709551616 then F5 (.int .i64 (eO 64 x)) else F6
 | _=>F6
def G1:List AV->Option AV
 | [.int .u64 (.ofNat x)]=>bif yM x 18446744073709551616 then F5 (.int .i64 (64-eO 64 x:Nat)) else F6
 | _=>F6
def TO:List AV->Option AV
 | [.ao .f64 b]=>F5 (.int .u64 b)
 | _=>F6
def Su:List AV->Option AV
 | [.int .u64 (.ofNat n)]=>F5 (.ao .f64 n)
 | _=>F6
section
open Go
section
variable {a:AV}{args:Array yh}{aq:List AV}{s:List Nat}{w:yk}
section
variable {O:bq}{n:Nat}
def Ju{w':yk}(h:RowKit.Below w.heap.size w w'):Calm w w':=⟨h.os,h.tape,h.output,h.size,h.block⟩
def amq(k:Nat):Calm w (w.drewN k):=⟨rfl,rfl,rfl,yx _,fun _ _=>rfl⟩
def amr(h:CT O w){a:Addr}{v:yh}(hc:O.w0.cell? a=F5 v):w.cell? a=F5 v:=by
 have hb:a.block<O.w0.heap.size:=by
  unfold World.cell? at hc
  cases hq:O.w0.heap[a.block]? with
  | none=>simp[hq] at hc
  | some o=>exact (xE.1 hq).1
 unfold World.cell? at hc ⊢;rw[h.1 _ hb];exact hc
def pQ{r:AV}(hr:∀S w' lo u,ae O.ab ff S w' r u->qh O.ab S w' lo r u)(fM:∀args w,(callFunc (O.ab n) args).run O.P w=.ok (.enter (O.ab n) args) w)(h:∀w S args,CT O w->aB O.ab ff S w aq args.toList->wC O.P (O.ab n) args w fun e w'=>∃u,e=.returned u/\Calm w w'/\∀S,ae O.ab ff S w' r u):eD O n aq r:=by
 intro w S args hg hS dT _;refine .inl ⟨fM args w,Go.callsIn_wide.2 ((h w S args hg dT).mono ?_)⟩;rintro e w' ⟨u,rfl,hc,hu⟩;exact⟨u,S,rfl,hc,fun _ h=>h,fun _ h=>.inl h,fun b hb=>yG (hS b hb) hc.size,hr S w' _ u (hu S)⟩
def NV{r:AV}(hr:∀S w' lo u,ae O.ab ff S w' r u->qh O.ab S w' lo r u)(h:∀w S args,aB O.ab ff S w aq args.toList->∃u,(callFunc (O.ab n) args).run O.P w=.ok (.value u) w/\∀S,ae O.ab ff S w r u):eD O n aq r:=by
 intro w S args _ hS dT _;have⟨u,h1,h2⟩:=h w S args dT;exact .inr ⟨u,w,h1,u,S,rfl,Calm.refl,fun _ h=>h,fun _ h=>.inl h,hS,hr S w _ u (h2 S)⟩
def JZ:∀S w' lo u,ae O.ab ff S w' (.str s) u->qh O.ab S w' lo (.str s) u:=fun S w' lo u h=>⟨[],rfl,h,rfl⟩
def Uq{k:IntKind}{z:Int}:∀S w' lo u,ae O.ab ff S w' (.int k z) u->qh O.ab S w' lo (.int k z) u:=fun S w' lo u h=>⟨[],rfl,h,rfl⟩
def aqp{k:FloatKind}{z:Nat}:∀S w' lo u,ae O.ab ff S w' (.ao k z) u->qh O.ab S w' lo (.ao k z) u:=fun S w' lo u h=>⟨[],rfl,h,rfl⟩
def abE{b:Bool}:∀S w' lo u,ae O.ab ff S w' (.bool b) u->qh O.ab S w' lo (.bool b) u:=fun S w' lo u h=>⟨[],rfl,h,rfl⟩
def ZX{S:Nat->Prop}{w':yk}{lo:Nat}:∀{vs:List AV} {us:List yh},(∀v,v∈vs->(∀ex sz k cs,v≠.cM ex sz k cs)/\aV v=ydo)->aB O.ab ff S w' vs us->mz O.ab S w' lo vs us []
 | [],us,_,h=>by simp only[aB] at h;exact⟨h,rfl⟩
 | v::vs,us,hv,h=>by
  simp only[aB] at h;obtain⟨u,t,rfl,h1,h2⟩:=h;have h3:=hv v (by simp);refine⟨u,t,[],[],rfl,rfl,?_,ZX (fun v hm=>hv v (by simp[hm])) h2⟩;cases v<;>first | exact⟨rfl,h1,h3.2⟩ | exact absurd rfl (h3.1 _ _ _ _)
def Gm{vs:List AV}(hv:∀v,v∈vs->(∀ex sz k cs,v≠.cM ex sz k cs)/\aV v=ydo):∀S w' lo u,ae O.ab ff S w' (.aw vs) u->qh O.ab S w' lo (.aw vs) u:=by
 intro S w' lo u h;obtain⟨xs,rfl,h⟩:=h;exact⟨xs,[],rfl,ZX hv h,by simp⟩
def EX{S:Nat->Prop}(h:aB O.ab ff S w [a] args.toList):∃u,args=#[u]/\ae O.ab ff S w a u:=by
 simp only[aB] at h
 grind
def CY{S:Nat->Prop}{b:AV}(h:aB O.ab ff S w [a,b] args.toList):∃u v,args=#[u,v]/\ae O.ab ff S w a u/\ae O.ab ff S w b v:=by
 simp only[aB] at h
 grind
def aeO{S:Nat->Prop}{b c:AV}(h:aB O.ab ff S w [a,b,c] args.toList):∃u v x,args=#[u,v,x]/\ae O.ab ff S w a u/\ae O.ab ff S w b v/\ae O.ab ff S w c x:=by
 simp only[aB] at h
 grind
def Jv{S:Nat->Prop}{l:List UInt8}(h:l.map xn=s):ae O.ab ff S w (.str s) (.string ⟨l.toArray⟩):=by
 simp only[ae];exact⟨_,rfl,h⟩
def toNat_inj{a b:UInt8}:yo a.toNat b.toNat=(a==b):=by
 by_cases h:a=b
 .simp_all
 .have h':a.toNat≠b.toNat:=fun e=>h (UInt8.toNat_inj.1 e)
  have e:(a==b)=ydp:=by simp_all
  rw[e]
  cases hq:yo a.toNat b.toNat with
  | false=>rfl
  | true=>exact absurd (yf hq) h'
def JC:∀(p s:List UInt8),iq (p.map xn) (s.map xn)=p.isPrefixOf s
 | [],s=>by cases s<;>rfl
 | a::p,[]=>rfl
 | a::p,b::s=>by
  simp only[xe,iq,List.isPrefixOf,JC p s,toNat_inj]
def ZY:∀(s sep:List UInt8) (k:Nat),nM (sep.map xn) (s.map xn) k=if 0<=Lib.index s sep then F5 (k+(Lib.index s sep).toNat) else F6
 | [],sep,k=>by
  simp only[List.map_nil,nM,Lib.index]
  cases sep with
  | nil=>simp[iq]
  | cons a r=>simp[iq]
 | b::s,sep,k=>by
  have ih:=ZY s sep (k+1);have hp:=JC sep (b::s);simp only[xe,nM,hp,Lib.index]
  grind
def abF(b:UInt8):∀cs:List UInt8,Hc b.toNat (cs.map xn)=cs.contains b
 | []=>rfl
 | c::cs=>by
  simp only[xe,Hc,abF b cs,List.contains_cons,toNat_inj]
  grind
def Tj(cs:List UInt8):∀l:List UInt8,mu (cs.map xn) (l.map xn)=(l.dropWhile (cs.contains ·)).map xn
 | []=>rfl
 | b::l=>by
  simp only[xe,mu,abF,List.dropWhile_cons,Tj cs l]
  grind
def abG(l:List UInt8):∀n,iR (l.map xn) n=(Lib.repeatL l n).map xn
 | 0=>rfl
 | n+1=>by simp only[iR,Lib.repeatL,xG,abG l n]
def Zv:∀(f n:Nat) (acc:List Nat),n<f->oE f n acc=(Lib.decDigits n).map xn++acc
 | 0,n,acc,h=>by lia
 | f+1,n,acc,h=>by
  rw[oE,Lib.decDigits];by_cases hn:n<10
  .rw [show yM n 10=ydo from yy hn,yu,dif_pos hn]
   have:(yct (48+n)).toNat=48+n:=by
    rw[ybt];lia
   grind
  .have hb:yM n 10=ydp:=by
    cases hq:yM n 10 with
    | false=>rfl
    | true=>exact absurd (yt hq) (by lia)
   rw[hb,yO,dif_neg hn,Zv f (n/10) _ (by lia),xG,List.append_assoc]
   have:(yct (48+n%10)).toNat=48+n%10:=by
    rw[ybt];lia
   grind
def TP(n:Nat):aA n=(Lib.decDigits n).map xn:=by
 rw[aA,Zv (n+1) n [] (by lia),List.append_nil]
def aol(n:Int):bf n=(Lib.itoa n).map xn:=by
 cases n with
 | ofNat k=>
  have:¬ybV k<0:=by simp
  simp only[bf,Lib.itoa,this,xz,TP];rfl
 | negSucc k=>
  have:Int.negSucc k<0:=Int.negSucc_lt_zero k
  simp only[bf,Lib.itoa,this,xJ,TP,xe];rfl
def TQ:∀f x:Nat,eO f x=Lib.bitLenAux f x
 | 0,_=>rfl
 | f+1,x=>by
  rw[eO,Lib.bitLenAux];by_cases h:x=0
  .simp_all
  .have hb:yo x 0=ydp:=by
    cases hq:yo x 0 with
    | false=>rfl
    | true=>exact absurd (yf hq) h
   rw[hb,yO,yp h,TQ f]
def ZZ:∀{cs:List UInt8},Gy (cs.map xn)=ydo->∀(j:Nat) b,cs[j]? =F5 b->b.toNat<128
 | [],_,j,b,h=>by simp at h
 | c::cs,h,j,b,hb=>by
  simp only[xe,Gy,ye] at h
  cases j with
  | zero=>
   simp_all
  | succ j=>exact ZZ h.2 j b (by simpa using hb)
def abH:∀{l:List UInt8} {a z:Nat},cL (l.map xn) a=F5 z->Lib.decFrom a l=F5 z
 | [],a,z,h=>h
 | b::l,a,z,h=>by
  simp only[xe,cL] at h
  cases hb:(yC 48 b.toNat&&yC b.toNat 57) with
  | false=>rw[hb] at h;cases h
  | true=>
   rw[hb] at h;simp only[ye] at hb;have h1:=yt hb.1;have h2:=yt hb.2
   have:=abH h
   rw[Lib.decFrom,Lib.digitVal,yz ⟨h1,h2⟩]
   grind
def aom{l:List UInt8}{z:Nat}(h:cL (l.map xn) 0=F5 z)(h0:0<l.length):Lib.atoi l=F5 (z:Int):=by
 cases l with
 | nil=>simp at h0
 | cons b r=>
  have hd:=abH h;have hb:48<=b.toNat:=by
   simp only[xe,cL] at h
   cases hb:(yC 48 b.toNat&&yC b.toNat 57) with
   | false=>rw[hb] at h;cases h
   | true=>
    simp_all
  have h1:(b==45)=ydp:=by
   have:b≠45:=fun e=>by subst e;exact absurd hb (by decide)
   grind
  have h2:(b==43)=ydp:=by
   have:b≠43:=fun e=>by subst e;exact absurd hb (by decide)
   grind
  simp only[Lib.atoi,h1,h2,yD,xz,Lib.decNat,List.isEmpty_cons,hd,wO]
section
variable {f:yal}
def akk(hf:O.ab n=f)(fM:∀args w,(callFunc f args).run O.P w=.ok (.enter f args) w)(hc:∀(s p:ByteArray) (w:yk),wC O.P f #[.string s,.string p] w fun e w'=>e=.returned (.tuple #[.string ⟨(Lib.trimPrefix s.data.toList p.data.toList).toArray⟩,.bool (Lib.hasPrefix s.data.toList p.data.toList)])/\w'=w):
  ∀aq r,NE aq=F5 r->eD O n aq r:=by
 intro aq r h;unfold NE at h
 split at h
 .rename_i s p;simp only[yc] at h;subst h;refine pQ ?_ (by rw[hf];exact fM) ?_
  .cases iq p s<;>exact Gm (by simp[aV])
  .intro w S args hg dT;obtain⟨u,v,rfl,h1,h2⟩:=CY dT;obtain⟨t1,rfl,rfl⟩:=h1;obtain⟨t2,rfl,rfl⟩:=h2;rw[hf];refine (hc t1 t2 w).mono ?_;rintro e w' ⟨rfl,rfl⟩;refine⟨_,rfl,Calm.refl,fun S=>?_⟩;rw[JC,xi];unfold Lib.trimPrefix Lib.hasPrefix
   cases hp:t2.data.toList.isPrefixOf t1.data.toList with
   | true=>
    simp only[yu,xJ,ae,aB]
    simp_all
   | false=>
    simp only[yO,yD,xz,ae,aB]
    grind
 .cases h
def akl(hf:O.ab n=f)(fM:∀args w,(callFunc f args).run O.P w=.ok (.enter f args) w)(hc:∀(s p:ByteArray) (w:yk),wC O.P f #[.string s,.string p] w fun e w'=>e=.returned (.bool (Lib.hasPrefix s.data.toList p.data.toList))/\w'=w):
  ∀aq r,NF aq=F5 r->eD O n aq r:=by
 intro aq r h;unfold NF at h
 split at h
 .rename_i s p;simp only[yc] at h;subst h;refine pQ abE (by rw[hf];exact fM) ?_
  intro w S args hg dT;obtain⟨u,v,rfl,h1,h2⟩:=CY dT;obtain⟨t1,rfl,rfl⟩:=h1;obtain⟨t2,rfl,rfl⟩:=h2;rw[hf];refine (hc t1 t2 w).mono ?_;rintro e w' ⟨rfl,rfl⟩;refine⟨_,rfl,Calm.refl,fun S=>?_⟩;rw[JC];simp only[ae,Lib.hasPrefix]
 .cases h
def akh(hf:O.ab n=f)(fM:∀args w,(callFunc f args).run O.P w=.ok (.enter f args) w)(hc:∀(s p:ByteArray) (w:yk),wC O.P f #[.string s,.string p] w fun e w'=>e=.returned (.string ⟨(Lib.trimPrefix s.data.toList p.data.toList).toArray⟩)/\w'=w):
  ∀aq r,Ns aq=F5 r->eD O n aq r:=by
 intro aq r h;unfold Ns at h
 split at h
 .rename_i s p;simp only[yc] at h;subst h;refine pQ JZ (by rw[hf];exact fM) ?_
  intro w S args hg dT;obtain⟨u,v,rfl,h1,h2⟩:=CY dT;obtain⟨t1,rfl,rfl⟩:=h1;obtain⟨t2,rfl,rfl⟩:=h2;rw[hf];refine (hc t1 t2 w).mono ?_;rintro e w' ⟨rfl,rfl⟩;refine⟨_,rfl,Calm.refl,fun S=>?_⟩;rw[JC,xi];refine Jv ?_;unfold Lib.trimPrefix Lib.hasPrefix
  cases hp:t2.data.toList.isPrefixOf t1.data.toList with
  | true=>simp[List.map_drop]
  | false=>simp
 .cases h
def aqq(hf:O.ab n=f)(fM:∀args w,(callFunc f args).run O.P w=.ok (.enter f args) w){a:Addr}{m:Int}(hm:O.w0.cell? a=F5 (.int .i64 m))(hc:∀(s sep:ByteArray) (w:yk),s.size<4294967281->w.cell? a=F5 (.int .i64 m)->wC O.P f #[.string s,.string sep] w fun e w'=>e=.returned (.tuple #[.string ⟨(Lib.cut s.data.toList sep.data.toList).1.toArray⟩,.string ⟨(Lib.cut s.data.toList sep.data.toList).2.1.toArray⟩,.bool (Lib.cut s.data.toList sep.data.toList).2.2])/\∃n,w'=w.drewN n):
  ∀aq r,PV aq=F5 r->eD O n aq r:=by
 intro aq r h;unfold PV at h
 split at h
 .rename_i s sep
  cases hb:yM s.length 4294967281 with
  | false=>rw[hb] at h;cases h
  | true=>
   rw[hb] at h;have key:∀(q:List UInt8×List UInt8×Bool),(∀t1 t2:ByteArray,t1.data.toList.map xn=s->t2.data.toList.map xn=sep->r=.aw [.str ((Lib.cut t1.data.toList t2.data.toList).1.map xn),.str ((Lib.cut t1.data.toList t2.data.toList).2.1.map xn),.bool (Lib.cut t1.data.toList t2.data.toList).2.2])->
     (∃a b c,r=.aw [.str a,.str b,.bool c])->eD O n [.str s,.str sep] r:=by
    intro q hq ate;obtain⟨a',b',c',rfl⟩:=ate;refine pQ (Gm (by simp[aV])) (by rw[hf];exact fM) ?_
    intro w S args hg dT;obtain⟨u,v,rfl,h1,h2⟩:=CY dT;obtain⟨t1,rfl,e1⟩:=h1;obtain⟨t2,rfl,e2⟩:=h2;rw[hf];have hl:t1.size<4294967281:=by
     have:=oI hb
     rw[<-e1,xi] at this
     simp_all
    refine (hc t1 t2 w hl (amr hg hm)).mono ?_;rintro e w' ⟨rfl,k,rfl⟩;refine⟨_,rfl,amq k,fun S=>?_⟩;simp only[ae,aB]
    grind
   refine key ([],[],ydp) ?_ ?_
   .intro t1 t2 e1 e2;subst e1;subst e2;rw[ZY] at h;unfold Lib.cut;by_cases h0:0<=Lib.index t1.data.toList t2.data.toList
    .simp_all
    .grind
   .grind
 .cases h
def aon(hf:O.ab n=f)(fM:∀args w,(callFunc f args).run O.P w=.ok (.enter f args) w)(hc:∀(s cs:ByteArray) (w:yk),s.size<=9223372036854775807->cs.size<4294967281->(∀(j:Nat) b,cs.data.toList[j]? =F5 b->b.toNat<128)->wC O.P f #[.string s,.string cs] w fun e w'=>e=.returned (.string ⟨(Lib.trimS s.data.toList cs.data.toList).toArray⟩)/\RowKit.Below w.heap.size w w'):
  ∀aq r,trimS aq=F5 r->eD O n aq r:=by
 intro aq r h;unfold trimS at h
 split at h
 .rename_i s cs
  cases hb:(Gy cs&&(yM s.length 4294967281&&yM cs.length 4294967281)) with
  | false=>rw[hb] at h;cases h
  | true=>
   rw[hb] at h;simp only[yu,yc] at h;subst h;simp only[ye] at hb;refine pQ JZ (by rw[hf];exact fM) ?_
   intro w S args hg dT;obtain⟨u,v,rfl,h1,h2⟩:=CY dT;obtain⟨t1,rfl,rfl⟩:=h1;obtain⟨t2,rfl,rfl⟩:=h2;have qJ:=oI hb.2.1;have ph:=oI hb.2.2;rw[xi] at qJ ph;rw[hf];refine (hc t1 t2 w (by rw[Lib.size_eq];lia) (by rw[Lib.size_eq];lia) (ZZ hb.1)).mono ?_
   rintro e w' ⟨rfl,hw⟩;refine⟨_,rfl,Ju hw,fun S=>Jv ?_⟩;simp only[Lib.trimS,Lib.trimLeftS,Lib.trimRightS];rw[<-yaX,Tj,<-yaX,Tj]
 .cases h
def als(hf:O.ab n=f)(fM:∀args w,(callFunc f args).run O.P w=.ok (.enter f args) w)(hc:∀(s:ByteArray) (c:Nat) (w:yk),c<=9223372036854775807->s.size*c<=140737488355328->wC O.P f #[.string s,.int .i64 c] w fun e w'=>e=.returned (.string ⟨(Lib.repeatL s.data.toList c).toArray⟩)/\RowKit.Below w.heap.size w w'):
  ∀aq r,Cy aq=F5 r->eD O n aq r:=by
 intro aq r h;unfold Cy at h
 split at h
 .rename_i s c
  cases hb:(yC c 1099511627776&&yC (s.length*c) 1099511627776) with
  | false=>rw[hb] at h;cases h
  | true=>
   rw[hb] at h;simp only[yu,yc] at h;subst h;simp only[ye] at hb;have l1:=yt hb.1;have l2:=yt hb.2;refine pQ JZ (by rw[hf];exact fM) ?_
   intro w S args hg dT;obtain⟨u,v,rfl,h1,h2⟩:=CY dT;obtain⟨t1,rfl,rfl⟩:=h1;subst h2;rw[hf];rw[xi] at l2;refine (hc t1 c w (by lia) (by rw[Lib.size_eq];lia)).mono ?_
   rintro e w' ⟨rfl,hw⟩;exact⟨_,rfl,Ju hw,fun S=>Jv (abG _ _).symm⟩
 .cases h
def aoo(hf:O.ab n=f)(fM:∀args w,(callFunc f args).run O.P w=.ok (.enter f args) w)(hc:∀(z:Int) (w:yk),-9223372036854775808<=z->z<=9223372036854775807->CT O w->wC O.P f #[.int .i64 z] w fun e w'=>e=.returned (.string ⟨(Lib.itoa z).toArray⟩)/\Calm w w'):
  ∀aq r,KX aq=F5 r->eD O n aq r:=by
 intro aq r h;unfold KX at h
 split at h
 .rename_i z
  cases hb:CX z with
  | false=>rw[hb] at h;cases h
  | true=>
   rw[hb] at h;simp only[yu,yc] at h;subst h;have hz: -9223372036854775808<=z/\z<=9223372036854775807:=by
    cases z with
    | ofNat k=>have:=oI hb;show -9223372036854775808<=(k:Int)/\(k:Int)<=9223372036854775807;lia
    | negSucc k=>have:=oI hb;lia
   refine pQ JZ (by rw[hf];exact fM) ?_
   intro w S args hg dT;obtain⟨u,rfl,h1⟩:=EX dT;subst h1;rw[hf];refine (hc z w hz.1 hz.2 hg).mono ?_;rintro e w' ⟨rfl,hw⟩;exact⟨_,rfl,hw,fun S=>Jv (aol z).symm⟩
 .cases h
def aki(hf:O.ab n=f)(fM:∀args w,(callFunc f args).run O.P w=.ok (.enter f args) w)(hc:∀(z:Nat) (w:yk),z<18446744073709551616->CT O w->wC O.P f #[.int .u64 z,.int .i64 10] w fun e w'=>e=.returned (.string ⟨(Lib.decDigits z).toArray⟩)/\Calm w w'):
  ∀aq r,Cj aq=F5 r->eD O n aq r:=by
 intro aq r h;unfold Cj at h
 split at h
 .rename_i z
  cases hb:yM z 18446744073709551616 with
  | false=>rw[hb] at h;cases h
  | true=>
   rw[hb] at h;simp only[yu,yc] at h;subst h;refine pQ JZ (by rw[hf];exact fM) ?_
   intro w S args hg dT;obtain⟨u,v,rfl,h1,h2⟩:=CY dT;subst h1;subst h2;rw[hf];refine (hc z w (oI hb) hg).mono ?_;rintro e w' ⟨rfl,hw⟩;exact⟨_,rfl,hw,fun S=>Jv (TP z).symm⟩
 .cases h
def aop(hf:O.ab n=f)(fM:∀args w,(callFunc f args).run O.P w=.ok (.enter f args) w)(hc:∀(s:ByteArray) (z:Int) (w:yk),s.size<=18->Lib.atoi s.data.toList=F5 z->wC O.P f #[.string s] w fun e w'=>e=.returned (.tuple #[.int .i64 z,.nilIface])/\Calm w w'):
  ∀aq r,KY aq=F5 r->eD O n aq r:=by
 intro aq r h;unfold KY at h
 split at h
 .rename_i s
  cases hb:(yM 0 s.length&&yC s.length 18) with
  | false=>rw[hb] at h;cases h
  | true=>
   rw[hb] at h;simp only[yu] at h;simp only[ye] at hb;have l1:=oI hb.1;have l2:=yt hb.2
   split at h
   .rename_i z hz;simp only[yc] at h;subst h;refine pQ (Gm (by simp[aV])) (by rw[hf];exact fM) ?_
    intro w S args hg dT;obtain⟨u,rfl,h1⟩:=EX dT;obtain⟨t1,rfl,rfl⟩:=h1;rw[xi] at l1 l2;have ha:Lib.atoi t1.data.toList=F5 (z:Int):=aom hz l1;rw[hf];refine (hc t1 z w (by rw[Lib.size_eq];exact l2) ha).mono ?_
    simp only[ae,aB]
    grind
   .cases h
 .cases h
def ams(hf:O.ab n=f)(fM:∀args w,(callFunc f args).run O.P w=.ok (.enter f args) w)(hc:∀(x y:Nat) (w:yk),x<18446744073709551616->y<18446744073709551616->wC O.P f #[.int .u64 x,.int .u64 y] w fun e w'=>e=.returned (.tuple #[.int .u64 ((x*y/18446744073709551616:Nat):Int),.int .u64 ((x*y%18446744073709551616:Nat):Int)])/\w'=w):
  ∀aq r,Aa aq=F5 r->eD O n aq r:=by
 intro aq r h;unfold Aa at h
 split at h
 .rename_i x y
  cases hb:(yM x 18446744073709551616&&yM y 18446744073709551616) with
  | false=>rw[hb] at h;cases h
  | true=>
   rw[hb] at h;simp only[yu,yc] at h;subst h;simp only[ye] at hb;refine pQ (Gm (by simp[aV])) (by rw[hf];exact fM) ?_
   intro w S args hg dT;obtain⟨u,v,rfl,h1,h2⟩:=CY dT;subst h1;subst h2;rw[hf];refine (hc x y w (oI hb.1) (oI hb.2)).mono ?_;rintro e w' ⟨rfl,rfl⟩;refine⟨_,rfl,Calm.refl,fun S=>?_⟩;simp only[ae,aB]
   grind
 .cases h
def amt(hf:O.ab n=f)(fM:∀args w,(callFunc f args).run O.P w=.ok (.enter f args) w)(hc:∀(x:Int) (w:yk),0<=x->x<=18446744073709551615->wC O.P f #[.int .u64 x] w fun e w'=>e=.returned (.int .i64 (Lib.bitLen x.toNat:Nat))/\w'=w):
  ∀aq r,Kh aq=F5 r->eD O n aq r:=by
 intro aq r h;unfold Kh at h
 split at h
 .rename_i x
  cases hb:yM x 18446744073709551616 with
  | false=>rw[hb] at h;cases h
  | true=>
   rw[hb] at h;simp only[yu,yc] at h;subst h
   have:=oI hb
   refine pQ Uq (by rw[hf];exact fM) ?_
   intro w S args hg dT;obtain⟨u,rfl,h1⟩:=EX dT;subst h1;rw[hf];refine (hc (ybV x) w (yaR x) (by show (x:Int)<=_;lia)).mono ?_
   rintro e w' ⟨rfl,rfl⟩;refine⟨_,rfl,Calm.refl,fun S=>?_⟩;rw[TQ];rfl
 .cases h
def aoq(hf:O.ab n=f)(fM:∀args w,(callFunc f args).run O.P w=.ok (.enter f args) w)(hc:∀(x:Int) (w:yk),0<=x->x<=18446744073709551615->wC O.P f #[.int .u64 x] w fun e w'=>e=.returned (.int .i64 (64-(Lib.bitLen x.toNat:Nat)))/\w'=w):
  ∀aq r,G1 aq=F5 r->eD O n aq r:=by
 intro aq r h;unfold G1 at h
 split at h
 .rename_i x
  cases hb:yM x 18446744073709551616 with
  | false=>rw[hb] at h;cases h
  | true=>
   rw[hb] at h;simp only[yu,yc] at h;subst h
   have:=oI hb
   have hle:∀f x,Lib.bitLenAux f x<=f:=by
    intro f
    induction f with
    | zero=>intro x;exact yx _
    | succ f ih=>
     intro x;rw[Lib.bitLenAux]
     grind
   refine pQ Uq (by rw[hf];exact fM) ?_
   intro w S args hg dT;obtain⟨u,rfl,h1⟩:=EX dT;subst h1;rw[hf];refine (hc (ybV x) w (yaR x) (by show (x:Int)<=_;lia)).mono ?_
   rintro e w' ⟨rfl,rfl⟩;refine⟨_,rfl,Calm.refl,fun S=>?_⟩;simp only[ae,TQ];show Value.int .i64 (64-(Lib.bitLenAux 64 x:Int))=Value.int .i64 ((64-Lib.bitLenAux 64 x:Nat):Int)
   grind
 .cases h
def akL(hf:O.ab n=f)(hc:∀(b:Nat) (w:yk),(callFunc f #[.float .f64 b]).run O.P w=.ok (.value (.int .u64 b)) w):
  ∀aq r,TO aq=F5 r->eD O n aq r:=by
 intro aq r h;unfold TO at h
 split at h
 .rename_i b;simp only[yc] at h;subst h;refine NV Uq ?_;intro w S args dT;obtain⟨u,rfl,h1⟩:=EX dT;simp only[ae] at h1;subst h1;rw[hf];exact⟨_,hc b w,fun S=>rfl⟩
 .cases h
def akd(hf:O.ab n=f)(hc:∀(b:Nat) (w:yk),(callFunc f #[.int .u64 b]).run O.P w=.ok (.value (.float .f64 b)) w):
  ∀aq r,Su aq=F5 r->eD O n aq r:=by
 intro aq r h;unfold Su at h
 split at h
 .rename_i b;simp only[yc] at h;subst h;refine NV aqp ?_;intro w S args dT;obtain⟨u,rfl,h1⟩:=EX dT;simp only[ae] at h1;subst h1;rw[hf];exact⟨_,hc b w,fun S=>rfl⟩
 .cases h
def amu(hf:O.ab n=f)(hc:∀(x y c:Nat) (w:yk),c<=1->(callFunc f #[.int .u64 x,.int .u64 y,.int .u64 c]).run O.P w=.ok (.value (.tuple #[.int .u64 (((x+y+c)%18446744073709551616:Nat):Int),.int .u64 (((x+y+c)/18446744073709551616:Nat):Int)])) w):
  ∀aq r,pY aq=F5 r->eD O n aq r:=by
 intro aq r h;unfold pY at h
 split at h
 .rename_i x y c
  cases hb:(yC c 1&&(yM x 18446744073709551616&&yM y 18446744073709551616)) with
  | false=>rw[hb] at h;cases h
  | true=>
   rw[hb] at h;simp only[yu,yc] at h;subst h;simp only[ye] at hb;refine NV (Gm (by simp[aV])) ?_;intro w S args dT;obtain⟨u,v,z,rfl,h1,h2,h3⟩:=aeO dT;subst h1;subst h2;subst h3;rw[hf];refine⟨_,hc x y c w (yt hb.1),fun S=>?_⟩;simp only[ae,aB]
   grind
 .cases h
def amv(hf:O.ab n=f)(hc:∀(x y b:Nat) (w:yk),b<=1->(callFunc f #[.int .u64 x,.int .u64 y,.int .u64 b]).run O.P w=.ok (.value (.tuple #[.int .u64 (((x+18446744073709551616-y-b)%18446744073709551616:Nat):Int),.int .u64 ((if x<y+b then 1 else 0:Nat):Int)])) w):
  ∀aq r,CC aq=F5 r->eD O n aq r:=by
 intro aq r h;unfold CC at h
 split at h
 .rename_i x y c
  cases hb:(yC c 1&&(yM x 18446744073709551616&&yM y 18446744073709551616)) with
  | false=>rw[hb] at h;cases h
  | true=>
   rw[hb] at h;simp only[yu,yc] at h;subst h;simp only[ye] at hb;have eQ:=yt hb.1;have hy:=oI hb.2.2;refine NV (Gm (by simp[aV])) ?_;intro w S args dT;obtain⟨u,v,z,rfl,h1,h2,h3⟩:=aeO dT;subst h1;subst h2;subst h3;rw[hf];refine⟨_,hc x y c w eQ,fun S=>?_⟩;simp only[ae,aB];refine⟨_,rfl,_,_,rfl,?_,_,_,rfl,?_,rfl⟩
   .grind
   .congr 1
    by_cases h:x<y+c
    .have:yC (y+c) x=ydp:=by
      cases hq:yC (y+c) x with
      | false=>rfl
      | true=>have:=yt hq;lia
     grind
    .rw [yy (by lia),yp h];rfl
 .cases h
end
end
end
end
end VE
