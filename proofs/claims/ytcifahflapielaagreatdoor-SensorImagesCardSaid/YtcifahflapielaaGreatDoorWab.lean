import Derived.RangeFuncLeaves
import Derived.OrdersIn
import Derived.LoopNIn
import Derived.RangeFuncIn
import Derived.Lib.Index
import Derived.Lib.ItoaNum
import Derived.Lib.Atoi
import Derived.Lib.BitFns
import Derived.Lib.Repeat
import Derived.Lib.SlTrimSet
import Derived.Shelf.Strings.Cut
import Derived.Shelf.Strings.Prefix
import Derived.Shelf.Small.Bits
import Derived.RowKit
import Derived.Test.YtcifahflapielaaGreatDoorWaa
set_option linter.all false
set_option maxRecDepth 100000
open Array renaming getD_eq_getD_getElem?->wh,getElem?_append_left->yar,getElem?_eq_getElem->uN,getElem?_eq_none->yaB,getElem?_eq_some_iff->xD,replicate->uA
open Bool renaming and_eq_true->ye,false_eq_true->yL,not_eq_true'->vR,or_eq_false_iff->yaQ,or_eq_true->uC
open Classical renaming em->uV
open Go renaming Call->yac,Calls->wE,Code->vj,Deferred->yam,Ending->yaR,Exit->uz,Func->yaD,FuncId->tQ,LeavesInM->ycy,Loop->uT,Next->yaE,Obj->yal,Oper->yV,Operand->xC,Program->xy,ResultVar->ycw,RoundIn->ybr,TypeId->yE,Value->yj,World->ym
open Int renaming natCast_nonneg->yat,ofNat->ybA
open List renaming all_eq_true->tH,countP_cons->ybt,getD_eq_getElem?_getD->yU,getElem?_cons_succ->yaC,getElem?_cons_zero->uh,getElem?_eq_getElem->xf,getElem?_eq_some_iff->xN,length_append->yM,length_cons->yx,length_drop->xX,length_map->yv,length_nil->yN,length_take->yO,mapM_cons->uL,map_append->xu,map_cons->xi,map_reverse->yav,mem_append->wR,mem_cons->xx,mem_cons_of_mem->wA,mem_cons_self->wS,mem_range->tc,size_toArray->tp
open Nat renaming add_mul->wg,add_zero->xd,beq->yp,ble->yJ,ble_eq_true_of_le->yB,blt->yP,eq_of_beq_eq_true->yh,eq_of_mul_eq_mul_right->uO,eq_or_lt_of_le->vH,eq_zero_or_pos->xv,le_of_ble_eq_true->yu,le_of_lt_succ->vT,le_refl->yz,le_trans->xn,lt_of_lt_of_le->yR,lt_or_ge->vz,lt_succ_self->yaf,mul_le_mul_right->yQ,strongRecOn->vQ,testBit->vv,testBit_or->ybI,zero_add->yf,zero_le->tk
open Ne renaming symm->ycx
open Option renaming bind_some->wF,getD_some->xT,map_some->wN
open Option.some renaming injEq->yd
open Prod.mk renaming injEq->yo
open UInt8 renaming ofNat->ybV,toNat->xp,toNat_ofNat'->yaU
open Option renaming some->GW,none->GX
open Bool renaming true->ycN,false->ycO
namespace VE
open Go (IntKind)
section
open Go
section
variable {tmps:Array yj}{seen:List Nat}
section
variable {O:bz}{m m':Mp}{S:Nat->Prop}{w:ym}{f:Nat->Option Nat}
def H9(f:Nat->Option Nat)(m m':Mp):Prop:=∀id j,f id=GW j->m' j=m id
mutual
def adO{ah:Nat->Nat}(hf:H9 f m m'):∀(v:AV) (u:yj),aj ah m S w v u->aj ah m' S w (b9 f v) u
 | .int _ _,_,h | .bool _,_,h | .ay _ _,_,h | .bT _ _ _,_,h | .str _,_,h | .mT,_,h | .ab,_,h | .jH,_,h | .lK,_,h | .undef,_,h=>by
  simpa only[b9,aj] using h
 | .ptr id o,u,h=>by
  simp only[b9]
  cases hi:f id with
  | none=>simp only[aj]
  | some j=>
   simp only[aj] at h ⊢;rw[hf id j hi];exact h
 | .bN cs,u,h=>by
  simp only[b9];exact zg (fun _ h=>h) (fun _ _=>rfl) _ _ (by simp[aQ]) h
 | .ap ex n cs,u,h=>by
  simp only[b9];exact zg (fun _ h=>h) (fun _ _=>rfl) _ _ (by simp[aQ]) h
 | .cL _ _ _ _,u,h=>by simp only[aj] at h
 | .aq id o n,u,h=>by
  simp only[b9]
  cases hi:f id with
  | none=>simp only[aj]
  | some j=>
   simp only[aj] at h ⊢;rw[hf id j hi];exact h
 | .fn (.f g) first cap,u,h=>by
  simp only[b9,aj] at h ⊢;obtain⟨fi,ca,h1,h2,h3⟩:=h;exact⟨fi,ca,h1,CJ hf first _ h2,CJ hf cap _ h3⟩
 | .fn (.y l) first cap,u,h=>by
  simp only[b9]
  cases hi:f l with
  | none=>simp only[aj]
  | some j=>
   simp only[aj] at h ⊢;rw[hf l j hi];exact h
 | .map id,u,h=>by
  simp only[b9]
  cases hi:f id with
  | none=>simp only[aj]
  | some j=>
   simp only[aj] at h ⊢;rw[hf id j hi];exact h
 | .lL ks vs,u,h=>by
  simp only[b9];exact zg (fun _ h=>h) (fun _ _=>rfl) _ _ (by simp[aQ]) h
 | .it id,u,h=>by
  simp only[b9]
  cases hi:f id with
  | none=>simp only[aj]
  | some j=>
   simp only[aj] at h ⊢;rw[hf id j hi];exact h
 | .agg cs,u,h=>by
  simp only[b9,aj] at h ⊢;obtain⟨xs,h1,h2⟩:=h;exact⟨xs,h1,CJ hf cs _ h2⟩
 | .av cs,u,h=>by
  simp only[b9,aj] at h ⊢;obtain⟨xs,h1,h2⟩:=h;exact⟨xs,h1,CJ hf cs _ h2⟩
def CJ{ah:Nat->Nat}(hf:H9 f m m'):∀(vs:List AV) (us:List yj),aB ah m S w vs us->aB ah m' S w (gn f vs) us
 | [],us,h=>by simpa only[gn,aB] using h
 | v::r,us,h=>by
  simp only[gn,aB] at h ⊢;have⟨u,t,h1,h2,h3⟩:=h;exact⟨u,t,h1,adO hf v u h2,CJ hf r t h3⟩
end
def amh{ah:Nat->Nat}(hf:H9 f m m'){cs:List AV}{b o:Nat}(h:b5 ah m S w cs b o):b5 ah m' S w (gn f cs) b o:=by
 have⟨us,h1,_,h3⟩:=zZ cs b o h;exact G6 _ us o (CJ hf cs us h1) h3
def UH:∀cs:List AV,(gn f cs).length=cs.length
 | []=>rfl
 | c::r=>by simp[gn,UH r]
def acA:∀(tm:Env) (i:Nat),ai (mq f tm) i=b9 f (ai tm i)
 | [],i=>by simp[mq,ai,b9]
 | (j,v)::r,i=>by
  simp only[mq,ai]
  cases yp j i with
  | true=>rfl
  | false=>exact acA r i
def abL(tm:Env)(i:Nat):∀live:List Nat,ai (cu tm live) i=ai tm i\/ai (cu tm live) i=.undef
 | []=>.inr rfl
 | j::r=>by
  simp only[cu,ai]
  cases hb:yp j i with
  | true=>rw[yh hb];exact .inl rfl
  | false=>exact abL tm i r
def acB{tm:Env}(hf:H9 f m m')(h:b7 O m S w tm tmps):b7 O m' S w (mq f tm) tmps:=fun i=>by
 rw[acA];exact adO hf _ _ (h i)
def aob{id j:Nat}{o:Obj}{p:Pl}(hf:H9 f m m')(hm:m id=GW p)(hj:m' j=GW p)(h:fJ O m S w id o):fJ O m' S w j (mU f o):=by
 cases o with
 | cells rw pu ex sz cs=>
  have⟨q,arr,t,h1,h2,h3,h4,h5,h6,h7,h8,h9,iO⟩:=h;rw[hm] at h1;injection h1 with h1;subst h1
  cases pu with
  | true=>exact⟨p,arr,t,hj,h2,h3,h4,h5,h6,CA (fun _ h=>h) (fun _ _=>rfl) _ _ _ (h8 rfl) rfl h7,h8,h9,iO⟩
  | false=>exact⟨p,arr,t,hj,h2,h3,by rw[yX,UH];exact h4,h5,by rw[yX,UH];exact h6,amh hf h7,by simp,h9,iO⟩
 | mp rw ks vs=>
  have⟨q,es,clock,h1,h2,h3,h4,h5,h6⟩:=h;rw[hm] at h1;injection h1 with h1;subst h1
  exact⟨p,es,clock,hj,h2,CJ hf _ _ h3,CJ hf _ _ h4,h5,h6⟩
 | si s pos=>
  have⟨q,t,h1,h2,h3,h4⟩:=h;rw[hm] at h1;injection h1 with h1;subst h1
  exact⟨p,t,hj,h2,h3,h4⟩
 | lp tm ps cM body st pe=>
  have⟨q,l,hi,h1,h2,h3,h4,h5,h6,h7,h8⟩:=h;rw[hm] at h1;injection h1 with h1;subst h1
  exact⟨p,l,hi,hj,h2,h3,h4,h5,h6,acB hf h7,h8⟩
def abM{i:Nat}:∀{l:List Nat} {k j:Nat},mW i l k=GW j->k<=j/\l[j-k]? =GW i
 | [],k,j,h=>by simp[mW] at h
 | x::r,k,j,h=>by
  simp only[mW] at h
  cases hb:yp x i with
  | true=>
   simp_all
  | false=>
   rw[hb] at h;have⟨h1,h2⟩:=abM h
   grind
def rm{a b:Nat}:yP a b=ycN↔a<b:=by simp_all
def O3{hp:Hp}{j:Nat}{o':Obj}:∀{l:List Nat} {k:Nat} {acc:Hp},ax (mi hp f l k acc) j=GW o'->
  (∃i id o,l[i]? =GW id/\j=k+i/\ax hp id=GW o/\o'=mU f o)\/ax acc j=GW o'
 | [],k,acc,h=>.inr h
 | x::r,k,acc,h=>by
  simp only[mi] at h
  cases hx:ax hp x with
  | none=>
   simp only[hx] at h;rcases O3 h with ⟨i,id,o,h1,h2,h3,h4⟩ | h
   .exact .inl ⟨i+1,id,o,by simpa using h1,by lia,h3,h4⟩
   .grind
  | some o=>
   simp only[hx] at h;rcases O3 h with ⟨i,id,o,h1,h2,h3,h4⟩ | h
   .exact .inl ⟨i+1,id,o,by simpa using h1,by lia,h3,h4⟩
   .rw [fS] at h;by_cases hc:k=j
    .simp only [hc,xS,yd] at h;exact .inl ⟨0,x,o,by simp,by lia,hx,h.symm⟩
    .grind
def O4{base:Nat}{j:Nat}{o':Obj}:∀{hp:Hp},ax (nQ base f hp) j=GW o'->j<base/\∃o,ax hp j=GW o/\o'=mU f o
 | [],h=>by simp[nQ,ax] at h
 | (i,q)::r,h=>by
  simp only[nQ] at h
  cases hb:yP i base with
  | true=>
   rw[hb] at h;simp only[yC] at h;rw[fS] at h;by_cases hc:i=j
   .simp only [hc,xS,yd] at h;exact⟨by rw[<-hc];exact rm.1 hb,q,by rw[fS];simp[hc],h.symm⟩
   .simp only [hc,xE] at h;have⟨h1,o,h2,h3⟩:=O4 h;exact⟨h1,o,by rw[fS];simp[hc,h2],h3⟩
  | false=>
   rw[hb] at h;have⟨h1,o,h2,h3⟩:=O4 h;have hc:¬i=j:=fun e=>by
    have:=rm.2 h1
    grind
   exact⟨h1,o,by rw[fS];simp[hc,h2],h3⟩
def rQ(m:Mp)(base:Nat)(seen:List Nat):Mp:=fun j=>
 if j<base then m j else match seen[j-base]? with
  | some id=>if mh base seen id=GW j then m id else GX
  | none=>GX
def Um{base:Nat}{j:Nat}{p:Pl}(h:rQ m base seen j=GW p):∃id,mh base seen id=GW j/\m id=GW p/\(j<base->id=j):=by
 unfold rQ at h
 split at h
 .rename_i hj;exact⟨j,by simp[mh,rm.2 hj],h,fun _=>rfl⟩
 .grind
def aoc{base:Nat}:H9 (mh base seen) m (rQ m base seen):=by
 intro id j h;have h0:=h;unfold mh at h
 cases hb:yP id base with
 | true=>
  rw[hb] at h;simp only[yC,yd] at h;subst h;simp[rQ,rm.1 hb]
 | false=>
  rw[hb] at h;have⟨h1,h2⟩:=abM h
  have:¬j<base:=by lia
  simp only[rQ,this,xE,h2,h0,xS]
def TX{s:St}{live:List Nat}(ht:b7 O m S w s.tm tmps)(hh:aT O m S w s.hp s.ct)(hb:s.base<=s.ct):
  ∃m',b7 O m' S w (bq live s).tm tmps/\aT O m' S w (bq live s).hp (bq live s).ct/\(bq live s).base=s.base/\s.base<=(bq live s).ct/\cr m S w s.hp m' S w (bq live s).hp s.base:=by
 simp only[bq];generalize ae4:reach s.hp s.base 100000 (kA (cu s.tm live)++j9 s.base s.hp) []=seen;have hr:=aoc (m:=m) (base:=s.base) (seen:=seen);have aH:∀j p,rQ m s.base seen j=GW p->j<s.base+seen.length:=by
  intro j p h;unfold rQ at h
  grind
 have back:∀j o' p,ax (mi s.hp (mh s.base seen) seen s.base (nQ s.base (mh s.base seen) s.hp)) j=GW o'->rQ m s.base seen j=GW p->
   ∃id o,mh s.base seen id=GW j/\ax s.hp id=GW o/\m id=GW p/\o'=mU (mh s.base seen) o:=by
  intro j o' p ho hm;have⟨id,h1,h2,h3⟩:=Um hm;rcases O3 ho with ⟨i,YE,o,g1,g2,g3,g4⟩ | ho
  .have hj:¬j<s.base:=by lia
   have:rQ m s.base seen j=if mh s.base seen YE=GW j then m YE else GX:=by
    simp only[rQ,hj,xE,show j-s.base=i by lia,g1]
   grind
  .have ⟨g1,o,g2,g3⟩:=O4 ho
   grind
 refine⟨rQ m s.base seen,?_,⟨?_,aH,?_,hh.slt,?_,?_,hh.mX,hh.gJ,fun j o' ho=>(by
  rcases O3 ho with ⟨i,YE,o,g1,g2,g3,g4⟩ | ho
  .grind
  .have:=(O4 ho).1;lia)⟩,by trivial,by lia,⟨rfl,rfl,rfl,yz _,fun _ _ _=>rfl,fun _ h=>h,fun _ _=>rfl,fun _ h=>.inl h,?_,?_,fun _ r h=>⟨r,h⟩⟩⟩
 .refine acB hr (fun i=>?_);rcases abL s.tm i live with h | h
  .rw [h];exact ht i
  .rw [h];simp only[aj]
 .intro j o' p ho hm;obtain⟨id,o,h1,h2,h3,rfl⟩:=back j o' p ho hm;exact aob hr h3 hm (hh.obj id o p h2 h3)
 .intro i j oi oj pi pj hi hj bO ia e;have⟨idi,o1,a1,a2,a3,_⟩:=back i oi pi hi bO;have⟨idj,o2,b1,b2,b3,_⟩:=back j oj pj hj ia
  have:=hh.inj idi idj o1 o2 pi pj a2 b2 a3 b3 e
  grind
 .intro j p hm;have⟨id,_,h2,_⟩:=Um hm;exact hh.blt id p h2
 .intro j p hm;have⟨id,_,h2,_⟩:=Um hm;exact hh.low id p h2
 .rintro b ⟨j,o',p,h1,h2,h3⟩;have⟨id,o,_,g2,g3,_⟩:=back j o' p h1 h2;exact .inl ⟨id,o,p,g2,g3,h3⟩
 .intro id p hid hm;simp[rQ,hid,hm]
end
end
end
section
open Go
section
variable {v:AV}{au:Hp}{lo:Nat}{u:yj}
section
variable {O:bz}{m:Mp}{S:Nat->Prop}{w:ym}{hp:Hp}{ct:Nat}
def acC(hh:aT O m S w hp ct)(id:Nat):aT O m S w (dV hp id) ct:=by
 have sub:∀i o,ax (dV hp id) i=GW o->ax hp i=GW o:=fun i o h=>by
  rw[KD] at h
  grind
 exact⟨fun i o p h hm=>hh.obj i o p (sub i o h) hm,hh.lt,fun i j oi oj pi pj hi hj=>hh.inj i j oi oj pi pj (sub i oi hi) (sub j oj hj),hh.slt,hh.blt,hh.low,hh.mX,hh.gJ,fun i o h=>hh.aH i o (sub i o h)⟩
def adP{id b:Nat}(h:eH m (dV hp id) b):eH m hp b:=by
 have⟨i,o,p,h1,h2,h3⟩:=h;rw[KD] at h1;by_cases hc:id=i
 .grind
 .simp only [hc,xE] at h1;exact⟨i,o,p,h1,h2,h3⟩
def aaC(hh:aT O m S w hp ct){id:Nat}{o:Obj}{p:Pl}(hg:ax hp id=GW o)(hm:m id=GW p):¬eH m (dV hp id) p.b:=by
 rintro⟨i,o',q,h1,h2,h3⟩;rw[KD] at h1;by_cases hc:id=i
 .grind
 .simp only [hc,xE] at h1;exact hc (hh.inj i id o' o q p h1 hg h2 hm h3).symm
def aqh(hd:lE hp au){b:Nat}(h:eH m au b):eH m hp b:=by
 have⟨i,o,p,h1,h2,h3⟩:=h
 have:=hd i
 rw[h1] at this
 cases hq:ax hp i with
 | none=>rw[hq] at this;cases this
 | some q=>exact⟨i,q,p,hq,h2,h3⟩
def aa4{v':AV}{n:Nat}(hh:aT O m S w hp ct)(hf:freeze n hp v=GW (v',au))(hv:aj O.ah m S w v u):
  ∃S',aT O m S' w au ct/\(∀b,S b->S' b)/\(∀b,S' b->S b\/eH m hp b)/\aQ v'=ycN/\aj O.ah fp S' w v' u/\jj O.ah S' w lo v' u []:=by
 have⟨h1,h2,h3⟩:=Uj (O:=O) hf;have⟨S',g1,g2,g3⟩:=adG hh h1 (fun id o p ho hm=>by
  have:=h2 id
  rw[ho] at this
  cases hq:ax hp id with
  | none=>rw[hq] at this;cases this
  | some q=>exact⟨q,rfl⟩) (yz _) (fun id o ho=>(by
  have:=h2 id
  rw[ho] at this
  cases hq:ax hp id with
  | none=>rw[hq] at this;cases this
  | some q=>exact hh.aH id q hq))
 have⟨k1,k2⟩:=h3 au m S' w ct cU.refl g1;have hr:=k1 u (mI (fun _ _ h=>h) g2 (fun _ _=>rfl) v u hv);have bR:aj O.ah fp S' w v' u:=zg (fun _ h=>h) (fun _ _=>rfl) v' u k2 hr;refine⟨S',g1,g2,g3,k2,bR,?_⟩
 cases v' with
 | cL _ _ _ _=>simp[aQ] at k2
 | _=>exact⟨rfl,bR,k2⟩
def ami{S':Nat->Prop}{bs:List Nat}(hS:∀b,S b->S' b)(hn:∀b,b∈bs->¬S' b)(h:jj O.ah S w lo v u bs):jj O.ah S' w lo v u bs:=by
 cases v with
 | cL ex sz n cs=>
  obtain⟨b,o,c,arr,t,rfl,rfl,g1,g2,g3,g4,g5,g6,g7,g8,g9⟩:=h;exact⟨b,o,c,arr,t,rfl,rfl,g1,g2,g3,hn b (by simp),g5,g6,g7,CA hS (fun _ _=>rfl) cs b o g9 rfl g8,g9⟩
 | _=>simp only[jj] at h ⊢;exact⟨h.1,zg hS (fun _ _=>rfl) _ _ h.2.2 h.2.1,h.2.2⟩
def abN{v':AV}{n:Nat}(hh:aT O m S w hp ct)(hf:Bv n hp v=GW (v',au))(hv:aj O.ah m S w v u)(bf:∀b,eH m hp b->lo<=b):
  ∃S' bs,aT O m S' w au ct/\(∀b,S b->S' b)/\(∀b,S' b->S b\/eH m hp b)/\jj O.ah S' w lo v' u bs/\bs.Nodup/\(∀b,b∈bs->eH m hp b/\¬eH m au b)/\(∀b,eH m au b->eH m hp b):=by
 have frozen:freeze n hp v=GW (v',au)->∃S' bs,aT O m S' w au ct/\(∀b,S b->S' b)/\(∀b,S' b->S b\/eH m hp b)/\jj O.ah S' w lo v' u bs/\bs.Nodup/\(∀b,b∈bs->eH m hp b/\¬eH m au b)/\(∀b,eH m au b->eH m hp b):=by
  intro hz;have⟨S',g1,g2,g3,g4,g5,g6⟩:=aa4 (lo:=lo) hh hz hv
  exact⟨S',[],g1,g2,g3,g6,by simp,by simp,fun b hb=>aqh (Uj (O:=O) hz).2.1 hb⟩
 unfold Bv at hf
 split at hf
 .rename_i id o k
  split at hf
  .rename_i ex sz cs hg
   cases hc:yJ (o+k*sz) cs.length with
   | false=>rw[hc] at hf;cases hf
   | true=>
    rw[hc] at hf;obtain⟨rfl,rfl⟩:=hf;have hle:=yu hc;obtain⟨p,c,hm,rfl,h1,h2⟩:=hv;have⟨p',arr,t,g1,g2,g3,g4,g5,g6,g7,g8,g9,g10⟩:=hh.obj id _ _ hg hm;rw[hm] at g1;injection g1 with g1
    subst g1;rw[g3] at h2;refine⟨S,[p.b],acC hh id,fun _ h=>h,fun _ h=>.inl h,?_,by simp,?_,fun b hb=>adP hb⟩
    .refine ⟨p.b,p.o+o,c,arr,t,rfl,rfl,h1,?_,bf _ (Lc hg hm),g9 rfl,g2,?_,by lia,?_,Cz _ (Bm _ _ (g8 rfl))⟩
     .intro hx;simp only[ye] at hx;have e1:=yh hx.2;have e2:=rm.1 hx.1.2;have e3:=g6 hx.1.1
      have:c*sz=k*sz:=by lia
      exact uO e2 this
     .simp only [slice,yO,xX];lia
     .exact CA (fun _ h=>h) (fun _ _=>rfl) _ _ _ (Cz _ (Bm _ _ (g8 rfl))) rfl (Bl _ _ _ _ (zc _ _ _ _ g7))
    .intro b hb;simp only[List.mem_singleton] at hb;subst hb;exact⟨Lc hg hm,aaC hh hg hm⟩
  .grind
 .grind
def aa5{lo n:Nat}:∀{vs eh:List AV} {us:List yj} {hp au:Hp} {S:Nat->Prop},aT O m S w hp ct->CS n hp vs=GW (eh,au)->aB O.ah m S w vs us->(∀b,eH m hp b->lo<=b)->
  ∃S' bs,(∀b,S b->S' b)/\(∀b,S' b->S b\/eH m hp b)/\mv O.ah S' w lo eh us bs/\bs.Nodup/\(∀b,b∈bs->eH m hp b)/\(∀b,S' b->b<w.heap.size)
 | [],eh,us,hp,au,S,hh,hf,hv,bf=>by
  obtain⟨rfl,rfl⟩:=hf;exact⟨S,[],fun _ h=>h,fun _ h=>.inl h,by simp only[mv];exact⟨hv,by trivial⟩,by simp,by simp,hh.slt⟩
 | v::r,eh,us,hp,au,S,hh,hf,hv,bf=>by
  simp only[CS] at hf
  cases h1:Bv n hp v with
  | none=>simp[h1] at hf
  | some q=>
   have⟨v1,bk⟩:=q;simp only[h1] at hf
   cases h2:CS n bk r with
   | none=>simp[h2] at hf
   | some q2=>
    simp only[h2,yd,yo] at hf;obtain⟨rfl,rfl⟩:=hf;obtain⟨u,t,rfl,fC,de⟩:=hv;have⟨S1,b1,k1,k2,k3,k4,k5,k6,k7⟩:=abN (lo:=lo) hh h1 fC bf;have⟨S2,b2,g1,g2,g3,g4,g5,g6⟩:=aa5 (us:=t) k1 h2 (iE (fun _ _ h=>h) k2 (fun _ _=>rfl) _ _ de) (fun b hb=>bf b (k7 b hb));have WV:∀b,b∈b1->¬S2 b:=by
     intro b hb hs;rcases g2 b hs with h | h
     .cases v1 with
      | cL ex sz n cs=>
       simp only[jj] at k4
       grind
      | _=>simp only[jj] at k4;rw[k4.1] at hb;cases hb
     .grind
    refine⟨S2,b1++b2,fun b hb=>g1 b (k2 b hb),fun b hb=>?_,?_,?_,?_,g6⟩
    .grind
    .simp only [mv];exact⟨u,t,b1,b2,rfl,rfl,ami g1 WV k4,g3⟩
    .grind
    .grind
def Un{lo:Nat}:∀{cs:List AV} {us:List yj},aE cs=ycN->aB O.ah fp S w cs us->mv O.ah S w lo cs us []
 | [],us,_,h=>by simp only[aB] at h;exact⟨h,by trivial⟩
 | c::r,us,hp,h=>by
  obtain⟨u,t,rfl,h1,h2⟩:=h;simp only[aE,ye] at hp;refine⟨u,t,[],[],rfl,rfl,?_,Un hp.2 h2⟩
  cases c with
  | cL _ _ _ _=>simp[aQ] at hp
  | _=>exact⟨rfl,h1,hp.1⟩
def amj{r:AV}(hh:aT O m S w hp ct)(hr:result hp v=GW r)(hv:aj O.ah m S w v u)(bf:∀b,eH m hp b->lo<=b):
  ∃S',(∀b,S b->S' b)/\(∀b,S' b->S b\/eH m hp b)/\(∀b,S' b->b<w.heap.size)/\pW O.ah S' w lo r u:=by
 unfold result at hr
 split at hr
 .rename_i vs
  split at hr
  .cases h1:CS deep hp vs with
   | none=>simp[h1] at hr
   | some q=>
    simp only[h1,yd] at hr;subst hr;obtain⟨us,rfl,hv⟩:=hv;have⟨S',bs,g1,g2,g3,g4,g5,g6⟩:=aa5 (lo:=lo) hh h1 hv bf;exact⟨S',g1,g2,g6,us,bs,rfl,g3,g4⟩
  .cases h1:freeze deep hp (.av vs) with
   | none=>simp[h1] at hr
   | some q=>
    have⟨v',au⟩:=q;simp only[h1,yd] at hr;subst hr;have⟨S',g1,g2,g3,g4,g5,g6⟩:=aa4 (lo:=lo) hh h1 hv;refine⟨S',g2,g3,g1.slt,?_⟩
    cases v' with
    | av cs=>
     obtain⟨xs,rfl,g5⟩:=g5;exact⟨xs,[],rfl,Un (by simpa[aQ] using g4) g5,by simp⟩
    | _=>exact⟨[],g6⟩
 .rename_i SG
  cases h1:Bv deep hp v with
  | none=>simp[h1] at hr
  | some q=>
   have⟨v',au⟩:=q;simp only[h1,yd] at hr;subst hr;have⟨S',bs,g1,g2,g3,g4,_⟩:=abN (lo:=lo) hh h1 hv bf;refine⟨S',g2,g3,g1.slt,?_⟩
   cases v' with
   | av cs=>
    obtain⟨rfl,h2,h3⟩:=g4;obtain⟨xs,rfl,h2⟩:=h2;exact⟨xs,[],rfl,Un (by simpa[aQ] using h3) h2,by simp⟩
   | _=>exact⟨bs,g4⟩
end
end
end
section
open Go
def WF(ro:Option Nat):Fence:={Fence.wide with round:=ro}
section
variable {O:bz}
def aep(O:bz)(hp:Hp)(ct:Nat)(l:Nat)(xs:List AV)(v:AV)(au:Hp)(aX:Nat):Prop:=
 ∀(m:Mp) (S:Nat->Prop) (w:ym) (args:Array yj) (p:Pl),aT O m S w hp ct->m l=GW p->aB O.ah m S w xs args.toList->
  ∃f tmps assign body,(Instr.yield p.b args).run O.P w=.ok (.round p.b f tmps assign body) w/\ybr Fence.wide 0 O.P p.b f tmps assign body w (Bo O m S w hp ct v au aX)
structure pM(O:bz)(run:cw):Prop where
 pure:∀n aw r,bS O.prog O.aI run n aw=GW r->eR O n aw r
 heap:∀hp ct n aw v au aX,jz O.prog O.aI run hp ct n aw=GW (v,au,aX)->Df O n hp ct aw v au aX
 round:∀hp ct l xs v au aX,pJ run hp ct l xs=GW (v,au,aX)->aep O hp ct l xs v au aX
end
section
variable {P:xy}{o:yV}{a:Act}{w:ym}{ro:Option Nat}{next:Act->ym->Prop}{Q:uz->Act->ym->Prop}
def O5{c:yac}{f:xC}(ho:o.op=.call c)(hc:c.callee=.value f){g:tQ}{fi ca:Array yj}(hf:a.eval f=.func (.func g) fi ca){R:yaR->ym->Prop}(h:CU P g (fi++c.args.map a.eval++ca) w R)(hn:∀e w',R e w'->∃u,e=.returned u/\next (a.put o.dst u) w'):o.wpIn (WF ro) 0 P a w next Q:=by
 have dY:(o.semAt ro a.eval).run P w=(callFunc g (fi++c.args.map a.eval++ca)).run P w:=by
  rw[Oper.semAt_eq _ _ _ (fun c' h'=>by rw[ho] at h';cases h')];simp only[execOp,ho,resolve,hc,Deferred.ofValue,hf,Sem.run_bind,Sem.run_pure,Result.andThen_ok,invoke]
 refine⟨fun _ _=>trivial,?_⟩;show o.uponIn (WF ro) 0 P a next Q ((o.semAt ro a.eval).run P w)
 rw[dY];rcases h with ⟨h1,h2⟩ | ⟨u,w',h1,h2⟩
 .rw [h1,Oper.uponIn_enter];refine⟨fun h=>by simp[WF,Fence.wide] at h,?_⟩;have h3:CallsIn (WF ro) 0 P g (fi++c.args.map a.eval++ca) w R:=h2;refine CallsIn.mono h3 (fun e w' he=>?_);obtain⟨u,rfl,hq⟩:=hn e w' he;exact hq
 .rw [h1];have⟨u',e,hq⟩:=hn _ _ h2;injection e with e
  subst e;exact hq
def aod{c:yac}{f:xC}(ho:o.op=.call c)(hc:c.callee=.value f){l:Nat}(hf:a.eval f=.func (.yield l) #[] #[]){R:yaR->ym->Prop}{g:tQ}{tmps:Array yj}{assign body:vj}(hy:(Instr.yield l (c.args.map a.eval)).run P w=.ok (.round l g tmps assign body) w)(h:ybr Fence.wide 0 P l g tmps assign body w R)(hn:∀e w',R e w'->∃u,e=.returned u/\next (a.put o.dst u) w'):o.wpIn (WF ro) 0 P a w next Q:=by
 have dY:(o.semAt ro a.eval).run P w=.ok (.round l g tmps assign body) w:=by
  rw[Oper.semAt_eq _ _ _ (fun c' h'=>by rw[ho] at h';cases h')];simp only[execOp,ho,resolve,hc,Deferred.ofValue,hf,Sem.run_bind,Sem.run_pure,Result.andThen_ok,invoke,Array.empty_append];exact hy
 refine⟨fun _ _=>trivial,?_⟩;show o.uponIn (WF ro) 0 P a next Q ((o.semAt ro a.eval).run P w)
 rw[dY,Oper.uponIn_round];refine⟨fun h=>by simp[WF,Fence.wide] at h,?_⟩;have h3:ybr (WF ro) 0 P l g tmps assign body w R:=h;refine RoundIn.mono h3 (fun e w' he=>?_);obtain⟨u,rfl,hq⟩:=hn e w' he;exact hq
def Hn{n:yaE}{u:yj}{w':ym}(hd:∀c,o.op≠.defer c)(h:(execOp a.eval o).run P w=.ok n w')(hn:n=.value u\/(n=.skip/\u=undef))(hq:next (a.put o.dst u) w'):o.wpIn (WF ro) 0 P a w next Q:=by
 refine⟨fun _ _=>trivial,?_⟩;show o.uponIn (WF ro) 0 P a next Q ((o.semAt ro a.eval).run P w)
 rw[Oper.semAt_eq _ _ _ hd,h];rcases hn with rfl | ⟨rfl,rfl⟩
 .exact hq
 .exact hq
end
def oM(P:xy)(H:Hint)(q:Op)(o:yV):Prop:=
 (∃k,q=aP P H k o)\/(∃c f rs,o.op=.call c/\c.callee=.value f/\q=.jD rs (aK H f) (iK H c.args.toList))\/
  (∃t x y sz rs,o.op=.store t x y/\cC P t=GW sz/\q=.lO rs sz (aK H x) (aK H y))\/
  (∃k rs sz b x y,Op.c9 sz b x y=aP P H k o/\q=.lP rs sz b x y)\/(∃k sz b x y,Op.c9 sz b x y=aP P H k o/\q=.sE sz b x y)\/∃k n sz z ps,Op.jI n sz z ps=aP P H k o/\q=.nl n sz z ps
def jF:Op->Op
 | .jD _ f xs=>.jD [] f xs
 | .lO _ s x v=>.st s x v
 | .lP _ s b x v=>.c9 s b x v
 | o=>o
section
variable {O:bz}{H:Hint}{m:Mp}{S:Nat->Prop}{w:ym}{tm:Env}{a:Act}{hp:Hp}{ct:Nat}{self:cw}{ro:Option Nat}{next:Act->ym->Prop}{Q:uz->Act->ym->Prop}
def P0{o:yV}{k:Nat}{md:Md}{x:X}{xs:List X}(h:aP O.P H k o=.call md x xs)(hb:x≠.c .undef):∃c f,o.op=.call c/\c.callee=.value f/\x=aK H f/\xs=iK H c.args.toList:=by
 have nb:bad=.call md x xs->False:=fun h=>by simp only[bad,Op.call.injEq] at h;exact hb h.2.1.symm
 cases ho:o.op with
 | call c=>
  have⟨callee,args,ts⟩:=c;simp only[aP,ho] at h
  split at h
  .rename_i f;cases hm:H.mode k<;>simp only[hm,Op.call.injEq,reduceCtorEq] at h
   all_goals exact⟨_,f,rfl,rfl,h.2.1.symm,h.2.2.symm⟩
  .repeat' split at h
   all_goals first
    | exact (nb h).elim
    | (cases h;done)
    | (revert h;generalize yp _ _=bb;intro h;cases bb<;>first | exact (nb h).elim | (cases h;done))
  .exact (nb h).elim
 | binOp op t x' y ty=>
  cases op<;>simp only[aP,ho,oC,pL] at h
  case eql=>
        repeat' split at h
        all_goals first
         | exact (nb h).elim
         | (cases h;done)
         | (cases bD:(O.P.stoodInHeld t||O.P.eqGuardType O.P.depth t)<;>rw[bD] at h<;>first | exact (nb h).elim | (cases h;done))
  case neq=>
        repeat' split at h
        all_goals first
         | exact (nb h).elim
         | (cases h;done)
         | (cases bD:(O.P.stoodInHeld t||O.P.eqGuardType O.P.depth t)<;>rw[bD] at h<;>first | exact (nb h).elim | (cases h;done))
  all_goals cases h
 | buildSlice t n parts=>
  simp only[aP,ho] at h
  repeat' split at h
  all_goals first
   | exact (nb h).elim
   | (cases h;done)
   | (revert h;generalize yJ _ _=bb;intro h;cases bb<;>first | exact (nb h).elim | (simp only[yC] at h;cases h;done))
 | makeMap t r=>
  cases r<;>simp only[aP,ho] at h
  .repeat' split at h
   all_goals first
    | exact (nb h).elim
    | (cases h;done)
  .exact (nb h).elim
 | next x' b=>
  cases b<;>simp only[aP,ho] at h
  .exact (nb h).elim
  .cases h
 | _=>
  simp only[aP,ho] at h
  (repeat' split at h)
  all_goals first
   | contradiction
   | exact (nb h).elim
   | (cases h;done)
def alf{o:yV}{k:Nat}{r:AV×Hp×Nat}(hv:aZ O.prog O.aI self tm hp ct (aP O.P H k o)=GW r):∀c,o.op≠.defer c:=by
 intro c ho;simp[aP,ho,bad,aZ,fj,az] at hv
end
end
section
open Go
section
variable {v:AV}{Hq:Hp}{sz:Nat}{ef:Obj}
section
variable {O:bz}{H:Hint}{m:Mp}{S:Nat->Prop}{w:ym}{tm:Env}{a:Act}{hp:Hp}{ct cq:Nat}
def gV(tm:Env)(hp:Hp)(ct:Nat):Op->Option (AV×Obj)
 | .c9 sz b x y=>Ar hp ct sz b (az tm x) (jy hp sz (az tm y))
 | _=>GX
def VA(O:bz)(m:Mp)(S:Nat->Prop)(w:ym)(a:Act)(ct:Nat)(o:yV)(v:AV)(b:Obj):Prop:=
 ∃u g p,(execOp a.eval o).run O.P w=.ok (.value u) (w.drew.alloc g)/\p.b=w.heap.size/\¬jf b/\
  ∀m',dz m m'->m' ct=GW p->fJ O m' S (w.drew.alloc g) ct b/\aj O.ah m' S (w.drew.alloc g) v u
def aoe{e:yE}{z:yj}{need cap:Nat}{cs:List AV}{us:List yj}(hh:aT O m S w hp cq)(hr:aB O.ah m S w cs us)(hl:us.length=need*sz)(hz:z.cells.size=sz)(Fu:Bool)(YD:Fu=ycN->aE cs=ycN)(hc:need<=cap):
  let w':=w.drew.alloc (.cells (us.toArray++Builtin.zeroCells z.cells (cap-need)) e)
  let p:Pl:=⟨w.heap.size,0,cap*sz,sz⟩
  ∀m',dz m m'->m' ct=GW p->fJ O m' S w' ct (.cells ycN Fu ycO sz cs):=by
 intro w' p m' hm hi;have aU:gj S w w':=fun b hb=>by
  have:=hh.slt b hb
  exact RowKit.Below.heap_alloc w.drew _ b (by simpa using this)
 have dd:w'.heap[w.heap.size]? =GW (.cells (us.toArray++Builtin.zeroCells z.cells (cap-need)) e (0,0)):=heap_alloc_new w.drew _;have bL:=ij _ _ hr;refine⟨p,_,e,hi,dd,rfl,?_,?_,by simp,?_,YD,?_,by simp⟩
 .show cs.length<=cap*sz
  rw[<-bL,hl];exact yQ _ hc
 .show 0+cap*sz<=_
  rw[Array.size_append,tp,size_zeroCells,hz,hl,<-wg];rw[yf];exact yQ _ (by lia)
 .refine Pf dd cs us 0 (iE hm (fun _ h=>h) aU _ _ hr) (fun j u hj=>?_);rw[yf,yar (by rw[tp];exact (xN.1 hj).1),List.getElem?_toArray]
  exact hj
 .intro _ hS
  have:=hh.slt _ hS
  simp[p] at this
def oE{a b:Nat}(h:yP a b=ycN):a<b:=yu h
def aof{o:yV}{b':yE}{t u e:yE}{bX:Nat}{z:AV}{x y:xC}(hH:fH O H)(ht:b7 O m S w tm a.tmps)(hh:aT O m S w hp cq)(dY:(execOp a.eval o).run O.P w=((do pure (.value (<-Builtin.append_ #[t,u] b' #[a.eval x,a.eval y])):Sem yaE)).run O.P w)(AY:O.P.underlying t=GW (.slice e))(hu:(∃e',O.P.underlying u=GW (.slice e'))\/O.P.underlying u=GW .string)(hs:cC O.P e=GW sz)(hb:AP O.P e=GW bX)(hz:mP O.P e=GW z)(zI:(cellsOf z).length=sz)(hv:gV tm hp ct (.c9 sz bX (aK H x) (aK H y))=GW (v,ef)):VA O m S w a ct o v ef:=by
 simp only[gV] at hv;obtain⟨ti,zv,zK,rfl,rfl,NY,rfl⟩:=adJ hs hb hz;have aO:∀u' w',(Builtin.append_ #[t,u] b' #[a.eval x,a.eval y]).run O.P w=.ok u' w'->(execOp a.eval o).run O.P w=.ok (.value u') w':=fun u' w' h=>by
  rw[dY,Sem.run_bind,h];rfl
 have Gk:zv.cells.size=ti.size:=by
  have:=ij _ _ (Et (ah:=O.ah) (m:=m) (S:=S) (w:=w) zv)
  rw[<-zI,<-this];simp
 cases zq:jy hp ti.size (az tm (aK H y)) with
 | none=>simp[zq,Ar] at hv
 | some q=>
  have⟨n,new⟩:=q;rw[zq] at hv;have⟨news,iP,dh⟩:=abH hh (b8 hH ht y) zq;have oU:=ij _ _ iP;have rx:=b8 hH ht x;cases hx:az tm (aK H x)<;>rw[hx] at hv rx<;>simp only[Ar,reduceCtorEq] at hv
  rename_i id o0 k;simp only[aj] at rx;have⟨p,c,hm,ex,h1,h2⟩:=rx
  split at hv
  case h_2=>cases hv
  rename_i eN pu zz cs hg
  cases hc:(yp zz ti.size&&(yP 0 n&&(yJ (k+n) room&&(yJ ((k+n)*ti.bytes) room&&(yp (o0+k*ti.size) cs.length&&yP 0 ti.size))))) with
  | false=>rw[hc] at hv;cases hv
  | true=>
   rw[hc] at hv;simp only[yC,yd,yo] at hv;obtain⟨rfl,rfl⟩:=hv;simp only[ye] at hc;have c0:=yh hc.1;have c5:=oE hc.2.1;have c1:=yu hc.2.2.1;have c2:=yu hc.2.2.2.1;have c3:=yh hc.2.2.2.2.1;have c4:=oE hc.2.2.2.2.2;simp only[room] at c1 c2;have⟨p',arr,t',g1,g2,g3,g4,g5,g6,g7,g8,g9,g10⟩:=hh.obj id _ _ hg hm;rw[hm] at g1;injection g1 with g1
   subst g1;subst c0;rw[g3] at h2;have hce:=g6 rfl;have dO:c=k:=by
    have:c*ti.size=k*ti.size:=by lia
    exact uO c4 this
   subst dO;have I7:b5 O.ah m S w (slice o0 (c*ti.size) cs) p.b (p.o+o0):=Bl _ _ _ _ (zc _ _ _ _ g7);have⟨mY,f1,f2,f3⟩:=zZ _ _ _ I7;have Rc:(slice o0 (c*ti.size) cs).length=c*ti.size:=by simp only[slice,yO,xX];lia
   have oS:(pu&&aE new)=ycN->aE (slice o0 (c*ti.size) cs++new)=ycN:=fun h=>by
    simp only[ye] at h;exact Eu (Cz _ (Bm _ _ (g8 h.1))) h.2
   have NZ:Src O.P w ti.size c mY (.slice (GW ⟨p.b,p.o+o0,GX⟩) c c):=G3 (by lia) (fun j u hj=>by rw[oD];exact f3 j u hj)
   have hr:=OU (P:=O.P) (ty:=b') (w:=w) AY hu zK NY rfl NZ dh (by lia) c1 c2;have lf:=grownCap_ge w (c+n) c e;have dd:=aoe (ct:=ct) (e:=e) (z:=zv) (cap:=grownCap w (c+n) c e) hh (mF f1 iP) (need:=c+n) (sz:=ti.size) (by rw[yM,f2,Rc,dh.2.1,wg]) Gk (pu&&aE new) oS lf;exact⟨_,_,⟨w.heap.size,0,grownCap w (c+n) c e*ti.size,ti.size⟩,aO _ _ (by rw[ex];exact hr),rfl,by simp[jf],fun m' hle hi=>⟨dd m' hle hi,by simp only[aj];exact⟨_,_,hi,rfl,lf,by simp⟩⟩⟩
def alg(hl:cU hp Hq){q:Nat×List AV}(h:mK hp sz v=GW q):mK Hq sz v=GW q:=by
 cases v<;>simp only[mK,reduceCtorEq] at h ⊢
 .exact h
 .exact h
 .rename_i id o n
  cases hg:ax hp id with
  | none=>simp[hg] at h
  | some ob=>
   cases ob<;>simp only[hg,reduceCtorEq] at h
   obtain⟨o',h1,r,rfl,_⟩:=hl id _ hg;simp only[h1];exact h
def amk(hl:cU hp Hq){q:Nat×List AV}(h:jy hp sz v=GW q):jy Hq sz v=GW q:=by
 by_cases hs:∃b,v=.str b
 .obtain ⟨b,rfl⟩:=hs;exact h
 .have e:∀hp:Hp,jy hp sz v=mK hp sz v:=fun hp=>by
   cases v<;>first
    | rfl
    | exact absurd ⟨_,rfl⟩ hs
  rw[e] at h ⊢;exact alg hl h
def aog(hl:cU hp Hq){b:Nat}{x y:AV}(h:Ar hp ct sz b x (jy hp sz y)=GW (v,ef)):Ar Hq ct sz b x (jy Hq sz y)=GW (v,ef):=by
 cases hs:jy hp sz y with
 | none=>rw[hs] at h;simp[Ar] at h
 | some q=>
  rw[amk hl hs];rw[hs] at h;have⟨n,new⟩:=q;cases x<;>simp only[Ar,reduceCtorEq] at h ⊢
  rename_i id o k
  cases hg:ax hp id with
  | none=>simp[hg] at h
  | some ob=>
   cases ob with
   | cells eN pu ex z cs=>
    cases ex with
    | false=>simp[hg] at h
    | true=>
     obtain⟨o',h1,r,rfl,_⟩:=hl id _ hg;simp only[hg] at h;simp only[h1];exact h
   | _=>simp[hg] at h
def asA{o:yV}{k:Nat}(hH:fH O H)(ht:b7 O m S w tm a.tmps)(hh:aT O m S w hp cq)(hv:gV tm hp ct (aP O.P H k o)=GW (v,ef)):VA O m S w a ct o v ef:=by
 have iZ:∀{r:AV×Obj},gV tm hp ct bad=GW r->False:=fun h=>by simp[bad,gV] at h
 cases ho:o.op with
 | call c=>
  obtain⟨callee,args,ts⟩:=c;simp only[aP,ho] at hv
  split at hv
  .cases DN:H.mode k<;>simp[DN,gV] at hv
  .rename_i _ b
   split at hv
   .rename_i x y t u eQ n7;obtain⟨al⟩:=args;obtain⟨tl⟩:=ts;simp only at eQ n7;subst eQ;subst n7;obtain⟨cs,dY⟩:=Bk (O:=O) (w:=w) (a:=a) ho;have Fw:(execOp a.eval o).run O.P w=((do pure (.value (<-Builtin.append_ #[t,u] o.type #[a.eval x,a.eval y])):Sem yaE)).run O.P w:=by
     rw[dY];simp[builtin]
    have key:∀{z:AV} {sz bX:Nat} {e:yE},O.P.underlying t=GW (.slice e)->((∃e',O.P.underlying u=GW (.slice e'))\/O.P.underlying u=GW .string)->cC O.P e=GW sz->AP O.P e=GW bX->mP O.P e=GW z->
      gV tm hp ct (bif yp (cellsOf z).length sz then .c9 sz bX (aK H x) (aK H y) else bad)=GW (v,ef)->VA O m S w a ct o v ef:=by
     intro z sz bX e h1 h2 h3 h4 h5 h
     cases hb:yp (cellsOf z).length sz with
     | false=>rw[hb] at h;exact (iZ h).elim
     | true=>
      rw[hb] at h;exact aof hH ht hh Fw h1 h2 h3 h4 h5 (yh hb) h
    split at hv
    .rename_i e e' h1 h2
     split at hv
     .rename_i sz bX z h3 h4 h5
      exact key h1 (.inl ⟨_,h2⟩) h3 h4 h5 hv
     .exact (iZ hv).elim
    .rename_i e h1 h2
     split at hv
     .rename_i sz bX z h3 h4 h5
      exact key h1 (.inr h2) h3 h4 h5 hv
     .exact (iZ hv).elim
    .exact (iZ hv).elim
   .repeat' split at hv
    all_goals simp[gV,bad] at hv
   .repeat' split at hv
    all_goals simp[gV,bad] at hv
   .simp [gV] at hv
   .simp [gV] at hv
   .simp [gV] at hv
   .simp [gV] at hv
   .simp [gV] at hv
   .exact (iZ hv).elim
  .exact (iZ hv).elim
 | next x b=>
  cases b<;>simp[aP,ho,gV,bad] at hv
 | binOp op t x y ty=>
  cases op<;>simp only[aP,ho,oC,pL] at hv
  case eql=>
        repeat' split at hv
        all_goals first
         | (simp[gV,bad] at hv;done)
         | (cases hb:(O.P.stoodInHeld t||O.P.eqGuardType O.P.depth t)<;>rw[hb] at hv<;>simp[gV,bad] at hv)
  case neq=>
        repeat' split at hv
        all_goals first
         | (simp[gV,bad] at hv;done)
         | (cases hb:(O.P.stoodInHeld t||O.P.eqGuardType O.P.depth t)<;>rw[hb] at hv<;>simp[gV,bad] at hv)
  all_goals simp[gV] at hv
 | buildSlice t n parts=>
  simp only[aP,ho] at hv
  repeat' split at hv
  all_goals first
   | (simp[gV,bad] at hv;done)
   | (
     revert hv;generalize yJ _ _=bb;intro hv;cases bb<;>simp[gV,bad] at hv
     try (split at hv<;>simp[gV,bad] at hv))
 | makeMap t r=>
  cases r<;>simp only[aP,ho] at hv
  .repeat' split at hv
   all_goals simp[gV,bad] at hv
  .exact (iZ hv).elim
 | _=>
  simp only[aP,ho] at hv
  (repeat' split at hv)
  all_goals first
   | contradiction
   | (simp[gV,bad] at hv;done)
end
end
end
section
open Go
section
variable {bk:Hp}{cap first aw z:List AV}{g k n sz:Nat}{P:xy}
section
variable {O:bz}{H:Hint}{m:Mp}{S:Nat->Prop}{w:ym}{tm:Env}{a:Act}{hp au Hq:Hp}{ct aX cH:Nat}{self:cw}{ro:Option Nat}{next:Act->ym->Prop}{Q:uz->Act->ym->Prop}
def abO{g:yal}{p:Pl}{S':Nat->Prop}{base:Nat}(hh:aT O m S w Hq cH)(hi:m ct=GX)(hb:p.b=w.heap.size)(h1:∀b,S b->S' b)(h2:∀b,S' b->S b\/b=w.heap.size):
  cr m S w Hq (fU m ct p) S' (w.alloc g) Hq base where
 os:=rfl
 tape:=rfl
 output:=rfl
 size:=by simp
 same b hb _:=alloc_old hb
 sub:=h1
 still b hb:=alloc_old (hh.slt b hb)
 new b hb:=(h2 b hb).imp (fun h=>h) (fun h=>.inr (by lia))
 own b hb:=by
  have⟨i,o,q,g1,g2,g3⟩:=hb;by_cases hc:i=ct
  .subst hc;rw[dI] at g2
   grind
  .rw [eK hc] at g2;exact .inl ⟨i,o,q,g1,g2,g3⟩
 old i q _ h:=jx hi i q h
 loops b r hb:=⟨r,(alloc_old (xD.1 hb).1).trans hb⟩
def aaD{QB:List AV}{us:List yj}(hz:cg deep hp QB=GW (aw,bk))(hl:cU bk Hq)(hh:aT O m S w Hq cH)(hr:aB O.ah m S w QB us):aB O.ah fp S w aw us/\aE aw=ycN:=by
 have⟨_,_,h3⟩:=TU (O:=O) hz;have⟨k1,k2⟩:=h3 Hq m S w cH hl hh;exact⟨Bn (fun _ h=>h) (fun _ _=>rfl) _ _ k2 (k1 us hr),k2⟩
def Vg(hh:aT O m S w Hq cH):De O w:=⟨hh.mX,hh.gJ⟩
def PA(hH:fH O H)(ht:b7 O m S w tm a.tmps){f:xC}{args:Array xC}(hf:az tm (aK H f)=.fn (.f g) first cap):
  ∃fi ca:Array yj,a.eval f=.func (.func (O.ah g)) fi ca/\aB O.ah m S w (first++(dL tm (iK H args.toList)++cap)) (fi++args.map a.eval++ca).toList:=by
 have rf:=b8 hH ht f;rw[hf] at rf;have⟨fi,ca,h1,h2,h3⟩:=rf;refine⟨fi,ca,h1,?_⟩
 have:=mF h2 (mF (EQ hH ht args.toList) h3)
 simp_all
def alh(hC:pM O self)(hH:fH O H){o:yV}{c:yac}{f:xC}(ho:o.op=.call c)(jr:c.callee=.value f){r:AV}(hf:az tm (aK H f)=.fn (.f g) first cap)(hz:cg deep hp (first++(dL tm (iK H c.args.toList)++cap))=GW (aw,bk))(hr:bS O.prog O.aI self g aw=GW r)(hl:cU bk Hq)(ht:b7 O m S w tm a.tmps)(hh:aT O m S w Hq cH)(hn:∀u S' w',aT O m S' w' Hq cH->aj O.ah m S' w' (shut r) u->cr m S w Hq m S' w' Hq cH->next (a.put o.dst u) w'):o.wpIn (WF ro) 0 O.P a w next Q:=by
 have⟨fi,ca,h1,h2⟩:=PA hH ht (args:=c.args) hf;have⟨h3,h4⟩:=aaD hz hl hh h2;refine O5 ho jr h1 (hC.pure g aw r hr w S _ (Vg hh) hh.slt h3 h4) ?_;rintro e w' ⟨u,S',rfl,hw,g1,g2,g3,g4⟩;refine⟨u,rfl,?_⟩;have⟨S2,k1,k2,k3⟩:=abK g4 m;have hS:∀b,S b->S2 b:=fun b hb=>k1 b (g1 b hb)
 have DQ:∀b,S2 b->S b\/w.heap.size<=b:=fun b hb=>(k2 b hb).elim (g2 b) (fun h=>.inr h.1)
 have hl:∀b,S2 b->b<w'.heap.size:=fun b hb=>(k2 b hb).elim (g3 b) (fun h=>h.2)
 exact hn u S2 w' (CF hh hw hS DQ hl) k3 (Bp hh hw hS DQ)
def aml(hC:pM O self)(hH:fH O H){o:yV}{c:yac}{f:xC}(ho:o.op=.call c)(jr:c.callee=.value f){r:AV}(hf:az tm (aK H f)=.fn (.f g) first cap)(hz:cg deep hp (first++(dL tm (iK H c.args.toList)++cap))=GW (aw,bk))(hr:bS O.prog O.aI self g aw=GW r)(hl:cU (own bk ct r).2.1 Hq)(hZ:(own bk ct r).2.2<=cH)(aH:∀id o,ax hp id=GW o->id<ct)(nt:∀id,ct<=id->id<(own bk ct r).2.2->m id=GX)(ht:b7 O m S w tm a.tmps)(hh:aT O m S w Hq cH)(hn:∀u m' S' w',aT O m' S' w' Hq cH->dz m m'->(∀id p,m' id=GW p->m id=GW p\/(ct<=id/\id<(own bk ct r).2.2))->aj O.ah m' S' w' (own bk ct r).1 u->cr m S w Hq m' S' w' Hq cH->next (a.put o.dst u) w'):
  o.wpIn (WF ro) 0 O.P a w next Q:=by
 have⟨fi,ca,h1,h2⟩:=PA hH ht (args:=c.args) hf;have⟨z1,z2,z3⟩:=TU (O:=O) hz;have WW:∀id o,ax bk id=GW o->id<ct:=fun id o h=>by
  have:=z2 id
  rw[h] at this
  cases hq:ax hp id with
  | none=>rw[hq] at this;cases this
  | some q=>exact aH id q hq
 have asB:∀id o,ax bk id=GW o->ax (own bk ct r).2.1 id=GW o:=fun id o h=>by
  cases r with
  | av vs=>exact PZ WW id o h
  | _=>exact Vf WW id o h
 have jn:cU bk Hq:=fun id o h=>hl id o (asB id o h)
 have⟨h3,h4⟩:=aaD hz jn hh h2;refine O5 ho jr h1 (hC.pure g aw r hr w S _ (Vg hh) hh.slt h3 h4) ?_;rintro e w' ⟨u,S',rfl,hw,g1,g2,g3,g4⟩;refine⟨u,rfl,?_⟩;have DR:=CF hh hw g1 g2 g3;have AT:=Bp (base:=cH) hh hw g1 g2;have⟨m',S2,k1,k2,k3,k4,k5,k6⟩:=asz (lo:=w.heap.size) DR hl hZ WW nt g4 hh.gJ (fun j q hq=>hh.blt j q hq);refine hn u m' S2 w' k1 k2 (fun id p h=>(k3 id p h).imp (fun h=>h) (fun h=>⟨h.1,h.2.1⟩)) k4 ⟨hw.os,hw.tape,hw.output,hw.size,fun b hb _=>hw.same b hb,fun b hb=>k5 b (g1 b hb),fun b hb=>hw.same b (hh.slt b hb),?_,?_,fun i q _ h=>k2 i q h,AT.loops⟩
 .grind
 .rintro b ⟨i,ob,q,q1,q2,q3⟩;rcases k3 i q q2 with h | h
  .exact .inl ⟨i,ob,q,q1,h,q3⟩
  .grind
def ali{H:Hint}{o:yV}{b:Nat}{x y:X}(hk:Op.sE sz b x y=aP P H k o):False:=by
 cases ho:o.op with
 | call c=>
  have⟨callee,args,ts⟩:=c;simp only[aP,ho] at hk
  split at hk
  .rename_i f;cases hm:H.mode k<;>simp only[hm,reduceCtorEq] at hk
  .repeat' split at hk
   all_goals first
    | (cases hk;done)
    | (simp only[bad] at hk;cases hk;done)
    | (revert hk;generalize yp _ _=bb;intro hk;cases bb<;>simp[bad] at hk)
  .simp only [bad] at hk;cases hk
 | binOp op t x' y ty=>
  cases op<;>simp only[aP,ho,oC,pL] at hk
  case eql=>
        repeat' split at hk
        all_goals first
         | (cases hk;done)
         | (simp only[bad] at hk;cases hk;done)
         | (cases bD:(P.stoodInHeld t||P.eqGuardType P.depth t)<;>rw[bD] at hk<;>simp[bad] at hk)
  case neq=>
        repeat' split at hk
        all_goals first
         | (cases hk;done)
         | (simp only[bad] at hk;cases hk;done)
         | (cases bD:(P.stoodInHeld t||P.eqGuardType P.depth t)<;>rw[bD] at hk<;>simp[bad] at hk)
  all_goals cases hk
 | buildSlice t n parts=>
  simp only[aP,ho] at hk
  repeat' split at hk
  all_goals first
   | (cases hk;done)
   | (simp only[bad] at hk;cases hk;done)
   | (revert hk;generalize yJ _ _=bb;intro hk;cases bb<;>simp[bad] at hk)
 | makeMap t r=>
  cases r<;>simp only[aP,ho] at hk
  .repeat' split at hk
   all_goals first
    | (cases hk;done)
    | (simp only[bad] at hk;cases hk;done)
  .simp only [bad] at hk;cases hk
 | next x' b=>
  cases b<;>simp only[aP,ho] at hk
  .simp only [bad] at hk;cases hk
  .cases hk
 | _=>
  simp only[aP,ho] at hk
  (repeat' split at hk)
  all_goals first
   | contradiction
   | (cases hk;done)
   | (simp only[bad] at hk;cases hk;done)
def asC{H:Hint}{o:yV}{b:Nat}{x y:X}(hq:oM P H (.sE sz b x y) o):∃k,Op.c9 sz b x y=aP P H k o:=by
 rcases hq with ⟨k,hk⟩ | ⟨_,_,_,_,_,h3⟩ | ⟨_,_,_,_,_,_,_,h3⟩ | ⟨_,_,_,_,_,_,_,h3⟩ | ⟨k,n9,b',x',y',h1,h3⟩ | ⟨_,_,_,_,_,_,h3⟩
 .exact (ali hk).elim
 .cases h3
 .cases h3
 .cases h3
 .simp only [Op.sE.injEq] at h3;obtain⟨rfl,rfl,rfl,rfl⟩:=h3;exact⟨k,h1⟩
 .cases h3
def alj{H:Hint}{o:yV}{ps:List (Nat×Nat×X)}(hk:Op.nl n sz z ps=aP P H k o):False:=by
 cases ho:o.op with
 | call c=>
  obtain⟨callee,args,ts⟩:=c;simp only[aP,ho] at hk
  split at hk
  .rename_i f;cases hm:H.mode k<;>simp only[hm,reduceCtorEq] at hk
  .repeat' split at hk
   all_goals first
    | (cases hk;done)
    | (simp only[bad] at hk;cases hk;done)
    | (revert hk;generalize yp _ _=bb;intro hk;cases bb<;>simp[bad] at hk)
  .simp only [bad] at hk;cases hk
 | binOp op t x' y ty=>
  cases op<;>simp only[aP,ho,oC,pL] at hk
  case eql=>
        repeat' split at hk
        all_goals first
         | (cases hk;done)
         | (simp only[bad] at hk;cases hk;done)
         | (cases bD:(P.stoodInHeld t||P.eqGuardType P.depth t)<;>rw[bD] at hk<;>simp[bad] at hk)
  case neq=>
        repeat' split at hk
        all_goals first
         | (cases hk;done)
         | (simp only[bad] at hk;cases hk;done)
         | (cases bD:(P.stoodInHeld t||P.eqGuardType P.depth t)<;>rw[bD] at hk<;>simp[bad] at hk)
  all_goals cases hk
 | buildSlice t n parts=>
  simp only[aP,ho] at hk
  repeat' split at hk
  all_goals first
   | (cases hk;done)
   | (simp only[bad] at hk;cases hk;done)
   | (revert hk;generalize yJ _ _=bb;intro hk;cases bb<;>simp[bad] at hk)
 | makeMap t r=>
  cases r<;>simp only[aP,ho] at hk
  .repeat' split at hk
   all_goals first
    | (cases hk;done)
    | (simp only[bad] at hk;cases hk;done)
  .simp only [bad] at hk;cases hk
 | next x' b=>
  cases b<;>simp only[aP,ho] at hk
  .simp only [bad] at hk;cases hk
  .cases hk
 | _=>
  simp only[aP,ho] at hk
  (repeat' split at hk)
  all_goals first
   | contradiction
   | (cases hk;done)
   | (simp only[bad] at hk;cases hk;done)
def asD{H:Hint}{o:yV}{ps:List (Nat×Nat×X)}(hq:oM P H (.nl n sz z ps) o):∃k,Op.jI n sz z ps=aP P H k o:=by
 rcases hq with ⟨k,hk⟩ | ⟨_,_,_,_,_,h3⟩ | ⟨_,_,_,_,_,_,_,h3⟩ | ⟨_,_,_,_,_,_,_,h3⟩ | ⟨_,_,_,_,_,_,h3⟩ | ⟨k,n',n9,z',ps',h1,h3⟩
 .exact (alj hk).elim
 .cases h3
 .cases h3
 .cases h3
 .cases h3
 .simp only [Op.nl.injEq] at h3;obtain⟨rfl,rfl,rfl,rfl⟩:=h3;exact⟨k,h1⟩
def asE(hH:fH O H)(ht:b7 O m S w tm a.tmps)(hh:aT O m S w hp ct){o:yV}{ps:List (Nat×Nat×X)}{v:AV}{hp0:Hp}(iy:Op.jI n sz z ps=aP O.P H k o)(hv:bg tm hp0 (.nl n sz z ps)=GW v):
  ∃u g,(execOp a.eval o).run O.P w=.ok (.value u) (w.alloc g)/\∀S':Nat->Prop,(∀b,S b->S' b)->S' w.heap.size->aj O.ah m S' (w.alloc g) v u:=by
 simp only[bg] at hv
 cases hf:fill tm z ps with
 | none=>simp[hf] at hv
 | some cs=>
  simp only[hf] at hv
  cases hc:(yp cs.length (n*sz)&&(yP 0 sz&&aE cs)) with
  | false=>rw[hc] at hv;cases hv
  | true=>
   rw[hc] at hv;simp only[yC,yd] at hv;subst hv;simp only[ye] at hc;obtain⟨c1,c2,c3⟩:=hc;have c1':=yh c1;have c2':=rm.1 c2;have hi:m ct=GX:=by
    cases hm:m ct with
    | none=>rfl
    | some p=>have:=hh.lt ct p hm;omega
   have cI:cP tm hp ct (aP O.P H k o)=GW (.aq ct 0 n,.cells ycN ycN ycN sz cs):=by
    rw[<-iy];simp only[cP,hf,c1,yC,c3]
   obtain⟨u,g,p,h1,h2,h3,h4⟩:=adH hH ht hh cI;refine⟨u,g,h1,fun S' hS hSn=>?_⟩;obtain⟨ho,hr⟩:=h4 (fU m ct p) (jx hi) dI;simp only[fJ] at ho;obtain⟨q,arr,t,g1,g2,g3,g4,g5,g6,g7,g8,_⟩:=ho;rw[dI] at g1;injection g1 with g1
   subst g1;simp only[aj,dI,yd] at hr;obtain⟨q,c,rfl,rfl,r3,r4⟩:=hr;simp only[aj];refine .inl ⟨_,_,c,rfl,r3,fun _=>?_,.inr (by rw[h2];exact hSn),c3,?_⟩
   .have e:=g6 trivial;rw[<-e,c1',g3,yf] at r4;exact uO c2' r4
   .rw [xd];exact CA hS (fun _ _=>rfl) cs _ _ c3 rfl g7
def quiet_step(hC:pM O self)(hH:fH O H){o:yV}{q:Op}{v:AV}(hk:bj q<=1)(hq:oM O.P H q o)(hd:∀c,o.op≠.defer c)(hv:aZ O.prog O.aI self tm hp ct q=GW (v,au,aX))(hl:cU au Hq)(hZ:aX<=cH)(aH:∀id o,ax hp id=GW o->id<ct)(nt:∀id,ct<=id->id<aX->m id=GX)(ht:b7 O m S w tm a.tmps)(hh:aT O m S w Hq cH)(hn:∀u m' S' w',aT O m' S' w' Hq cH->dz m m'->(∀id p,m' id=GW p->m id=GW p\/(ct<=id/\id<aX))->aj O.ah m' S' w' v u->cr m S w Hq m' S' w' Hq cH->next (a.put o.dst u) w'):
  o.wpIn (WF ro) 0 O.P a w next Q:=by
 by_cases Gm:∃sz b x y,q=.sE sz b x y
 .obtain ⟨sz,b,x,y,rfl⟩:=Gm;obtain⟨k,iy⟩:=asC hq;simp only[aZ] at hv
  cases hm:Ar hp ct sz b (az tm x) (jy hp sz (az tm y)) with
  | none=>simp[hm] at hv
  | some r=>
   obtain⟨v1,ef⟩:=r;simp only[hm,yd,yo] at hv;obtain⟨rfl,rfl,rfl⟩:=hv;have lR:cU hp Hq:=fun id o' jm=>hl id o' (by
    rw[fS,yI (by have:=aH id o' jm;omega)];exact jm)
   have bR:gV tm Hq ct (aP O.P H k o)=GW (v1,ef):=by rw[<-iy];exact aog lR hm
   have hi:=nt ct (yz _) (yaf _);obtain⟨u,g,p,h1,h2,h3,h4⟩:=asA hH ht hh bR;have N1:Calm w w.drew:=⟨rfl,rfl,rfl,yz _,fun _ _=>rfl⟩;have iQ:=CF hh N1 (S':=S) (fun _ h=>h) (fun _ h=>.inl h) hh.slt;have I8:cr m S w Hq m S w.drew Hq cH:=Bp hh N1 (fun _ h=>h) (fun _ h=>.inl h);obtain⟨S',k1,k2,k3⟩:=UF (i:=ct) (g:=g) (p:=p) iQ hi hZ h2 (fun o' jm=>by
    obtain⟨Yz,g1,g2⟩:=hl ct ef (by rw[fS];simp)
    rw[jm] at g1;injection g1 with g1
    subst g1
    have:=TM g2 dI (h4 _ (jx hi) dI).1 h3
    rwa[h2] at this)
   refine Hn hd h1 (.inl rfl) (hn u _ S' _ k1 (jx hi) (fun id q hq=>?_) (mI (fun _ _ h=>h) k2 (fun _ _=>rfl) _ _ (h4 _ (jx hi) dI).2) (I8.trans (abO iQ hi h2 k2 k3)));by_cases hc:id=ct
   .exact .inr (by omega)
   .rw [eK hc] at hq;exact .inl hq
 by_cases DS:∃n sz z ps,q=.nl n sz z ps
 .obtain ⟨n,sz,z,ps,rfl⟩:=DS;obtain⟨k,iy⟩:=asD hq;simp only[aZ] at hv
  cases hm:bg tm hp (.nl n sz z ps) with
  | none=>simp[hm] at hv
  | some r=>
   simp only[hm,yd,yo] at hv;obtain⟨rfl,rfl,rfl⟩:=hv;obtain⟨u,g,h1,h2⟩:=asE hH ht hh iy hm;have N1:Calm w (w.alloc g):=⟨rfl,rfl,rfl,by simp,fun b hb=>alloc_old hb⟩
   let S':Nat->Prop:=fun b=>S b\/b=w.heap.size
   have hS:∀b,S b->S' b:=fun b hb=>.inl hb
   have DQ:∀b,S' b->S b\/w.heap.size<=b:=fun b hb=>hb.imp id (fun e=>by omega)
   have Ce:∀b,S' b->b<(w.alloc g).heap.size:=fun b hb=>by
    rcases hb with hb | hb
    .have:=hh.slt b hb;simp;omega
    .subst hb;simp
   refine Hn hd h1 (.inl rfl) (hn u m S' _ (CF hh N1 hS DQ Ce) dz.refl (fun _ _ h=>.inl h) (h2 S' hS (.inr rfl)) (Bp hh N1 hS DQ))
 have iy:∃k,q=aP O.P H k o:=by
  rcases hq with h | ⟨c,f,rs,_,_,rfl⟩ | ⟨_,_,_,_,_,_,_,rfl⟩ | ⟨_,_,_,_,_,_,_,rfl⟩ | ⟨_,_,_,_,_,_,h⟩ | ⟨_,_,_,_,_,_,h⟩
  .exact h
  .simp [bj] at hk
  .simp [bj] at hk
  .simp [bj] at hk
  .exact (Gm ⟨_,_,_,_,h⟩).elim
  .exact (DS ⟨_,_,_,_,h⟩).elim
 obtain⟨k,hq⟩:=iy;have read:∀{v:AV},bg tm hp q=GW v->cU hp Hq->(∀u m' S' w',aT O m' S' w' Hq cH->dz m m'->(∀id p,m' id=GW p->m id=GW p\/(ct<=id/\id<aX))->aj O.ah m' S' w' v u->cr m S w Hq m' S' w' Hq cH->next (a.put o.dst u) w')->o.wpIn (WF ro) 0 O.P a w next Q:=by
  intro v hr hl hn;have bR:=ame hl hr;rw[hq] at bR;obtain⟨u,h1,h2⟩:=adF hH ht hh bR;exact Hn hd h1 (.inl rfl) (hn u m S w hh dz.refl (fun _ _ h=>.inl h) h2 cr.refl)
 have makes:∀{v:AV} {b:Obj},cP tm hp ct q=GW (v,b)->cU ((ct,b)::hp) Hq->ct+1<=cH->m ct=GX->(∀u m' S' w',aT O m' S' w' Hq cH->dz m m'->(∀id p,m' id=GW p->m id=GW p\/(ct<=id/\id<ct+1))->aj O.ah m' S' w' v u->cr m S w Hq m' S' w' Hq cH->next (a.put o.dst u) w')->o.wpIn (WF ro) 0 O.P a w next Q:=by
  intro v b hr hl hc hi hn;rw[hq] at hr;have bR:cP tm Hq ct (aP O.P H k o)=GW (v,b):=by rw[<-hr];exact Ks (fun _ _=>rfl)
  obtain⟨u,g,p,h1,h2,h3,h4⟩:=adH hH ht hh bR;obtain⟨S',k1,k2,k3⟩:=UF (i:=ct) (g:=g) (p:=p) hh hi hc h2 (fun o' jm=>by
   obtain⟨Yz,g1,g2⟩:=hl ct b (by rw[fS];simp)
   rw[jm] at g1;injection g1 with g1
   subst g1
   have:=TM g2 dI (h4 _ (jx hi) dI).1 h3
   rwa[h2] at this)
  refine Hn hd h1 (.inl rfl) (hn u _ S' _ k1 (jx hi) (fun id q hq=>?_) (mI (fun _ _ h=>h) k2 (fun _ _=>rfl) _ _ (h4 _ (jx hi) dI).2) (abO hh hi h2 k2 k3));by_cases hc:id=ct
  .exact .inr (by omega)
  .rw [eK hc] at hq;exact .inl hq
 have cI:∀{q:Op},(match cP tm hp ct q with | some (v,b)=>GW (v,(ct,b)::hp,ct+1) | none=>(GX:gL))=GW (v,au,aX)->∃b,cP tm hp ct q=GW (v,b)/\au=(ct,b)::hp/\aX=ct+1:=by
  intro q h
  cases hm:cP tm hp ct q with
  | none=>simp[hm] at h
  | some r=>
   obtain⟨v1,b⟩:=r;simp only[hm,yd,yo] at h;obtain⟨rfl,rfl,rfl⟩:=h;exact⟨b,rfl,rfl,rfl⟩
 have eT:∀{q:Op},(match bg tm hp q with | some v=>GW (v,hp,ct) | none=>(GX:gL))=GW (v,au,aX)->bg tm hp q=GW v/\au=hp/\aX=ct:=by
  intro q h
  cases hm:bg tm hp q with
  | none=>simp[hm] at h
  | some r=>
   simp only[hm,yd,yo] at h;obtain⟨rfl,rfl,rfl⟩:=h;exact⟨rfl,rfl,rfl⟩
 have Ld:(∃b,cP tm hp ct q=GW (v,b)/\au=(ct,b)::hp/\aX=ct+1)->o.wpIn (WF ro) 0 O.P a w next Q:=by
  rintro⟨b,h1,rfl,rfl⟩;exact makes h1 hl hZ (nt ct (yz _) (yaf _)) hn
 have asF:(bg tm hp q=GW v/\au=hp/\aX=ct)->o.wpIn (WF ro) 0 O.P a w next Q:=by
  rintro⟨h1,rfl,rfl⟩;exact read h1 hl hn
 cases q with
 | st _ _ _=>simp[bj] at hk
 | sB _ _ _ _=>simp[bj] at hk
 | sD _=>simp[bj] at hk
 | c9 _ _ _ _=>simp[bj] at hk
 | sF _ _ _=>simp[bj] at hk
 | jD _ _ _=>simp[bj] at hk
 | lO _ _ _ _=>simp[bj] at hk
 | lP _ _ _ _ _=>simp[bj] at hk
 | sE sz b x y=>exact (Gm ⟨sz,b,x,y,rfl⟩).elim
 | box s x=>exact Ld (cI (by simp only[aZ] at hv;exact hv))
 | jI n s z ps=>exact Ld (cI (by simp only[aZ] at hv;exact hv))
 | qt s b z x y=>exact Ld (cI (by simp only[aZ] at hv;exact hv))
 | B9=>exact Ld (cI (by simp only[aZ] at hv;exact hv))
 | sC x=>exact Ld (cI (by simp only[aZ] at hv;exact hv))
 | call md x xs=>
  cases md with
  | heap=>simp[bj] at hk
  | dyn=>simp[bj] at hk
  | pure=>
   simp only[aZ,fj] at hv
   split at hv
   .rename_i g first cap hx
    (try simp only at hv)
    cases hz:cg deep hp (first++(dL tm xs++cap)) with
    | none=>simp[hz] at hv
    | some z=>
     obtain⟨aw,bk⟩:=z;simp only[hz] at hv
     cases hr:bS O.prog O.aI self g aw with
     | none=>simp[hr] at hv
     | some r=>
      simp only[hr,yd,yo] at hv;obtain⟨rfl,rfl,rfl⟩:=hv;obtain⟨c,f,ho,jr,rfl,rfl⟩:=P0 hq.symm (by rintro rfl;simp[az] at hx);exact alh hC hH ho jr hx hz hr hl ht hh (fun u S' w' h1 h2 h3=>hn u m S' w' h1 dz.refl (fun _ _ h=>.inl h) h2 h3)
   .simp at hv
   .cases hv
  | own=>
   simp only[aZ,fj] at hv
   split at hv
   .rename_i g first cap hx
    (try simp only at hv)
    cases hz:cg deep hp (first++(dL tm xs++cap)) with
    | none=>simp[hz] at hv
    | some z=>
     obtain⟨aw,bk⟩:=z;simp only[hz] at hv
     cases hr:bS O.prog O.aI self g aw with
     | none=>simp[hr] at hv
     | some r=>
      simp only[hr,yd] at hv;obtain⟨c,f,ho,jr,rfl,rfl⟩:=P0 hq.symm (by rintro rfl;simp[az] at hx);have e1:v=(own bk ct r).1:=by rw[hv]
      have e2:au=(own bk ct r).2.1:=by rw[hv]
      have e3:aX=(own bk ct r).2.2:=by rw[hv]
      subst e1;subst e2;subst e3;exact aml hC hH ho jr hx hz hr hl hZ aH nt ht hh hn
   .simp at hv
   .cases hv
 | _=>exact asF (eT (by simp only[aZ] at hv;exact hv))
end
end
end
section
open Go
section
variable {r v:AV}{b sz:Nat}{q:Op}{P:xy}{x y:X}
section
variable {O:bz}{H:Hint}{m:Mp}{S:Nat->Prop}{w:ym}{tm:Env}{a:Act}{hp au:Hp}{ct aX:Nat}{self:cw}{ro:Option Nat}{next:Act->ym->Prop}{Q:uz->Act->ym->Prop}
def cr.AB{m':Mp}{S':Nat->Prop}{w':ym}{b':Nat}(h:cr m S w hp m' S' w' au b)(hb:b'<=b):cr m S w hp m' S' w' au b':=
 ⟨h.os,h.tape,h.output,h.size,h.same,h.sub,h.still,h.new,h.own,fun i q hi hq=>h.old i q (by lia) hq,h.loops⟩
def asG{hp:Hp}{ct:Nat}(aH:∀id o,ax hp id=GW o->id<ct):∀id o,ax (own hp ct r).2.1 id=GW o->id<(own hp ct r).2.2:=by
 have hL:∀(vs:List AV) (hp:Hp) (ct:Nat),(∀id o,ax hp id=GW o->id<ct)->∀id o,ax (kV hp ct vs).2.1 id=GW o->id<(kV hp ct vs).2.2:=by
  intro vs
  induction vs with
  | nil=>intro hp ct h id o ho;exact h id o ho
  | cons v r ih=>intro hp ct h id o ho;exact ih _ _ (KV h) id o ho
 cases r with
 | av vs=>exact hL vs hp ct aH
 | _=>exact KV aH
def asH{hp:Hp}{ct:Nat}(aH:∀id o,ax hp id=GW o->id<ct):∀id o,ax hp id=GW o->ax (own hp ct r).2.1 id=GW o:=by
 cases r with
 | av vs=>exact PZ aH
 | _=>exact Vf aH
def asI{hp:Hp}{ct:Nat}:ct<=(own hp ct r).2.2:=by
 cases r with
 | av vs=>exact PY
 | _=>exact PX
def aoh{hp:Hp}{ct:Nat}:∀id o,ax (own hp ct r).2.1 id=GW o->id<ct->ax hp id=GW o:=by
 have h1:∀(hp:Hp) (ct:Nat) (r:AV) id o,ax (fT hp ct r).2.1 id=GW o->id<ct->ax hp id=GW o:=by
  intro hp ct r id o h hc;cases r<;>simp only[fT] at h<;>try exact h
  rw[fS,yI (by lia)] at h;exact h
 have hL:∀(vs:List AV) (hp:Hp) (ct:Nat) id o,ax (kV hp ct vs).2.1 id=GW o->id<ct->ax hp id=GW o:=by
  intro vs
  induction vs with
  | nil=>intro hp ct id o ho _;exact ho
  | cons v r ih=>intro hp ct id o ho hc;exact h1 hp ct v id o (ih _ _ id o ho (by have:=PX (hp:=hp) (ct:=ct) (r:=v);lia)) hc
 cases r with
 | av vs=>exact hL vs hp ct
 | _=>exact h1 hp ct _
structure jh(hp:Hp)(ct:Nat)(au:Hp)(aX:Nat):Prop where
 le:cU hp au
 sI:ct<=aX
 lt:∀id o,ax au id=GW o->id<aX
 back:∀id o,ax au id=GW o->id<ct->∃o',ax hp id=GW o'
def jh.refl(aH:∀id o,ax hp id=GW o->id<ct):jh hp ct hp ct:=⟨cU.refl,yz _,aH,fun _ o h _=>⟨o,h⟩⟩
def jh.trans{ML:Hp}{agE:Nat}(h:jh hp ct au aX)(k:jh au aX ML agE):jh hp ct ML agE:=
 ⟨h.le.trans k.le,xn h.sI k.sI,k.lt,fun id o ho hi=>let ⟨o1,h1⟩:=k.back id o ho (yR hi h.sI);h.back id o1 h1 hi⟩
def abP{QB aw:List AV}{bk:Hp}(hz:cg deep hp QB=GW (aw,bk))(aH:∀id o,ax hp id=GW o->id<ct):jh hp ct bk ct:=by
 have⟨z1,z2,_⟩:=TU (O:=⟨default,⟨fun _=>GX,fun _=>GX⟩,fun _=>0,fun _=>GX,fun _=>⟨0,fun _=>GX,fun _=>[],fun _=>GX,fun _=>.pure,fun _=>[]⟩,default⟩) hz;have hb:∀id o,ax bk id=GW o->∃o',ax hp id=GW o':=fun id o h=>by
  have:=z2 id
  rw[h] at this
  cases hq:ax hp id with
  | none=>rw[hq] at this;cases this
  | some q=>exact⟨q,rfl⟩
 exact⟨z1,yz _,fun id o h=>let ⟨o',h'⟩:=hb id o h;aH id o' h',fun id o h _=>hb id o h⟩
def amm(aH:∀id o,ax hp id=GW o->id<ct):jh hp ct (own hp ct r).2.1 (own hp ct r).2.2:=
 ⟨fun id o h=>⟨o,asH aH id o h,jo.refl o⟩,asI,asG aH,fun id o h hi=>⟨o,aoh id o h hi⟩⟩
def aaE{P:aG}{L:Lib}(hk:bj q<=1)(hv:aZ P L self tm hp ct q=GW (v,au,aX))(aH:∀id o,ax hp id=GW o->id<ct):jh hp ct au aX:=by
 have cI:∀{q:Op},(match cP tm hp ct q with | some (v,b)=>GW (v,(ct,b)::hp,ct+1) | none=>(GX:gL))=GW (v,au,aX)->jh hp ct au aX:=by
  intro q h
  cases hm:cP tm hp ct q with
  | none=>simp[hm] at h
  | some r=>
   have⟨v1,b⟩:=r;simp only[hm,yd,yo] at h;obtain⟨rfl,rfl,rfl⟩:=h;refine⟨fun id o ho=>⟨o,?_,jo.refl o⟩,by lia,fun id o ho=>?_,fun id o ho hi=>?_⟩
   .rw [fS,yI (by have:=aH id o ho;lia)];exact ho
   .rw [fS] at ho;by_cases hc:ct=id
    .lia
    .simp only [hc,xE] at ho;have:=aH id o ho;lia
   .rw [fS,yI (by lia)] at ho;exact⟨o,ho⟩
 have eT:∀{q:Op},(match bg tm hp q with | some v=>GW (v,hp,ct) | none=>(GX:gL))=GW (v,au,aX)->jh hp ct au aX:=by
  intro q h
  cases hm:bg tm hp q with
  | none=>simp[hm] at h
  | some r=>
   simp only[hm,yd,yo] at h;obtain⟨rfl,rfl,rfl⟩:=h;exact jh.refl aH
 cases bB:q with
 | st _ _ _=>simp[bB,bj] at hk
 | sB _ _ _ _=>simp[bB,bj] at hk
 | sD _=>simp[bB,bj] at hk
 | c9 _ _ _ _=>simp[bB,bj] at hk
 | sF _ _ _=>simp[bB,bj] at hk
 | jD _ _ _=>simp[bB,bj] at hk
 | lO _ _ _ _=>simp[bB,bj] at hk
 | lP _ _ _ _ _=>simp[bB,bj] at hk
 | sE sz b x y=>
  rw[bB] at hv;simp only[aZ] at hv
  cases hm:Ar hp ct sz b (az tm x) (jy hp sz (az tm y)) with
  | none=>simp[hm] at hv
  | some r=>
   have⟨v1,b⟩:=r;simp only[hm,yd,yo] at hv;obtain⟨rfl,rfl,rfl⟩:=hv;refine⟨fun id o ho=>⟨o,?_,jo.refl o⟩,by lia,fun id o ho=>?_,fun id o ho hi=>?_⟩
   .rw [fS,yI (by have:=aH id o ho;lia)];exact ho
   .rw [fS] at ho;by_cases hc:ct=id
    .lia
    .simp only [hc,xE] at ho;have:=aH id o ho;lia
   .rw [fS,yI (by lia)] at ho;exact⟨o,ho⟩
 | box s x=>exact cI (q:=q) (by rw[bB] at hv ⊢;simp only[aZ] at hv;exact hv)
 | jI n s z ps=>exact cI (q:=q) (by rw[bB] at hv ⊢;simp only[aZ] at hv;exact hv)
 | qt s b z x y=>exact cI (q:=q) (by rw[bB] at hv ⊢;simp only[aZ] at hv;exact hv)
 | B9=>exact cI (q:=q) (by rw[bB] at hv ⊢;simp only[aZ] at hv;exact hv)
 | sC x=>exact cI (q:=q) (by rw[bB] at hv ⊢;simp only[aZ] at hv;exact hv)
 | call md x xs=>
  subst bB;simp only[aZ,fj] at hv
  split at hv
  .rename_i g first cap hx
   cases md with
   | heap=>simp[bj] at hk
   | dyn=>simp[bj] at hk
   | pure=>
    simp only at hv
    cases hz:cg deep hp (first++(dL tm xs++cap)) with
    | none=>simp[hz] at hv
    | some z=>
     have⟨aw,bk⟩:=z;simp only[hz] at hv
     cases hr:bS P L self g aw with
     | none=>simp[hr] at hv
     | some r=>
      simp only[hr,yd,yo] at hv;obtain⟨rfl,rfl,rfl⟩:=hv;exact abP hz aH
   | own=>
    simp only at hv
    cases hz:cg deep hp (first++(dL tm xs++cap)) with
    | none=>simp[hz] at hv
    | some z=>
     have⟨aw,bk⟩:=z;simp only[hz] at hv
     cases hr:bS P L self g aw with
     | none=>simp[hr] at hv
     | some r=>
      simp only[hr,yd] at hv;have e2:au=(own bk ct r).2.1:=by rw[hv]
      have e3:aX=(own bk ct r).2.2:=by rw[hv]
      subst e2;subst e3;have g1:=abP hz aH;exact g1.trans (amm g1.lt)
  .cases md with
   | heap=>simp[bj] at hk
   | dyn=>simp[bj] at hk
   | _=>simp at hv
  .cases hv
 | _=>exact eT (q:=q) (by rw[bB] at hv ⊢;simp only[aZ] at hv;exact hv)
def PB(hh:aT O m S w hp ct)(hg:jh hp ct au aX):∃S',aT O m S' w au aX/\(∀b,S b->S' b)/\(∀b,S' b->S b\/eH m hp b)/\∀base,cr m S w hp m S' w au base:=by
 have hd:∀id o p,ax au id=GW o->m id=GW p->∃o',ax hp id=GW o':=fun id o p h hm=>hg.back id o h (hh.lt id p hm)
 have⟨S',g1,g2,g3⟩:=adG hh hg.le hd hg.sI hg.lt;refine⟨S',g1,g2,g3,fun base=>⟨rfl,rfl,rfl,yz _,fun _ _ _=>rfl,g2,fun _ _=>rfl,fun b hb=>(g3 b hb).imp (fun h=>h) .inl,?_,fun _ _ _ h=>h,fun _ r h=>⟨r,h⟩⟩⟩;rintro b ⟨i,o,p,h1,h2,h3⟩;have⟨o',h4⟩:=hd i o p h1 h2;exact .inl ⟨i,o',p,h4,h2,h3⟩
def aoi(hv:cz tm hp ct q=GW (v,au,aX)):ct<=aX:=by
 cases q<;>simp only[cz,reduceCtorEq] at hv
 all_goals
  grind
def UI{H:Hint}{o:yV}{rs:List (Nat×Bool×Nat)}{xs:List X}(hq:oM P H (.jD rs x xs) o):∃c f,o.op=.call c/\c.callee=.value f/\x=aK H f/\xs=iK H c.args.toList:=by
 rcases hq with ⟨k,hk⟩ | ⟨c,f,rs',h1,h2,h3⟩ | ⟨_,_,_,_,_,_,_,h3⟩ | ⟨_,_,_,_,_,_,_,h3⟩ | ⟨_,_,_,_,_,_,h3⟩ | ⟨_,_,_,_,_,_,h3⟩
 .cases ho:o.op with
  | call c=>
   obtain⟨callee,args,ts⟩:=c;simp only[aP,ho] at hk
   split at hk
   .rename_i f;cases hm:H.mode k<;>simp only[hm,Op.jD.injEq,reduceCtorEq] at hk
    exact⟨_,f,rfl,rfl,hk.2.1,hk.2.2⟩
   .repeat' split at hk
    all_goals first
     | (cases hk;done)
     | (simp only[bad] at hk;cases hk;done)
     | (revert hk;generalize yp _ _=bb;intro hk;cases bb<;>simp[bad] at hk)
   .simp only [bad] at hk;cases hk
  | binOp op t x' y ty=>
   cases op<;>simp only[aP,ho,oC,pL] at hk
   case eql=>
         repeat' split at hk
         all_goals first
          | (cases hk;done)
          | (simp only[bad] at hk;cases hk;done)
          | (cases bD:(P.stoodInHeld t||P.eqGuardType P.depth t)<;>rw[bD] at hk<;>simp[bad] at hk)
   case neq=>
         repeat' split at hk
         all_goals first
          | (cases hk;done)
          | (simp only[bad] at hk;cases hk;done)
          | (cases bD:(P.stoodInHeld t||P.eqGuardType P.depth t)<;>rw[bD] at hk<;>simp[bad] at hk)
   all_goals cases hk
  | buildSlice t n parts=>
   simp only[aP,ho] at hk
   repeat' split at hk
   all_goals first
    | (cases hk;done)
    | (simp only[bad] at hk;cases hk;done)
    | (revert hk;generalize yJ _ _=bb;intro hk;cases bb<;>simp[bad] at hk)
  | makeMap t r=>
   cases r<;>simp only[aP,ho] at hk
   .repeat' split at hk
    all_goals first
     | (cases hk;done)
     | (simp only[bad] at hk;cases hk;done)
   .simp only [bad] at hk;cases hk
  | next x' b=>
   cases b<;>simp only[aP,ho] at hk
   .simp only [bad] at hk;cases hk
   .cases hk
  | _=>
   simp only[aP,ho] at hk
   (repeat' split at hk)
   all_goals first
    | contradiction
    | (cases hk;done)
    | (simp only[bad] at hk;cases hk;done)
 .simp only [Op.jD.injEq] at h3;exact⟨c,f,h1,h2,h3.2.1,h3.2.2⟩
 .cases h3
 .cases h3
 .cases h3
 .cases h3
def alk{H:Hint}{o:yV}{k:Nat}{rs:List (Nat×Bool×Nat)}(hk:Op.lO rs sz x y=aP P H k o):False:=by
 cases ho:o.op with
 | call c=>
  have⟨callee,args,ts⟩:=c;simp only[aP,ho] at hk
  split at hk
  .grind
  .repeat' split at hk
   all_goals first
    | (cases hk;done)
    | (simp only[bad] at hk;cases hk;done)
    | (revert hk;generalize yp _ _=bb;intro hk;cases bb<;>simp[bad] at hk)
  .simp only [bad] at hk;cases hk
 | binOp op t x' y ty=>
  cases op<;>simp only[aP,ho,oC,pL] at hk
  case eql=>
        repeat' split at hk
        all_goals first
         | (cases hk;done)
         | (simp only[bad] at hk;cases hk;done)
         | (cases bD:(P.stoodInHeld t||P.eqGuardType P.depth t)<;>rw[bD] at hk<;>simp[bad] at hk)
  case neq=>
        repeat' split at hk
        all_goals first
         | (cases hk;done)
         | (simp only[bad] at hk;cases hk;done)
         | (cases bD:(P.stoodInHeld t||P.eqGuardType P.depth t)<;>rw[bD] at hk<;>simp[bad] at hk)
  all_goals cases hk
 | buildSlice t n parts=>
  simp only[aP,ho] at hk
  repeat' split at hk
  all_goals first
   | (cases hk;done)
   | (simp only[bad] at hk;cases hk;done)
   | (revert hk;generalize yJ _ _=bb;intro hk;cases bb<;>simp[bad] at hk)
 | makeMap t r=>
  cases r<;>simp only[aP,ho] at hk
  .repeat' split at hk
   all_goals first
    | (cases hk;done)
    | (simp only[bad] at hk;cases hk;done)
  .simp only [bad] at hk;cases hk
 | next x' b=>
  cases b<;>simp only[aP,ho] at hk
  .simp only [bad] at hk;cases hk
  .cases hk
 | _=>
  simp only[aP,ho] at hk
  (repeat' split at hk)
  all_goals first
   | contradiction
   | (cases hk;done)
   | (simp only[bad] at hk;cases hk;done)
def alm{H:Hint}{o:yV}{k:Nat}{rs:List (Nat×Bool×Nat)}(hk:Op.lP rs sz b x y=aP P H k o):False:=by
 cases ho:o.op with
 | call c=>
  have⟨callee,args,ts⟩:=c;simp only[aP,ho] at hk
  split at hk
  .rename_i f;cases hm:H.mode k<;>simp only[hm,reduceCtorEq] at hk
  .repeat' split at hk
   all_goals first
    | (cases hk;done)
    | (simp only[bad] at hk;cases hk;done)
    | (revert hk;generalize yp _ _=bb;intro hk;cases bb<;>simp[bad] at hk)
  .simp only [bad] at hk;cases hk
 | binOp op t x' y ty=>
  cases op<;>simp only[aP,ho,oC,pL] at hk
  case eql=>
        repeat' split at hk
        all_goals first
         | (cases hk;done)
         | (simp only[bad] at hk;cases hk;done)
         | (cases bD:(P.stoodInHeld t||P.eqGuardType P.depth t)<;>rw[bD] at hk<;>simp[bad] at hk)
  case neq=>
        repeat' split at hk
        all_goals first
         | (cases hk;done)
         | (simp only[bad] at hk;cases hk;done)
         | (cases bD:(P.stoodInHeld t||P.eqGuardType P.depth t)<;>rw[bD] at hk<;>simp[bad] at hk)
  all_goals cases hk
 | buildSlice t n parts=>
  simp only[aP,ho] at hk
  repeat' split at hk
  all_goals first
   | (cases hk;done)
   | (simp only[bad] at hk;cases hk;done)
   | (revert hk;generalize yJ _ _=bb;intro hk;cases bb<;>simp[bad] at hk)
 | makeMap t r=>
  cases r<;>simp only[aP,ho] at hk
  .repeat' split at hk
   all_goals first
    | (cases hk;done)
    | (simp only[bad] at hk;cases hk;done)
  .simp only [bad] at hk;cases hk
 | next x' b=>
  cases b<;>simp only[aP,ho] at hk
  .simp only [bad] at hk;cases hk
  .cases hk
 | _=>
  simp only[aP,ho] at hk
  (repeat' split at hk)
  all_goals first
   | contradiction
   | (cases hk;done)
   | (simp only[bad] at hk;cases hk;done)
def aw1{H:Hint}{o:yV}(hq:oM P H (.st sz x y) o):∃t x' y',o.op=.store t x' y'/\cC P t=GW sz/\x=aK H x'/\y=aK H y':=by
 obtain⟨k,hk⟩:∃k,Op.st sz x y=aP P H k o:=by
  rcases hq with h | ⟨_,_,_,_,_,h⟩ | ⟨_,_,_,_,_,_,_,h⟩ | ⟨_,_,_,_,_,_,_,h⟩ | ⟨_,_,_,_,_,_,h⟩ | ⟨_,_,_,_,_,_,h⟩
  .exact h
  .cases h
  .cases h
  .cases h
  .cases h
  .cases h
 cases ho:o.op with
 | call c=>
  obtain⟨callee,args,ts⟩:=c;simp only[aP,ho] at hk
  split at hk
  .rename_i f;cases hm:H.mode k<;>simp only[hm,reduceCtorEq] at hk
  .repeat' split at hk
   all_goals first
    | (cases hk;done)
    | (simp only[bad] at hk;cases hk;done)
    | (revert hk;generalize yp _ _=bb;intro hk;cases bb<;>simp[bad] at hk)
  .simp only [bad] at hk;cases hk
 | binOp op t x' y ty=>
  cases op<;>simp only[aP,ho,oC,pL] at hk
  case eql=>
        repeat' split at hk
        all_goals first
         | (cases hk;done)
         | (simp only[bad] at hk;cases hk;done)
         | (cases bD:(P.stoodInHeld t||P.eqGuardType P.depth t)<;>rw[bD] at hk<;>simp[bad] at hk)
  case neq=>
        repeat' split at hk
        all_goals first
         | (cases hk;done)
         | (simp only[bad] at hk;cases hk;done)
         | (cases bD:(P.stoodInHeld t||P.eqGuardType P.depth t)<;>rw[bD] at hk<;>simp[bad] at hk)
  all_goals cases hk
 | buildSlice t n parts=>
  simp only[aP,ho] at hk
  repeat' split at hk
  all_goals first
   | (cases hk;done)
   | (simp only[bad] at hk;cases hk;done)
   | (revert hk;generalize yJ _ _=bb;intro hk;cases bb<;>simp[bad] at hk)
 | makeMap t r=>
  cases r<;>simp only[aP,ho] at hk
  .repeat' split at hk
   all_goals first
    | (cases hk;done)
    | (simp only[bad] at hk;cases hk;done)
  .simp only [bad] at hk;cases hk
 | next x' b=>
  cases b<;>simp only[aP,ho] at hk
  .simp only [bad] at hk;cases hk
  .cases hk
 | store t x' y'=>
  simp only[aP,ho] at hk
  split at hk
  .rename_i s hs;simp only[Op.st.injEq] at hk;obtain⟨rfl,rfl,rfl⟩:=hk;exact⟨t,x',y',rfl,hs,rfl,rfl⟩
  .simp only [bad] at hk;cases hk
 | _=>
  simp only[aP,ho] at hk
  (repeat' split at hk)
  all_goals first
   | contradiction
   | (cases hk;done)
   | (simp only[bad] at hk;cases hk;done)
def aeq{H:Hint}{o:yV}{rs:List (Nat×Bool×Nat)}(hq:oM P H (.lO rs sz x y) o):∃t x' y',o.op=.store t x' y'/\cC P t=GW sz/\x=aK H x'/\y=aK H y':=by
 rcases hq with ⟨k,hk⟩ | ⟨_,_,_,_,_,h3⟩ | ⟨t,x',y',n9,rs',h1,h2,h3⟩ | ⟨_,_,_,_,_,_,_,h3⟩ | ⟨_,_,_,_,_,_,h3⟩ | ⟨_,_,_,_,_,_,h3⟩
 .exact (alk hk).elim
 .cases h3
 .simp only [Op.lO.injEq] at h3;obtain⟨_,rfl,rfl,rfl⟩:=h3;exact⟨t,x',y',h1,h2,rfl,rfl⟩
 .cases h3
 .cases h3
 .cases h3
def aer{H:Hint}{o:yV}{rs:List (Nat×Bool×Nat)}(hq:oM P H (.lP rs sz b x y) o):∃k,Op.c9 sz b x y=aP P H k o:=by
 rcases hq with ⟨k,hk⟩ | ⟨_,_,_,_,_,h3⟩ | ⟨_,_,_,_,_,_,_,h3⟩ | ⟨k,rs',n9,b',x',y',h1,h3⟩ | ⟨_,_,_,_,_,_,h3⟩ | ⟨_,_,_,_,_,_,h3⟩
 .exact (alm hk).elim
 .cases h3
 .cases h3
 .simp only [Op.lP.injEq] at h3;obtain⟨_,rfl,rfl,rfl,rfl⟩:=h3;exact⟨k,h1⟩
 .cases h3
 .cases h3
def aes{H:Hint}{o:yV}(hq:oM P H (.c9 sz b x y) o):∃k,Op.c9 sz b x y=aP P H k o:=by
 rcases hq with h | ⟨_,_,_,_,_,h3⟩ | ⟨_,_,_,_,_,_,_,h3⟩ | ⟨_,_,_,_,_,_,_,h3⟩ | ⟨_,_,_,_,_,_,h3⟩ | ⟨_,_,_,_,_,_,h3⟩
 .exact h
 .cases h3
 .cases h3
 .cases h3
 .cases h3
 .cases h3
def aln{H:Hint}{o:yV}(hq:oM P H q o):oM P H (jF q) o:=by
 cases h:q with
 | jD rs f xs=>
  subst h;have⟨c,f',g1,g2,g3,g4⟩:=UI hq;exact .inr (.inl ⟨c,f',[],g1,g2,by rw[g3,g4];rfl⟩)
 | lO rs sz x y=>
  subst h;have⟨t,x',y',g1,g2,g3,g4⟩:=aeq hq;refine .inl ⟨0,?_⟩;simp only[jF,aP,g1,g2,g3,g4]
 | lP rs sz b x y=>
  subst h;exact .inl (aer hq)
 | _=>subst h;exact hq
def acD(hC:pM O self)(hH:fH O H){o:yV}(hq:oM O.P H q o)(hd:∀c,o.op≠.defer c)(hv:aZ O.prog O.aI self tm hp ct q=GW (v,au,aX))(ht:b7 O m S w tm a.tmps)(hh:aT O m S w hp ct)(hn:∀u m' S' w',aT O m' S' w' au aX->ct<=aX->aj O.ah m' S' w' v u->cr m S w hp m' S' w' au ct->next (a.put o.dst u) w'):o.wpIn (WF ro) 0 O.P a w next Q:=by
 have quiet:bj q<=1->o.wpIn (WF ro) 0 O.P a w next Q:=by
  intro hk;have hg:=aaE hk hv hh.aH;obtain⟨S1,g1,g2,g3,g4⟩:=PB hh hg;refine quiet_step hC hH hk hq hd hv cU.refl (yz _) hh.aH (fun id h1 h2=>?_) (CE (fun _ _ h=>h) g2 (fun _ _=>rfl) ht) g1 (fun u m' S' w' k1 k2 k3 k4 k5=>hn u m' S' w' k1 hg.sI k4 ((g4 ct).trans (k5.AB hg.sI)))
  cases hm:m id with
  | none=>rfl
  | some p=>have:=hh.lt id p hm;omega
 have VB:∀{q':Op},(∃k,q'=aP O.P H k o)->cz tm hp ct q'=GW (v,au,aX)->o.wpIn (WF ro) 0 O.P a w next Q:=by
  intro q' iy hw;obtain⟨k,rfl⟩:=iy;obtain⟨n,u,w',m',S',h1,h2,h3,h4,h5,h6⟩:=aqg hH ht hh hw;exact Hn hd h1 h2 (hn u m' S' w' h3 (aoi hw) h4 h6)
 have write:cz tm hp ct q=GW (v,au,aX)->o.wpIn (WF ro) 0 O.P a w next Q:=by
  intro hw;refine VB ?_ hw;rcases hq with h | ⟨c,f,rs,_,_,rfl⟩ | ⟨_,_,_,_,_,_,_,rfl⟩ | ⟨_,_,_,_,_,_,_,rfl⟩ | ⟨_,_,_,_,_,_,rfl⟩ | ⟨_,_,_,_,_,_,rfl⟩
  .exact h
  .simp [cz] at hw
  .simp [cz] at hw
  .simp [cz] at hw
  .simp [cz] at hw
  .simp [cz] at hw
 have heap:∀{c:yac} {f:xC} {g:Nat} {first cap:List AV},o.op=.call c->c.callee=.value f->az tm (aK H f)=.fn (.f g) first cap->
   jz O.prog O.aI self hp ct g (first++(dL tm (iK H c.args.toList)++cap))=GW (v,au,aX)->o.wpIn (WF ro) 0 O.P a w next Q:=by
  intro c f g first cap ho jr hx he;obtain⟨fi,ca,h1,h2⟩:=PA hH ht (args:=c.args) hx;refine O5 ho jr h1 (hC.heap _ _ _ _ _ _ _ he m S w _ hh h2) ?_;rintro e w' ⟨u,m',S',rfl,k1,k2,k3,k4⟩;exact⟨u,rfl,hn u m' S' w' k1 k2 k3 k4⟩
 have round:∀{c:yac} {f:xC} {l:Nat} {x y:List AV},o.op=.call c->c.callee=.value f->az tm (aK H f)=.fn (.y l) x y->
   pJ self hp ct l (dL tm (iK H c.args.toList))=GW (v,au,aX)->o.wpIn (WF ro) 0 O.P a w next Q:=by
  intro c f l x y ho jr hx he;have rf:=b8 hH ht f;rw[hx] at rf;simp only[aj] at rf;obtain⟨p,hm,hf⟩:=rf;have eQ:=EQ hH ht c.args.toList;obtain⟨g,tmps,cM,body,h1,h2⟩:=hC.round _ _ _ _ _ _ _ he m S w (c.args.map a.eval) p hh hm (by simpa using eQ);refine aod ho jr hf h1 h2 ?_;rintro e w' ⟨u,m',S',rfl,k1,k2,k3,k4⟩;exact⟨u,rfl,hn u m' S' w' k1 k2 k3 k4⟩
 have dyn:∀{c:yac} {f:xC},o.op=.call c->c.callee=.value f->fj O.prog O.aI self hp ct .dyn (az tm (aK H f)) (dL tm (iK H c.args.toList))=GW (v,au,aX)->o.wpIn (WF ro) 0 O.P a w next Q:=by
  intro c f ho jr he;unfold fj at he
  split at he
  .rename_i g first cap hx
   (try simp only at he)
   cases hp0:aE (first++(dL tm (iK H c.args.toList)++cap)) with
   | true=>
    rw[hp0] at he;simp only[yC] at he
    cases hr:bS O.prog O.aI self g (first++(dL tm (iK H c.args.toList)++cap)) with
    | none=>simp[hr] at he
    | some r=>
     simp only[hr,yd,yo] at he;obtain⟨rfl,rfl,rfl⟩:=he;obtain⟨fi,ca,h1,h2⟩:=PA hH ht (args:=c.args) hx;refine O5 ho jr h1 (hC.pure g _ r hr w S _ (Vg hh) hh.slt (Bn (fun _ h=>h) (fun _ _=>rfl) _ _ hp0 h2) hp0) ?_;rintro e w' ⟨u,S',rfl,hw,g1,g2,g3,g4⟩;obtain⟨S2,k1,k2,k3⟩:=abK g4 m;have hS:∀b,S b->S2 b:=fun b hb=>k1 b (g1 b hb)
     have DQ:∀b,S2 b->S b\/w.heap.size<=b:=fun b hb=>(k2 b hb).elim (g2 b) (fun h=>.inr h.1)
     have hl:∀b,S2 b->b<w'.heap.size:=fun b hb=>(k2 b hb).elim (g3 b) (fun h=>h.2)
     exact⟨u,rfl,hn u m S2 w' (CF hh hw hS DQ hl) (yz _) k3 (Bp hh hw hS DQ)⟩
   | false=>
    rw[hp0] at he;simp only[yX] at he;exact heap ho jr hx he
  .rename_i l x y hx;exact round ho jr hx he
  .cases he
 cases bB:q with
 | jD rs x xs=>
  subst bB;simp only[aZ] at hv;have key:=UI hq;obtain⟨c,f,ho,jr,rfl,rfl⟩:=key
  cases hc:fj O.prog O.aI self hp ct .dyn (az tm (aK H f)) (dL tm (iK H c.args.toList)) with
  | none=>simp[hc] at hv
  | some r=>
   obtain⟨v1,bk,qD⟩:=r;simp only[hc] at hv
   cases hs:pK tm hp bk rs with
   | false=>rw[hs] at hv;cases hv
   | true=>
    rw[hs] at hv;simp only[yC,yd,yo] at hv;obtain⟨rfl,rfl,rfl⟩:=hv;exact dyn ho jr hc
 | call md x xs=>
  subst bB;have iy:∃k,Op.call md x xs=aP O.P H k o:=by
   rcases hq with h | ⟨c,f,rs,_,_,h⟩ | ⟨_,_,_,_,_,_,_,h⟩ | ⟨_,_,_,_,_,_,_,h⟩ | ⟨_,_,_,_,_,_,h⟩ | ⟨_,_,_,_,_,_,h⟩
   .exact h
   .cases h
   .cases h
   .cases h
   .cases h
   .cases h
  obtain⟨k,hk⟩:=iy
  cases md with
  | pure=>exact quiet (by simp[bj])
  | own=>exact quiet (by simp[bj])
  | heap=>
   simp only[aZ] at hv;obtain⟨c,f,ho,jr,rfl,rfl⟩:=P0 hk.symm (by rintro rfl;simp[az,fj] at hv);unfold fj at hv
   split at hv
   .rename_i g first cap hx;exact heap ho jr hx hv
   .rename_i l x y hx;exact round ho jr hx hv
   .cases hv
  | dyn=>
   simp only[aZ] at hv;obtain⟨c,f,ho,jr,rfl,rfl⟩:=P0 hk.symm (by rintro rfl;simp[az,fj] at hv);exact dyn ho jr hv
 | lO rs s x y=>
  subst bB;obtain⟨t,x',y',g1,g2,g3,g4⟩:=aeq hq;simp only[aZ] at hv
  split at hv
  .rename_i id off hx
   cases hf:jA tm id rs with
   | false=>rw[hf] at hv;cases hv
   | true=>
    rw[hf] at hv;simp only[yC] at hv
    exact VB (q':=.st s x y) ⟨0,by simp only[aP,g1,g2,g3,g4]⟩ hv
  .cases hv
 | lP rs s b x y=>
  subst bB;simp only[aZ] at hv
  cases hc:cz tm hp ct (.c9 s b x y) with
  | none=>simp[hc] at hv
  | some r=>
   obtain⟨v1,bk,qD⟩:=r;simp only[hc] at hv
   cases hs:(AA tm (az tm x) rs||pK tm hp bk rs) with
   | false=>rw[hs] at hv;cases hv
   | true=>
    rw[hs] at hv;simp only[yC,yd,yo] at hv;obtain⟨rfl,rfl,rfl⟩:=hv
    exact VB (q':=.c9 s b x y) (aer hq) hc
 | st s x y=>subst bB;exact write (by simpa only[aZ] using hv)
 | sB kk x y z=>subst bB;exact write (by simpa only[aZ] using hv)
 | sD x=>subst bB;exact write (by simpa only[aZ] using hv)
 | c9 s b x y=>subst bB;exact write (by simpa only[aZ] using hv)
 | sF s x y=>subst bB;exact write (by simpa only[aZ] using hv)
 | sA k x lo hi=>subst bB;exact quiet (by cases k<;>simp[bj])
 | len k x=>subst bB;exact quiet (by rcases k with _ | _ | k<;>simp[bj])
 | _=>subst bB;exact quiet (by simp[bj])
end
end
end
section
open Go
section
variable {v:AV}{d:Option Nat}
def rL(tm:Env)(g:Option (Nat×Bool)):Option Bool:=
 match g with
 | none=>GW ycN
 | some (t,b)=>match ai tm t with | .bool c=>GW (c==b) | .av []=>GW ycO | _=>GX
def fD(P:aG)(L:Lib)(self:cw)(tm:Env)(hp:Hp)(ct:Nat)(r:aS):gL:=
 match rL tm r.guard with
 | some ycN=>aZ P L self tm hp ct r.op
 | some ycO=>GW (.av [],hp,ct)
 | none=>GX
def aa6{P:aG}{L:Lib}{self:cw}{r:aS}{rs:List aS}{s:St}:
  dt P L self (r::rs) s=match fD P L self s.tm s.hp s.ct r with | some (v,hp,ct)=>dt P L self rs {s with tm:=put r.dst v s.tm,hp:=hp,ct:=ct} | none=>GX:=by
 have⟨d,g,o⟩:=r;simp only[dt,fD]
 cases g with
 | none=>rfl
 | some q=>
  have⟨t,b⟩:=q;simp only[rL];generalize ai s.tm t=x
  cases x with
  | bool c=>
   simp only;cases (c==b)<;>rfl
  | av vs=>cases vs<;>rfl
  | _=>rfl
def adQ(ops:Array yV)(g:Option (Nat×Bool))(g':Option (Nat×Bool)):Prop:=
 (g=GX/\g'=GX)\/∃t b j,g=GW (t,b)/\g'=GW (j,b)/\(ops[j]?).bind (·.dst)=GW t
structure FB(P:xy)(H:Hint)(ops:Array yV)(r:aS)(o:yV):Prop where
 op:oM P H r.op o
 dst:r.dst=o.dst
 ok:Mn H o.dst=ycN
 guard:adQ ops r.guard o.guard
def eW(P:xy)(H:Hint)(ops:Array yV):List aS->List yV->Prop
 | [],[]=>True
 | r::rs,o::l=>(FB P H ops r o\/(r.guard=GX/\r.op=bad))/\eW P H ops rs l
 | _,_=>False
def aa7{P:xy}{H:Hint}{ops:Array yV}:∀(l:List yV) (k:Nat),eW P H ops (EF P H ops l k).1 l
 | [],k=>by simp[EF,eW]
 | o::l,k=>by
  have ih:=aa7 (P:=P) (H:=H) (ops:=ops) l (k+(bif Vy o then 1 else 0));simp only[EF];generalize hq:EF P H ops l (k+(bif Vy o then 1 else 0))=q at ih;have⟨l',k'⟩:=q;simp only;have WX:eW P H ops (⟨o.dst,GX,bad⟩::l') (o::l):=⟨.inr ⟨rfl,rfl⟩,ih⟩
  cases hg:o.guard with
  | none=>
   simp only
   cases hd:Mn H o.dst with
   | false=>exact WX
   | true=>exact⟨.inl ⟨.inl ⟨k,rfl⟩,rfl,hd,.inl ⟨rfl,hg⟩⟩,ih⟩
  | some p=>
   have⟨j,b⟩:=p;simp only
   cases ht:(ops[j]?).bind (·.dst) with
   | none=>exact WX
   | some t=>
    simp only
    cases hd:Mn H o.dst with
    | false=>exact WX
    | true=>exact⟨.inl ⟨.inl ⟨k,rfl⟩,rfl,hd,.inr ⟨t,b,j,rfl,hg,ht⟩⟩,ih⟩
section
variable {O:bz}{H:Hint}{m:Mp}{S:Nat->Prop}{w:ym}{tm:Env}{a:Act}{hp au:Hp}{ct aX:Nat}{self:cw}{ro:Option Nat}{Q:uz->Act->ym->Prop}{ops:Array yV}
def UJ{tm:Env}{t:Nat}:ai (put d v tm) t=if d=GW t then v else ai tm t:=by
 cases d with
 | none=>simp[put]
 | some i=>
  simp only[put,ai];by_cases h:i=t
  .subst h;simp
  .have:yp i t=ycO:=by
    cases hq:yp i t with
    | false=>rfl
    | true=>exact absurd (yh hq) h
   simp[this,h]
def PC(a:Act)(d:Option Nat)(u:yj):(a.put d u).tmps.size=a.tmps.size:=by
 cases d with
 | none=>rfl
 | some i=>simp[Act.put]
def TY(a:Act)(d:Option Nat)(u:yj):(a.put d u).defers=a.defers:=by
 cases d with
 | none=>rfl
 | some i=>rfl
def UK{a:Act}{u:yj}{t:Nat}(hd:∀i,d=GW i->i<a.tmps.size):(a.put d u).tmps.getD t undef=if d=GW t then u else a.tmps.getD t undef:=by
 cases d with
 | none=>simp[Act.put]
 | some i=>
  have hi:=hd i rfl;by_cases h:i=t
  .subst h;simp[Act.put,hi]
  .simp only [Act.put,yd,h,xE];simp[Array.getElem?_setIfInBounds_ne h]
def acE{n:Nat}(h:Mn H d=ycN)(hn:H.n<=n):∀i,d=GW i->i<n:=by
 rintro i rfl
 have:=rm.1 h
 lia
def UL{u:yj}(ht:b7 O m S w tm a.tmps)(hd:∀i,d=GW i->i<a.tmps.size)(hv:aj O.ah m S w v u):b7 O m S w (put d v tm) (a.put d u).tmps:=fun t=>by
 rw[UJ,UK hd]
 split
 .exact hv
 .exact ht t
def abQ{o:yV}{g:Option (Nat×Bool)}{b:Bool}(hg:adQ ops g o.guard)(ht:∀t,t∈V6 g->aj O.ah m S w (ai tm t) (a.tmps.getD t undef))(hw:rL tm g=GW b):Region.wanted o (yielded ops a.tmps)=b:=by
 rcases hg with ⟨rfl,h2⟩ | ⟨t,c,j,rfl,h2,h3⟩
 .simp only [rL,yd] at hw;subst hw;simp[Region.wanted,h2]
 .simp only [rL] at hw;have h4:=ht t (by simp[V6]);simp only[Region.wanted,h2]
  split at hw
  .rename_i d hd;rw[hd] at h4;simp only[aj] at h4;simp only[yd] at hw
   have:yielded ops a.tmps j=GW d:=by
    simp only[yielded,h3,wF];have h5:a.tmps[t]? =GW (.bool d):=by
     simp only[wh] at h4
     cases hq:a.tmps[t]? with
     | none=>rw[hq] at h4;simp[undef] at h4
     | some x=>rw[hq] at h4;simp at h4;rw[h4]
    rw[h5]
   rw[this,<-hw];cases d<;>cases c<;>rfl
  .rename_i hd;rw[hd] at h4;simp only[aj,aB] at h4;have⟨xs,h4,h5⟩:=h4;simp only[yd] at hw;subst hw
   have:yielded ops a.tmps j=GX:=by
    simp only[yielded,h3,wF];simp only[wh] at h4
    cases hq:a.tmps[t]? with
    | none=>rfl
    | some x=>rw[hq] at h4;simp at h4;rw[h4]
   rw[this];rfl
  .cases hw
def aaF{o:yV}{q:Op}(hq:oM O.P H q o){r:AV×Hp×Nat}(hv:aZ O.prog O.aI self tm hp ct q=GW r):∀c,o.op≠.defer c:=by
 rcases hq with ⟨k,rfl⟩ | ⟨c,f,rs,h1,_,_⟩ | ⟨_,_,_,_,_,h1,_,_⟩ | ⟨k,rs,sz,b,x,y,h1,rfl⟩ | ⟨k,sz,b,x,y,h1,rfl⟩ | ⟨k,n,sz,z,ps,h1,rfl⟩
 .exact alf hv
 .intro c' h;rw[h1] at h;cases h
 .intro c' h;rw[h1] at h;cases h
 .intro c' h;simp only[aP,h] at h1;simp[bad] at h1
 .intro c' h;simp only[aP,h] at h1;simp[bad] at h1
 .intro c' h;simp only[aP,h] at h1;simp[bad] at h1
def aqi(hC:pM O self)(hH:fH O H){i:Nat}{r:aS}{o:yV}(hi:ops[i]? =GW o)(hr:FB O.P H ops r o\/(r.guard=GX/\r.op=bad))(hv:fD O.prog O.aI self tm hp ct r=GW (v,au,aX))(ht:b7 O m S w tm a.tmps)(hh:aT O m S w hp ct)(hn:H.n<=a.tmps.size){K:Act->ym->Prop}(hK:∀u m' S' w',aT O m' S' w' au aX->ct<=aX->b7 O m' S' w' (put r.dst v tm) (a.put o.dst u).tmps->cr m S w hp m' S' w' au ct->K (a.put o.dst u) w'):wpOpIn (WF ro) 0 O.P ops Q i K a w:=by
 rcases hr with hr | ⟨h1,h2⟩
 case inr=>
  simp only[fD,h1,rL,h2,bad,aZ,fj,az] at hv;cases hv
 unfold wpOpIn;simp only[hi];unfold fD at hv
 cases hw:rL tm r.guard with
 | none=>simp[hw] at hv
 | some b=>
  have YF:=abQ hr.guard (fun t _=>ht t) hw;have hd:=acE hr.ok hn;rw[YF]
  cases b with
  | true=>
   simp only[hw] at hv;simp only[xS];refine acD hC hH hr.op (aaF hr.op hv) hv ht hh (fun u m' S' w' k1 k2 k3 k4=>hK u m' S' w' k1 k2 ?_ k4);rw[hr.dst];exact UL (CE (fun id p h=>k4.old id p (hh.lt id p h) h) k4.sub (fun b hb=>k4.still b hb) ht) hd k3
  | false=>
   simp only[hw,yd,yo] at hv;obtain⟨rfl,rfl,rfl⟩:=hv;simp only[yL,xE];refine⟨fun _ _=>trivial,hK undef m S w hh (yz _) ?_ cr.refl⟩;rw[hr.dst];exact UL ht hd (by simp[aj,aB,undef])
def adR(hC:pM O self)(hH:fH O H):∀(l:List yV) (rs:List aS) (i:Nat) (s s':St) (a:Act) (m:Mp) (S:Nat->Prop) (w:ym),(∀j,l[j]? =ops[i+j]?)->eW O.P H ops rs l->
  dt O.prog O.aI self rs s=GW s'->b7 O m S w s.tm a.tmps->aT O m S w s.hp s.ct->H.n<=a.tmps.size->
  (∀a' m' S' w',aT O m' S' w' s'.hp s'.ct->s.ct<=s'.ct->b7 O m' S' w' s'.tm a'.tmps->cr m S w s.hp m' S' w' s'.hp s.ct->a'.tmps.size=a.tmps.size->a'.defers=a.defers->s'.base=s.base->Q .normal a' w')->
  wpOpsIn (WF ro) 0 O.P ops Q (List.range' i l.length) a w
 | [],rs,i,s,s',a,m,S,w,hl,hr,hv,ht,hh,hn,hQ=>by
  cases rs with
  | cons _ _=>simp[eW] at hr
  | nil=>
   simp only[dt,yd] at hv;subst hv;simp only[yN,List.range'_zero,wpOpsIn];exact hQ a m S w hh (yz _) ht cr.refl rfl rfl rfl
 | o::l,rs,i,s,s',a,m,S,w,hl,hr,hv,ht,hh,hn,hQ=>by
  cases rs with
  | nil=>simp[eW] at hr
  | cons r rs=>
   simp only[eW] at hr;rw[aa6] at hv
   cases h1:fD O.prog O.aI self s.tm s.hp s.ct r with
   | none=>simp[h1] at hv
   | some q=>
    have⟨v,bk,qD⟩:=q;simp only[h1] at hv;have hi:ops[i]? =GW o:=by have:=hl 0;simpa using this.symm
    rw[yx,List.range'_succ,wpOpsIn_cons];refine aqi hC hH hi hr.1 h1 ht hh hn (fun u m1 S1 w1 k1 k2 k3 k4=>?_)
    refine adR hC hH l rs (i+1) {s with tm:=put r.dst v s.tm,hp:=bk,ct:=qD} s' _ m1 S1 w1 (fun j=>?_) hr.2 hv k3 k1 (by rw[PC];exact hn) (fun a' m' S' w' g1 g2 g3 g4 g5 g6 g7=>?_)
    .have:=hl (j+1)
     rw[yaC] at this;rw[this];congr 1;lia
    .exact hQ a' m' S' w' g1 (xn k2 g2) g3 (k4.trans (g4.AB k2)) (by rw[g5,PC]) (by rw[g6,TY]) g7
end
end
end
section
open Go
section
variable {ops:Array yV}
def TN{acc:List Nat}{i:Nat}:∀{es:List Edge},vv (C0 acc es) i=ycN->∃e,e∈es/\Region.binds .any e=ycN/\(i=e.on\/vv (acc.getD e.on 0) i=ycN)
 | [],h=>by simp[C0] at h
 | e::r,h=>by
  simp only[C0] at h
  cases hb:Region.binds .any e with
  | false=>
   rw[hb] at h;have⟨e',h1,h2⟩:=TN h
   grind
  | true=>
   rw[hb] at h;simp only[yC,ybI,uC] at h;rcases h with (h | h) | h
   .grind
   .grind
   .have ⟨e',h1,h2⟩:=TN h
    grind
def abR{l:List yV}{acc:List Nat}{j:Nat}(hj:j<acc.length):(kB acc l)[j]? =acc[j]? :=by
 induction l generalizing acc with
 | nil=>rfl
 | cons o l ih=>
  simp only[kB]
  grind
def alo{l:List yV}{acc:List Nat}{j:Nat}{o:yV}(h:l[j]? =GW o):∃FK:List Nat,(kB acc l)[acc.length+j]? =GW (C0 FK o.after.toList)/\FK.length=acc.length+j/\∀k,k<FK.length->FK[k]? =(kB acc l)[k]? :=by
 induction l generalizing acc j with
 | nil=>simp at h
 | cons x l ih=>
  cases j with
  | zero=>
   simp only[uh,yd] at h;subst h;refine⟨acc,?_,by simp,fun k hk=>?_⟩
   .simp only [kB];rw[abR (by simp)]
    simp
   .simp only [kB];rw[abR (by rw[yM];lia),List.getElem?_append_left hk]
  | succ j=>
   have⟨FK,h1,h2,h3⟩:=ih (acc:=acc++[C0 acc x.after.toList]) h;simp only[yM,yx,yN] at h1 h2;refine⟨FK,?_,by lia,fun k hk=>?_⟩
   .simp only [kB]
    grind
   .simp only [kB];exact h3 k hk
def Ord(ops:Array yV)(i j:Nat):Prop:=vv ((kB [] ops.toList).getD j 0) i=ycN
def VD(ops:Array yV)(D:Nat->Prop):Prop:=∀j o,ops[j]? =GW o->D j->∀e,e∈o.after->Region.binds .any e=ycN->D e.on
def abS{D:Nat->Prop}(hc:VD ops D):∀(j:Nat) (o:yV),ops[j]? =GW o->(∀e,e∈o.after->Region.binds .any e=ycN->D e.on)->∀i,Ord ops i j->D i:=by
 intro j
 induction j using vQ with
 | _ j ih=>
  intro o ho hr i hi;have jm:ops.toList[j]? =GW o:=by simp_all
  have⟨FK,h1,h2,h3⟩:=alo (acc:=[]) jm;simp only[yN,yf] at h1 h2;unfold Ord at hi;rw[yU,h1,xT] at hi;have⟨e,g1,g2,g3⟩:=TN hi;have he:D e.on:=hr e (by simpa using g1) g2;rcases g3 with rfl | g3
  .grind
  .rcases vz e.on j with aH | lf
   .have h4:=h3 e.on (by lia);have dH:e.on<ops.size:=by
     grind
    have YC:ops[e.on]? =GW ops[e.on]:=by simp_all
    refine ih e.on aH _ YC (fun e' he' bD=>hc e.on _ YC he e' he' bD) i ?_;unfold Ord
    grind
   .grind
def aoj{D:Nat->Prop}(hc:VD ops D){i j:Nat}{o:yV}(ho:ops[j]? =GW o)(hj:D j)(hi:Ord ops i j):D i:=
 abS hc j o ho (fun e he hb=>hc j o ho hj e he hb) i hi
def aap:∀{l:List yV} {k j:Nat} {o:yV},ow l k=ycN->l[j]? =GW o->∀e,e∈o.after->Region.binds .any e=ycN->e.on<k+j
 | [],k,j,o,_,h=>by simp at h
 | x::l,k,j,o,hb,h=>by
  simp only[ow,ye] at hb
  cases j with
  | zero=>
   simp only[uh,yd] at h;subst h;intro e he AW
   have:=tH.1 hb.1 e (by simpa using he)
   simp_all
  | succ j=>
   intro e he AW
   have:=aap hb.2 h e he AW
   lia
end
def FL(a b:aS)(r:List aS):Prop:=Pw a b=ycO/\(KB a b=ycO\/KT a b r=ycN)
def aar{m:Nat}{b:aS}:∀{l:List aS} {k i:Nat} {a:aS},Px m b l k=ycN->l[i]? =GW a->vv m (k+i)=ycN\/FL a b (l.drop (i+1))
 | [],k,i,a,_,h=>by simp at h
 | x::l,k,i,a,hp,h=>by
  simp only[Px,ye] at hp
  cases i with
  | zero=>
   simp only[uh,yd] at h;subst h;have h1:=hp.1;simp only[uC,vR,yaQ,Bool.and_eq_false_iff,Bool.not_eq_false'] at h1;rcases h1 with h1 | ⟨h1,h2⟩
   .grind
   .exact .inr ⟨h1,by simpa using h2⟩
  | succ i=>
   rcases aar hp.2 h with h1 | h1
   .grind
   .grind
def TC:∀{l done:List aS} {ms:List Nat} {i j:Nat} {a b:aS},ri done l ms=ycN->(done++l)[i]? =GW a->l[j]? =GW b->i<done.length+j->
  ∃m,ms[j]? =GW m/\(vv m i=ycN\/FL a b (((done++l).take (done.length+j)).drop (i+1)))
 | [],done,ms,i,j,a,b,_,_,h,_=>by simp at h
 | x::l,done,[],i,j,a,b,hp,_,h,_=>by simp[ri] at hp
 | x::l,done,m::ms,i,j,a,b,hp,ha,h,qG=>by
  simp only[ri,ye] at hp
  cases j with
  | zero=>
   have kH:done[i]? =GW a:=by grind
   have:=aar hp.1 kH
   grind
  | succ j=>
   have e:done++x::l=(done++[x])++l:=by simp
   have⟨m',h1,h2⟩:=TC (i:=i) (a:=a) hp.2 (by rw[<-e];exact ha) h (by simp;lia)
   grind
def OS{a b:aS}(h:Pw a b=ycO):(∀d,a.dst=GW d->d∉EP b/\b.dst≠GW d)/\(∀d,b.dst=GW d->d∉EP a):=by
 have mem:∀{i:Nat} {l:List Nat},mV i l=ycO->i∉l:=by
  intro i l
  induction l with
  | nil=>intro _ h;cases h
  | cons j r ih=>
   intro h hm;simp only[mV] at h
   cases hb:yp j i with
   | true=>rw[hb] at h;cases h
   | false=>
    simp_all
 simp only[Pw,yaQ] at h;have⟨⟨h1,h2⟩,h3⟩:=h;refine⟨fun d hd=>⟨mem (by simpa[hd,Ij] using h1),fun hb=>?_⟩,fun d hd=>mem (by simpa[hd,Ij] using h2)⟩;rw[hd,hb] at h3;simp[V7] at h3
def aa8{t:Nat}:∀{l:List aS},Fq t l=ycN->∀r,r∈l->r.dst≠GW t
 | [],_,r,h=>by cases h
 | x::l,h,r,hr=>by
  simp only[Fq,ye,vR] at h;rcases xx.1 hr with rfl | hr
  .intro hd;rw[hd] at h;simp[Ij,mV] at h
  .exact aa8 h.2 r hr
def Pj{sz t:Nat}{ag:Bool}:∀{l:List (Nat×Bool×Nat)},FG sz ag t l=ycN->(sz,ag,t)∈l
 | [],h=>by simp[FG] at h
 | (s,g,u)::r,h=>by
  simp only[FG,uC,ye] at h;rcases h with ⟨h1,h2,h3⟩ | h
  .simp_all
  .exact wA _ (Pj h)
def UM:∀{a b:List Nat},cN a b=ycN->a=b
 | [],[],_=>rfl
 | [],_::_,h=>by simp[cN] at h
 | _::_,[],h=>by simp[cN] at h
 | x::a,y::b,h=>by
  simp only[cN,ye] at h;rw[yh h.1,UM h.2]
def amn{a b:AV}(h:WQ a b=ycN):a=b:=by
 unfold WQ at h
 split at h
 .grind
 .grind
 .rw [UM h]
 .rfl
 .rfl
 .simp_all
 .simp_all
 .simp_all
 .cases h
def TD{tm:Env}{hp au:Hp}{sz t:Nat}{ag:Bool}{v:AV}:∀{l:List (Nat×Bool×Nat)},pK tm hp au l=ycN->(sz,ag,t)∈l->fY hp sz ag (ai tm t)=GW v->fY au sz ag (ai tm t)=GW v
 | [],_,h,_=>by cases h
 | (s,g,u)::r,h,hm,hv=>by
  simp only[pK] at h
  cases h1:fY hp s g (ai tm u) with
  | none=>simp[h1] at h
  | some x=>
   cases h2:fY au s g (ai tm u) with
   | none=>simp[h1,h2] at h
   | some y=>
    simp only[h1,h2,ye] at h;rcases xx.1 hm with e | hm
    .simp only [yo] at e;obtain⟨rfl,rfl,rfl⟩:=e;rw[h1] at hv;rw[h2,<-amn h.1,hv]
    .exact TD h.2 hm hv
structure Re(P:aG)(L:Lib)(run:cw)(rs:List aS)(bV:Nat->Env)(bM:Nat->Hp)(bF:Nat->Nat)(vF:Nat->AV):Prop where
 step:∀i r,rs[i]? =GW r->fD P L run (bV i) (bM i) (bF i) r=GW (vF i,bM (i+1),bF (i+1))
 tm:∀i r,rs[i]? =GW r->bV (i+1)=put r.dst (vF i) (bV i)
def adS{P:aG}{L:Lib}{self:cw}:∀{rs:List aS} {s s':St},dt P L self rs s=GW s'->
  ∃bV bM bF vF,Re P L self rs bV bM bF vF/\bV 0=s.tm/\bM 0=s.hp/\bF 0=s.ct/\bV rs.length=s'.tm/\bM rs.length=s'.hp/\bF rs.length=s'.ct/\s'.base=s.base
 | [],s,s',h=>by
  simp only[dt,yd] at h;subst h;exact⟨fun _=>s.tm,fun _=>s.hp,fun _=>s.ct,fun _=>.undef,⟨fun i r h=>by simp at h,fun i r h=>by simp at h⟩,rfl,rfl,rfl,rfl,rfl,rfl,rfl⟩
 | r::rs,s,s',h=>by
  rw[aa6] at h
  cases h1:fD P L self s.tm s.hp s.ct r with
  | none=>simp[h1] at h
  | some q=>
   have⟨v,bk,qD⟩:=q;simp only[h1] at h;have⟨bV,bM,bF,vF,g1,g2,g3,g4,g5,g6,g7,g8⟩:=adS h;refine⟨fun i=>match i with | 0=>s.tm | i+1=>bV i,fun i=>match i with | 0=>s.hp | i+1=>bM i,fun i=>match i with | 0=>s.ct | i+1=>bF i,fun i=>match i with | 0=>v | i+1=>vF i,⟨?_,?_⟩,rfl,rfl,rfl,by simpa using g5,by simpa using g6,by simpa using g7,g8⟩
   .intro i r' hi
    cases i with
    | zero=>
     grind
    | succ i=>exact g1.step i r' (by simpa using hi)
   .intro i r' hi
    cases i with
    | zero=>
     grind
    | succ i=>exact g1.tm i r' (by simpa using hi)
section
variable {P:aG}{L:Lib}{self:cw}{rs:List aS}{bV:Nat->Env}{bM:Nat->Hp}{bF:Nat->Nat}{vF:Nat->AV}
def KE(hR:Re P L self rs bV bM bF vF){t i:Nat}:∀(k:Nat),i+k<=rs.length->(∀j r,i<=j->j<i+k->rs[j]? =GW r->r.dst≠GW t)->ai (bV (i+k)) t=ai (bV i) t
 | 0,_,_=>rfl
 | k+1,hk,h=>by
  have hr:rs[i+k]? =GW rs[i+k]:=by simp_all
  rw[show i+(k+1)=i+k+1 by lia,hR.tm _ _ hr,UJ,yI (h (i+k) _ (by lia) (by lia) hr)];exact KE hR k (by lia) (fun j r h1 h2=>h j r h1 (by lia))
def abT{r:aS}{tm:Env}{hp au:Hp}{ct aX:Nat}{v:AV}(hk:bj r.op<=1)(hv:fD P L self tm hp ct r=GW (v,au,aX))(aH:∀id o,ax hp id=GW o->id<ct):jh hp ct au aX:=by
 unfold fD at hv
 cases hw:rL tm r.guard with
 | none=>simp[hw] at hv
 | some b=>
  cases b with
  | true=>simp only[hw] at hv;exact aaE hk hv aH
  | false=>
   simp only[hw,yd,yo] at hv;obtain⟨rfl,rfl,rfl⟩:=hv;exact jh.refl aH
def Pk(hR:Re P L self rs bV bM bF vF){i:Nat}(aH:∀id o,ax (bM i) id=GW o->id<bF i):∀(k:Nat),i+k<=rs.length->(∀j r,i<=j->j<i+k->rs[j]? =GW r->bj r.op<=1)->jh (bM i) (bF i) (bM (i+k)) (bF (i+k))
 | 0,_,_=>jh.refl aH
 | k+1,hk,h=>by
  have ih:=Pk hR aH k (by lia) (fun j r h1 h2=>h j r h1 (by lia));have hr:rs[i+k]? =GW rs[i+k]:=by simp_all
  exact ih.trans (abT (h (i+k) _ (by lia) (by lia) hr) (hR.step _ _ hr) ih.lt)
end
end
section
open Go
section
variable {tm:Env}{hp:Hp}{ct i:Nat}{r:aS}
def PD{tm:Env}{t:Nat}:∀{l:List Nat},t∈l->ai (cu tm l) t=ai tm t
 | [],h=>by cases h
 | i::r,h=>by
  simp only[cu,ai]
  cases hb:yp i t with
  | true=>rw[yh hb];rfl
  | false=>
   rcases xx.1 h with e | h
   .simp_all
   .exact PD h
def amo{P:aG}{L:Lib}{self:cw}{cB:Env}{o:Op}{r:AV×Hp×Nat}(h:∀t,t∈kL o->ai cB t=ai tm t)(hv:aZ P L self tm hp ct o=GW r):aZ P L self cB hp ct (jF o)=GW r:=by
 cases o with
 | jD rs f xs=>
  simp only[kL,wR] at h;simp only[jF,aZ] at hv ⊢
  rw[dJ (x:=f) fun t ht=>h t (.inl ht),Ew (xs:=xs) fun t ht=>h t (.inr ht)]
  cases hc:fj P L self hp ct .dyn (az tm f) (dL tm xs) with
  | none=>simp[hc] at hv
  | some q=>
   obtain⟨v1,bk,qD⟩:=q;simp only[hc] at hv
   cases hs:pK tm hp bk rs with
   | false=>rw[hs] at hv;cases hv
   | true=>
    rw[hs] at hv;simpa only[pK,yC] using hv
 | lO rs sz x v=>
  simp only[jF,aZ] at hv ⊢
  rw[Ev (o:=.st sz x v) (tm:=tm) h]
  split at hv
  .rename_i id off hx
   cases hf:jA tm id rs with
   | false=>rw[hf] at hv;cases hv
   | true=>rw[hf] at hv;exact hv
  .cases hv
 | lP rs sz b x v=>
  simp only[jF,aZ] at hv ⊢
  rw[Ev (o:=.c9 sz b x v) (tm:=tm) h]
  cases hc:cz tm hp ct (.c9 sz b x v) with
  | none=>simp[hc] at hv
  | some q=>
   obtain⟨v1,bk,qD⟩:=q;simp only[hc] at hv
   cases hs:(AA tm (az tm x) rs||pK tm hp bk rs) with
   | false=>rw[hs] at hv;cases hv
   | true=>rw[hs] at hv;exact hv
 | sE sz b x v=>
  rw[<-hv];simp only[kL,wR] at h;simp only[jF,aZ]
  rw[dJ (x:=x) fun t ht=>h t (.inl ht),dJ (x:=v) fun t ht=>h t (.inr ht)]
 | call md f xs=>
  rw[<-hv];simp only[kL,wR] at h;simp only[jF,aZ]
  rw[dJ (x:=f) fun t ht=>h t (.inl ht),Ew (xs:=xs) fun t ht=>h t (.inr ht)]
 | st s x y=>rw[<-hv];simp only[jF,aZ];exact Ev h
 | sB kk x y z=>rw[<-hv];simp only[jF,aZ];exact Ev h
 | sD x=>rw[<-hv];simp only[jF,aZ];exact Ev h
 | c9 s b x y=>rw[<-hv];simp only[jF,aZ];exact Ev h
 | sF s x y=>rw[<-hv];simp only[jF,aZ];exact Ev h
 | box s x=>rw[<-hv];simp only[jF,aZ];rw[Ks (hp:=hp) h]
 | jI n s z ps=>rw[<-hv];simp only[jF,aZ];rw[Ks (hp:=hp) h]
 | qt s b z x y=>rw[<-hv];simp only[jF,aZ];rw[Ks (hp:=hp) h]
 | B9=>exact hv
 | sC x=>rw[<-hv];simp only[jF,aZ];rw[Ks (hp:=hp) h]
 | _=>rw[<-hv];simp only[jF,aZ];rw[akG h]
def acF{P:aG}{L:Lib}{self:cw}{au:Hp}{aX:Nat}{q:Op}{v:AV}(hk:bj q=0\/∃sz ag x,q=.ld sz ag x)(hv:aZ P L self tm hp ct q=GW (v,au,aX)):bg tm hp q=GW v/\au=hp/\aX=ct:=by
 have eT:∀{q:Op},(match bg tm hp q with | some v=>GW (v,hp,ct) | none=>(GX:gL))=GW (v,au,aX)->bg tm hp q=GW v/\au=hp/\aX=ct:=by
  intro q h
  cases hm:bg tm hp q with
  | none=>simp[hm] at h
  | some r=>
   simp only[hm,yd,yo] at h;obtain⟨rfl,rfl,rfl⟩:=h;exact⟨rfl,rfl,rfl⟩
 rcases hk with hk | ⟨sz,ag,x,rfl⟩
 .cases bB:q with
  | call md f xs=>subst bB;cases md<;>simp[bj] at hk
  | jD rs f xs=>subst bB;simp[bj] at hk
  | lO rs s x y=>subst bB;simp[bj] at hk
  | lP rs s b x y=>subst bB;simp[bj] at hk
  | sE s b x y=>subst bB;simp[bj] at hk
  | st s x y=>subst bB;simp[bj] at hk
  | sB kk x y z=>subst bB;simp[bj] at hk
  | sD x=>subst bB;simp[bj] at hk
  | c9 s b x y=>subst bB;simp[bj] at hk
  | sF s x y=>subst bB;simp[bj] at hk
  | box s x=>subst bB;simp[bj] at hk
  | jI n s z ps=>subst bB;simp[bj] at hk
  | qt s b z x y=>subst bB;simp[bj] at hk
  | B9=>subst bB;simp[bj] at hk
  | sC x=>subst bB;simp[bj] at hk
  | _=>exact bB▸eT (q:=q) (by rw[bB] at hv ⊢;simp only[aZ] at hv;exact hv)
 .exact eT (q:=.ld sz ag x) (by simp only[aZ] at hv;exact hv)
section
variable {O:bz}{H:Hint}{ops:Array yV}{π:Nat->Nat}{rs:List aS}{bV:Nat->Env}{bM:Nat->Hp}{bF:Nat->Nat}{vF:Nat->AV}{self:cw}{ro:Option Nat}{Q:uz->Act->ym->Prop}
structure Au(O:bz)(H:Hint)(Gn:cw)(ops:Array yV)(π:Nat->Nat)(rs:List aS)(bV:Nat->Env)(bM:Nat->Hp)(bF:Nat->Nat)(vF:Nat->AV):Prop where
 run:Re O.prog O.aI Gn rs bV bM bF vF
 len:rs.length=ops.size
 of:∀(i:Nat) (r:aS) (o:yV),rs[i]? =GW r->ops[π i]? =GW o->FB O.P H ops r o
 pair:∀(i j:Nat) (a b:aS),i<j->rs[i]? =GW a->rs[j]? =GW b->Ord ops (π i) (π j)\/FL a b ((rs.take j).drop (i+1))
 back:∀(i:Nat) (o:yV),ops[i]? =GW o->∀e,e∈o.after->Region.binds .any e=ycN->e.on<i
def li(rs:List aS)(i:Nat):Prop:=∃r,rs[i]? =GW r/\bj r.op=2
def VF(rs:List aS):∀(k i:Nat),i+k=rs.length->∃c,i<=c/\c<=rs.length/\(∀j,i<=j->j<c->¬li rs j)/\(c=rs.length\/li rs c)
 | 0,i,h=>⟨i,yz _,by lia,fun j h1 h2=>by lia,.inl (by lia)⟩
 | k+1,i,h=>by
  rcases uV (li rs i) with hw | hw
  .grind
  .have ⟨c,h1,h2,h3,h4⟩:=VF rs k (i+1) (by lia)
   grind
def KW{rs:List aS}(hr:rs[i]? =GW r)(hw:¬li rs i):bj r.op<=1:=by
 have h:bj r.op≠2:=fun e=>hw ⟨r,hr,e⟩
 have:bj r.op<=2:=by
  cases r.op with
  | sA k x lo hi=>cases k<;>simp[bj]
  | len k x=>rcases k with _ | _ | k<;>simp[bj]
  | call md f xs=>cases md<;>simp[bj]
  | _=>simp[bj]
 lia
def SH(O:bz)(rs:List aS)(bV:Nat->Env)(D:Nat->Prop)(m:Mp)(S:Nat->Prop)(w:ym)(a:Act):Prop:=
 ∀t,∃j,j<=rs.length/\(∀(i:Nat) (r:aS),rs[i]? =GW r->r.dst=GW t->(D i↔i<j))/\aj O.ah m S w (ai (bV j) t) (a.tmps.getD t undef)
def aqj{D:Nat->Prop}{m:Mp}{S:Nat->Prop}{w:ym}{a:Act}(hG:Au O H self ops π rs bV bM bF vF)(hT:SH O rs bV D m S w a)(hr:rs[i]? =GW r)(hi:¬D i)(eX:∀j,Ord ops (π j) (π i)->D j)(fV:∀j,Ord ops (π i) (π j)->¬D j):∀t,t∈EP r->aj O.ah m S w (ai (bV i) t) (a.tmps.getD t undef):=by
 intro t ht;obtain⟨j,h1,h2,h3⟩:=hT t;have A1:i<rs.length:=(xN.1 hr).1;have e:ai (bV j) t=ai (bV i) t:=by
  rcases Nat.le_total j i with hji | qG
  .obtain ⟨k,rfl⟩:∃k,i=j+k:=⟨i-j,by omega⟩;refine (KE hG.run k (by omega) (fun l rl g1 g2 hl hd=>?_)).symm;have hnD:¬D l:=fun hD=>by have:=(h2 l rl hl hd).1 hD;omega
   rcases hG.pair l (j+k) rl r (by omega) hl hr with ho | hf
   .exact hnD (eX l ho)
   .exact ((OS hf.1).1 t hd).1 ht
  .obtain ⟨k,rfl⟩:∃k,j=i+k:=⟨j-i,by omega⟩;refine KE hG.run k h1 (fun l rl g1 g2 hl hd=>?_);have hD:D l:=(h2 l rl hl hd).2 (by omega);rcases vH g1 with rfl | g1
   .exact hi hD
   .rcases hG.pair i l r rl g1 hr hl with ho | hf
    .exact fV l ho hD
    .exact (OS hf.1).2 t hd ht
 rw[<-e];exact h3
def adT{D D':Nat->Prop}{m m':Mp}{S S':Nat->Prop}{w w':ym}{a:Act}{u:yj}(hG:Au O H self ops π rs bV bM bF vF)(hT:SH O rs bV D m S w a)(hr:rs[i]? =GW r)(hi:¬D i)(eX:∀j,Ord ops (π j) (π i)->D j)(fV:∀j,Ord ops (π i) (π j)->¬D j)(hD:∀j,D' j↔D j\/j=i)(hm:dz m m')(hS:∀b,S b->S' b)(hw:gj S w w')(hd:∀d,r.dst=GW d->d<a.tmps.size)(hv:aj O.ah m' S' w' (vF i) u):SH O rs bV D' m' S' w' (a.put r.dst u):=by
 intro t;have A1:i<rs.length:=(xN.1 hr).1;by_cases I9:r.dst=GW t
 .refine ⟨i+1,A1,fun l rl hl DT=>?_,?_⟩
  .rw [hD];constructor
   .rintro (h | h)
    .rcases vz l (i+1) with g | g
     .exact g
     .rcases hG.pair i l r rl (by omega) hr hl with ho | hf
      .exact (fV l ho h).elim
      .exact (((OS hf.1).1 t I9).2 DT).elim
    .omega
   .intro h;rcases vH (vT h) with h | h
    .exact .inr h
    .rcases hG.pair l i rl r h hl hr with ho | hf
     .exact .inl (eX l ho)
     .exact (((OS hf.1).1 t DT).2 I9).elim
  .rw [hG.run.tm i r hr,UJ,UK hd,yK I9,yK I9];exact hv
 .obtain ⟨j,h1,h2,h3⟩:=hT t;refine⟨j,h1,fun l rl hl DT=>?_,?_⟩
  .rw [hD,<-h2 l rl hl DT];constructor
   .rintro (h | h)
    .exact h
    .subst h;rw[hr] at hl;injection hl with hl
     subst hl;exact (I9 DT).elim
   .exact .inl
  .rw [UK hd,yI I9];exact mI hm hS hw _ _ h3
def aaG{tm:Env}{hp au:Hp}{ct aX id off sz n9 t:Nat}{ag:Bool}{x y:X}{v v':AV}:∀{l:List (Nat×Bool×Nat)},jA tm id l=ycN->(sz,ag,t)∈l->az tm x=.ptr id off->
  cz tm hp ct (.st n9 x y)=GW (v',au,aX)->fY hp sz ag (ai tm t)=GW v->fY au sz ag (ai tm t)=GW v
 | [],_,h,_,_,_=>by cases h
 | (s,g,u)::r,h,hm,hx,hw,hv=>by
  simp only[jA,ye] at h;rcases xx.1 hm with e | hm
  .simp only [yo] at e;obtain⟨rfl,rfl,rfl⟩:=e;have h1:=h.1
   split at h1
   .rename_i j o hj;have fP:j≠id:=by
     intro e
     simp_all
    rw[hj] at hv ⊢;simp only[cz,hx] at hw;have key:∀ob,ax (aY hp id ob) j=ax hp j:=fun ob=>by rw[Ac,yI (ycx fP)]
    split at hw
    .rename_i pu ex z cs DU;generalize (yp _ _&&yJ _ _&&bY _)=bb at hw
     cases bb with
     | false=>cases hw
     | true=>
      obtain⟨_,rfl,_⟩:=hw;simp only[fY,key] at hv ⊢;exact hv
    .cases hw
   .rename_i cs hj;rw[hj] at hv ⊢;simpa only[fY] using hv
   .cases h1
  .exact aaG h.2 hm hx hw hv
def TE{id j:Nat}(h:j≠id):∀(hp:Hp),ax (dV hp id) j=ax hp j
 | []=>rfl
 | (k,o)::r=>by
  simp only[dV,ax]
  cases h1:yp k id with
  | true=>
   have e:=yh h1;simp only[yC];rw[TE h r]
   cases h2:yp k j with
   | true=>exact absurd (yh h2▸e) h
   | false=>rfl
  | false=>
   simp only[yX,ax];rw[TE h r]
def amp{au:Hp}{aX sz n9 bb t:Nat}{ag:Bool}{x y:X}{v v':AV}{l:List (Nat×Bool×Nat)}(h:AA tm (az tm x) l=ycN)(hm:(sz,ag,t)∈l)(hw:cz tm hp ct (.c9 n9 bb x y)=GW (v',au,aX))(aH:∀id o,ax hp id=GW o->id<ct)(hv:fY hp sz ag (ai tm t)=GW v):fY au sz ag (ai tm t)=GW v:=by
 have grow:∀{o:Obj},au=(ct,o)::hp->fY au sz ag (ai tm t)=GW v:=fun {o} e=>by
  subst e;refine Vc (fun id o' jm=>⟨o',?_,jo.refl o'⟩) hv
  rw[fS,yI (by have:=aH id o' jm;omega)];exact jm
 simp only[cz] at hw
 cases hs:jy hp n9 (az tm y) with
 | none=>simp[hs] at hw
 | some q=>
  obtain⟨mm,new⟩:=q;simp only[hs] at hw;cases hx:az tm x<;>rw[hx] at hw h<;>simp only[AA,yL] at h<;>(try simp only at hw)
  case ab=>
   cases hb:yp mm 0 with
   | true=>simp only[hb,yC,yd,yo] at hw;rw[<-hw.2.1];exact hv
   | false=>
    rw[hb] at hw;simp only[yX] at hw;generalize (yJ mm room&&(yJ (mm*bb) room&&yP 0 n9))=b2 at hw
    cases b2 with
    | false=>cases hw
    | true=>simp only[yC,yd,yo] at hw;exact grow hw.2.1.symm
  case ap ex n cs=>
   cases ex with
   | false=>simp at hw
   | true=>
    simp only at hw
    cases hb:yp mm 0 with
    | true=>simp only[hb,yC,yd,yo] at hw;rw[<-hw.2.1];exact hv
    | false=>
     rw[hb] at hw;simp only[yX] at hw;generalize (yJ (n+mm) room&&(yJ ((n+mm)*bb) room&&(yp cs.length (n*n9)&&yP 0 n9)))=b2 at hw
     cases b2 with
     | false=>cases hw
     | true=>simp only[yC,yd,yo] at hw;exact grow hw.2.1.symm
  case aq id o n=>
   split at hw
   .rename_i pu ex z cs DU;generalize (yp z n9&&_)=b2 at hw
    cases b2 with
    | false=>cases hw
    | true=>
     simp only[yC,yd,yo] at hw;obtain⟨_,rfl,_⟩:=hw;clear DU;have key:∀l,jA tm id l=ycN->(sz,ag,t)∈l->(∃j off,ai tm t=.ptr j off/\j≠id)\/∃cs,ai tm t=.bN cs:=by
      intro l
      induction l with
      | nil=>intro _ hm;cases hm
      | cons e l ih=>
       obtain⟨s,g,u⟩:=e;intro h hm;simp only[jA,ye] at h;rcases xx.1 hm with e | hm
       .simp only [yo] at e;obtain⟨rfl,rfl,rfl⟩:=e;have h1:=h.1
        split at h1
        .rename_i j off hj;refine .inl ⟨j,off,hj,fun e=>?_⟩;subst e;simp at h1
        .rename_i cs hj;exact .inr ⟨cs,hj⟩
        .cases h1
       .exact ih h.2 hm
     rcases key l h hm with ⟨j,off,e,fP⟩ | ⟨ck,e⟩
     .rw [e] at hv ⊢;simp only[fY] at hv ⊢;have ayL:ax hp j≠GX:=by
       intro e0;rw[e0] at hv;cases hv
      cases hj:ax hp j with
      | none=>exact absurd hj ayL
      | some ob=>
       have:=aH j ob hj
       rw[fS,yI (by omega),TE fP,hj];rw[hj] at hv;exact hv
     .rw [e] at hv ⊢;simpa only[fY] using hv
   .cases hw
def aau{D:Nat->Prop}{i c:Nat}{r:aS}{sz t:Nat}{ag:Bool}(hG:Au O H self ops π rs bV bM bF vF)(hr:rs[i]? =GW r)(hi:¬D i)(Ja:r.guard=GX/\r.op=.ld sz ag (.t t))(hc:c<=rs.length)(hW:∀j,j<c->li rs j->D j)(fV:∀j,Ord ops (π i) (π j)->¬D j)(aH:∀j,j<=c->∀id o,ax (bM j) id=GW o->id<bF j):∀k,i+1+k<=c->fY (bM (i+1+k)) sz ag (ai (bV i) t)=GW (vF i)
 | 0,hk=>by
  have h1:=hG.run.step i r hr;simp only[fD,Ja.1,rL,Ja.2] at h1;obtain⟨h2,h3,h4⟩:=acF (.inr ⟨_,_,_,rfl⟩) h1;simp only[bg,az] at h2;rw[xd,h3];exact h2
 | k+1,hk=>by
  have ih:=aau hG hr hi Ja hc hW fV aH k (by omega);have hl:i+1+k<rs.length:=by omega
  have hj:rs[i+1+k]? =GW rs[i+1+k]:=by simp[hl]
  have aU:=hG.run.step _ _ hj;rw[show i+1+(k+1)=i+1+k+1 by omega];rcases uV (li rs (i+1+k)) with hw | hw
  .have hD:=hW _ (by omega) hw;rcases hG.pair i (i+1+k) r _ (by omega) hr hj with ho | hf
   .exact (fV _ ho hD).elim
   .obtain ⟨I8,lV⟩:=hf;obtain⟨eN,h5,h6⟩:=hw;rw[hj] at h5;injection h5 with h5
    subst h5;rcases lV with lV | lV
    .have h1k:bj r.op=1:=by rw[Ja.2];rfl
     simp only[KB,h1k,h6] at lV;cases lV
    .unfold KT at lV;simp only[Ja.1,Ja.2] at lV;generalize iy:(rs[i+1+k]).op=q at lV;have Wb:Fq t (r::(rs.take (i+1+k)).drop (i+1))=ycN->ai (bV (i+1+k)) t=ai (bV i) t:=by
      intro ayM;have lh:=aa8 ayM;rw[show i+1+k=i+(1+k) by omega];refine KE hG.run (1+k) (by omega) (fun l rl g1 g2 Ce=>lh rl ?_);rcases vH g1 with rfl | g1
      .rw [hr] at Ce;injection Ce with Ce;subst Ce;exact wS
      .refine wA _ ?_
       have:((rs.take (i+1+k)).drop (i+1))[l-(i+1)]? =GW rl:=by
        rw[List.getElem?_drop,List.getElem?_take_of_lt (by omega),show i+1+(l-(i+1))=l by omega];exact Ce
       exact List.mem_of_getElem? this
     unfold fD at aU
     cases hg:rL (bV (i+1+k)) (rs[i+1+k]).guard with
     | none=>simp[hg] at aU
     | some b=>
      cases b with
      | false=>
       simp only[hg,yd,yo] at aU;rw[<-aU.2.1];exact ih
      | true=>
       simp only[hg,iy] at aU;cases q<;>simp only[yL] at lV
       case jD DV fx xs=>
        simp only[ye] at lV;have Ik:=Pj lV.1;have Cf:=Wb lV.2;simp only[aZ] at aU
        cases bL:fj O.prog O.aI self (bM (i+1+k)) (bF (i+1+k)) .dyn (az (bV (i+1+k)) fx) (dL (bV (i+1+k)) xs) with
        | none=>simp[bL] at aU
        | some z=>
         obtain⟨v1,bk,qD⟩:=z;simp only[bL] at aU
         cases hs:pK (bV (i+1+k)) (bM (i+1+k)) bk DV with
         | false=>rw[hs] at aU;cases aU
         | true=>
          rw[hs] at aU;simp only[yC,yd,yo] at aU;obtain⟨_,h8,_⟩:=aU;rw[<-h8,<-Cf];exact TD hs Ik (by rw[Cf];exact ih)
       case lO DV n9 x v=>
        simp only[ye] at lV;have Ik:=Pj lV.1;have Cf:=Wb lV.2;simp only[aZ] at aU
        split at aU
        .rename_i id off hx
         cases hs:jA (bV (i+1+k)) id DV with
         | false=>rw[hs] at aU;cases aU
         | true=>
          rw[hs] at aU;simp only[yC] at aU;rw[<-Cf];exact aaG hs Ik hx aU (by rw[Cf];exact ih)
        .cases aU
       case lP DV n9 b x v=>
        simp only[ye] at lV;have Ik:=Pj lV.1;have Cf:=Wb lV.2;simp only[aZ] at aU
        cases bL:cz (bV (i+1+k)) (bM (i+1+k)) (bF (i+1+k)) (.c9 n9 b x v) with
        | none=>simp[bL] at aU
        | some z=>
         obtain⟨v1,bk,qD⟩:=z;simp only[bL] at aU
         cases hs:(AA (bV (i+1+k)) (az (bV (i+1+k)) x) DV||pK (bV (i+1+k)) (bM (i+1+k)) bk DV) with
         | false=>rw[hs] at aU;cases aU
         | true=>
          rw[hs] at aU;simp only[yC,yd,yo] at aU;obtain⟨_,h8,_⟩:=aU;rw[<-h8,<-Cf];rcases (uC _ _).mp hs with hs | hs
          .exact amp hs Ik bL (aH _ (by omega)) (by rw[Cf];exact ih)
          .exact TD hs Ik (by rw[Cf];exact ih)
  .exact Vc (abT (KW hj hw) aU (aH _ (by omega))).le ih
structure Inv(O:bz)(ops:Array yV)(rs:List aS)(bV:Nat->Env)(bM:Nat->Hp)(bF:Nat->Nat)(D:Nat->Prop)(m0:Mp)(S0:Nat->Prop)(w0:ym)(n0:Nat)(d0:List yam)(st c:Nat)(m:Mp)(S:Nat->Prop)(w:ym)(a:Act):Prop where
 YG:st<=c
 cn:c<=rs.length
 before:∀i,i<st->li rs i->D i
 Jb:∀i,st<=i->i<c->¬li rs i
 cut:c=rs.length\/(li rs c/\¬D c)
 behind:∀(i:Nat) (r:aS),c<=i->rs[i]? =GW r->1<=bj r.op->¬D i
 hp:aT O m S w (bM c) (bF c)
 YH:∀id p,m id=GW p->id<bF st\/∃i,st<=i/\i<c/\D i/\bF i<=id/\id<bF (i+1)
 tm:SH O rs bV D m S w a
 SI:cr m0 S0 w0 (bM 0) m S w (bM c) (bF 0)
 ge:bF 0<=bF c
 size:a.tmps.size=n0
 defers:a.defers=d0
 Jc:st=0\/li rs (st-1)
 Jd:∀j,j<=c->∀id o,ax (bM j) id=GW o->id<bF j
end
end
end
section
open Go
section
variable {O:bz}{H:Hint}{ops:Array yV}{π:Nat->Nat}{rs:List aS}{bV:Nat->Env}{bM:Nat->Hp}{bF:Nat->Nat}{vF:Nat->AV}{self:cw}{ro:Option Nat}{Q:uz->Act->ym->Prop}
variable {D D':Nat->Prop}{m0:Mp}{S0:Nat->Prop}{w0:ym}{n0:Nat}{d0:List yam}{st c i:Nat}{m:Mp}{S:Nat->Prop}{w:ym}{a:Act}{r:aS}{o:yV}
def Pm(hG:Au O H self ops π rs bV bM bF vF)(hI:Inv O ops rs bV bM bF D m0 S0 w0 n0 d0 st c m S w a){x y:Nat}(hx:st<=x)(hxy:x<=y)(hy:y<=c):jh (bM x) (bF x) (bM y) (bF y):=by
 obtain⟨k,rfl⟩:∃k,y=x+k:=⟨y-x,by omega⟩
 have:=hI.cn
 exact Pk hG.run (hI.Jd x (by omega)) k (by omega) (fun j r h1 h2 hr=>KW hr (hI.Jb j (by omega) (by omega)))
def PE(hG:Au O H self ops π rs bV bM bF vF)(hI:Inv O ops rs bV bM bF D m0 S0 w0 n0 d0 st c m S w a)(hr:rs[i]? =GW r)(hi:¬D i)(eX:∀j,Ord ops (π j) (π i)->D j)(fV:∀j,Ord ops (π i) (π j)->¬D j)(hD:∀j,D' j↔D j\/j=i)(hd:∀d,r.dst=GW d->d<a.tmps.size)(hw:¬li rs i)(qu:bj r.op=0\/i<c){m':Mp}{S':Nat->Prop}{w':ym}{u:yj}(k1:aT O m' S' w' (bM c) (bF c))(k2:dz m m')(k3:∀id p,m' id=GW p->m id=GW p\/(st<=i/\i<c/\bF i<=id/\id<bF (i+1)))(k4:aj O.ah m' S' w' (vF i) u)(k5:cr m S w (bM c) m' S' w' (bM c) (bF c)):
  Inv O ops rs bV bM bF D' m0 S0 w0 n0 d0 st c m' S' w' (a.put r.dst u) where
 YG:=hI.YG
 cn:=hI.cn
 before j hj Gp:=(hD j).2 (.inl (hI.before j hj Gp))
 Jb:=hI.Jb
 cut:=hI.cut.imp (fun h=>h) (fun h=>⟨h.1,fun hc=>((hD c).1 hc).elim h.2 (fun e=>hw (e▸h.1))⟩)
 behind j rj hj Gq hk Gr:=((hD j).1 Gr).elim (hI.behind j rj hj Gq hk) (fun e=>by
  subst e;rw[hr] at Gq;injection Gq with Gq
  subst Gq
  rcases qu with h | h<;>omega)
 hp:=k1
 YH id p hp:=by
  rcases k3 id p hp with h | ⟨h1,h2,h3,h4⟩
  .rcases hI.YH id p h with h | ⟨j,g1,g2,g3,g4,g5⟩
   .exact .inl h
   .exact .inr ⟨j,g1,g2,(hD j).2 (.inl g3),g4,g5⟩
  .exact .inr ⟨i,h1,h2,(hD i).2 (.inr rfl),h3,h4⟩
 tm:=adT hG hI.tm hr hi eX fV hD k2 k5.sub (fun b hb=>k5.still b hb) hd k4
 SI:=hI.SI.trans (k5.AB hI.ge)
 ge:=hI.ge
 size:=by rw[PC];exact hI.size
 defers:=by rw[TY];exact hI.defers
 Jc:=hI.Jc
 Jd:=hI.Jd
def adU(hG:Au O H self ops π rs bV bM bF vF)(hI:Inv O ops rs bV bM bF D m0 S0 w0 n0 d0 st c m S w a)(hr:rs[c]? =GW r)(hi:¬D c)(eX:∀j,Ord ops (π j) (π c)->D j)(fV:∀j,Ord ops (π c) (π j)->¬D j)(hD:∀j,D' j↔D j\/j=c)(hd:∀d,r.dst=GW d->d<a.tmps.size)(hw:li rs c){m':Mp}{S':Nat->Prop}{w':ym}{u:yj}(k1:aT O m' S' w' (bM (c+1)) (bF (c+1)))(k2:bF c<=bF (c+1))(k4:aj O.ah m' S' w' (vF c) u)(k5:cr m S w (bM c) m' S' w' (bM (c+1)) (bF c)):
  ∃c' DL,Inv O ops rs bV bM bF D' m0 S0 w0 n0 d0 (c+1) c' m' DL w' (a.put r.dst u):=by
 have bL:c<rs.length:=(xN.1 hr).1;obtain⟨c',h1,h2,h3,h4⟩:=VF rs (rs.length-(c+1)) (c+1) (by omega);obtain⟨k,rfl⟩:∃k,c'=c+1+k:=⟨c'-(c+1),by omega⟩;have hg:∀k',k'<=k->jh (bM (c+1)) (bF (c+1)) (bM (c+1+k')) (bF (c+1+k')):=fun k' zE=>
  Pk hG.run k1.aH k' (by omega) (fun j r g1 g2 hr=>KW hr (h3 j g1 (by omega)))
 obtain⟨DL,g1,g2,g3,g4⟩:=PB k1 (hg k (yz _));have hml:dz m m':=fun id p h=>k5.old id p (hI.hp.lt id p h) h
 refine⟨c+1+k,DL,⟨by omega,h2,?_,h3,?_,?_,g1,fun id p h=>.inl (k1.lt id p h),?_,?_,?_,by rw[PC];exact hI.size,by rw[TY];exact hI.defers,.inr (by simpa using hw),?_⟩⟩
 .intro j hj Gp;rcases vH (vT hj) with e | hj
  .exact (hD j).2 (.inr e)
  .rcases vz j st with g | g
   .exact (hD j).2 (.inl (hI.before j g Gp))
   .exact (hI.Jb j g hj Gp).elim
 .refine h4.imp (fun h=>h) (fun h=>⟨h,fun hc=>?_⟩);obtain⟨rc,Je,qu⟩:=h;rcases (hD _).1 hc with g | g
  .exact hI.behind _ rc (by omega) Je (by omega) g
  .omega
 .intro j rj hj Gq hk Gr;rcases (hD j).1 Gr with g | g
  .exact hI.behind j rj (by omega) Gq hk g
  .omega
 .exact adT hG hI.tm hr hi eX fV hD hml (fun b hb=>g2 b (k5.sub b hb)) (fun b hb=>k5.still b hb) hd (mI (fun _ _ h=>h) g2 (fun _ _=>rfl) _ _ k4)
 .exact (hI.SI.trans (k5.AB hI.ge)).trans (g4 (bF 0))
 .have:=(hg k (yz _)).sI
  have:=hI.ge
  omega
 .intro j hj;rcases vz c j with g | g
  .obtain ⟨k',rfl⟩:∃k',j=c+1+k':=⟨j-(c+1),by omega⟩;exact (hg k' (by omega)).lt
  .exact hI.Jd j g
def aok{q:Op}(h:bj q≠2):jF q=q:=by
 cases q<;>first
  | rfl
  | exact absurd rfl h
def aa9{x y:aS}{l:List aS}(h:FL x y l):¬(bj x.op=2/\1<=bj y.op)/\(1<=bj x.op->bj y.op=2->x.guard=GX/\∃sz ag t,x.op=.ld sz ag (.t t)):=by
 have⟨_,h⟩:=h;have ex:KT x y l=ycN->x.guard=GX/\∃sz ag t,x.op=.ld sz ag (.t t):=by
  intro he;unfold KT at he
  split at he
  .rename_i sz ag t DV fx xs h1 h2 h3;exact⟨h1,sz,ag,t,h2⟩
  .rename_i h1 h2 h3;exact⟨h1,_,_,_,h2⟩
  .rename_i h1 h2 h3;exact⟨h1,_,_,_,h2⟩
  .cases he
 have k2:∀q:Op,bj q<=2:=fun q=>by
  cases q with
  | sA k x lo hi=>cases k<;>simp[bj]
  | len k x=>rcases k with _ | _ | k<;>simp[bj]
  | call md f xs=>cases md<;>simp[bj]
  | _=>simp[bj]
 constructor
 .rintro ⟨h1,h2⟩;rcases h with h | h
  .have:bj y.op=1\/bj y.op=2:=by have:=k2 y.op;lia
   rcases this with e | e<;>(simp only[KB,h1,e] at h;cases h)
  .have ⟨_,sz,ag,t,e⟩:=ex h;rw[e] at h1;cases h1
 .intro h1 h2;rcases h with h | h
  .have:bj x.op=1\/bj x.op=2:=by have:=k2 x.op;lia
   rcases this with e | e<;>(simp only[KB,h2,e] at h;cases h)
  .exact ex h
def aol(hC:pM O self)(hH:fH O H)(hG:Au O H self ops π rs bV bM bF vF)(hn:H.n<=n0)(hI:Inv O ops rs bV bM bF D m0 S0 w0 n0 d0 st c m S w a)(hr:rs[i]? =GW r)(ho:ops[π i]? =GW o)(hi:¬D i)(eX:∀j,Ord ops (π j) (π i)->D j)(fV:∀j,Ord ops (π i) (π j)->¬D j)(hD:∀j,D' j↔D j\/j=i){K:Act->ym->Prop}(hK:∀st' c' m' S' w' a',Inv O ops rs bV bM bF D' m0 S0 w0 n0 d0 st' c' m' S' w' a'->K a' w'):wpOpIn (WF ro) 0 O.P ops Q (π i) K a w:=by
 have da:=hG.of i r o hr ho;have WY:=aqj hG hI.tm hr hi eX fV;have aU:=hG.run.step i r hr;have hd:∀d,r.dst=GW d->d<a.tmps.size:=by
  rw[da.dst];exact acE da.ok (by rw[hI.size];exact hn)
 have gG:=hI.YG;have lf:1<=bj r.op->i<=c:=by
  intro hk;rcases vz c i with YI | YI
  .have A1:i<rs.length:=(xN.1 hr).1;rcases hI.cut with h | ⟨⟨rc,Je,qu⟩,NQ⟩
   .omega
   .rcases hG.pair c i rc r YI Je hr with h | h
    .exact (NQ (eX c h)).elim
    .exact ((aa9 h).1 ⟨qu,hk⟩).elim
  .exact YI
 have hwc:li rs i->i=c:=by
  intro hw;obtain⟨eN,h1,h2⟩:=hw;rw[hr] at h1;injection h1 with h1
  subst h1;have h3:=lf (by omega);rcases vH h3 with e | h3
  .exact e
  .rcases vz i st with g | g
   .exact (hi (hI.before i g ⟨r,hr,h2⟩)).elim
   .exact (hI.Jb i g h3 ⟨r,hr,h2⟩).elim
 have aH:1<=bj r.op->¬li rs i->i<c:=by
  intro hk hw;rcases vH (lf hk) with e | h
  .subst e;rcases hI.cut with h | h
   .have A1:i<rs.length:=(xN.1 hr).1;omega
   .exact (hw h.1).elim
  .exact h
 have qu:¬li rs i->bj r.op=0\/i<c:=fun hw=>by
  rcases xv (bj r.op) with h | h
  .exact .inl h
  .exact .inr (aH h hw)
 unfold wpOpIn;simp only[ho];unfold fD at aU
 cases SJ:rL (bV i) r.guard with
 | none=>simp[SJ] at aU
 | some b=>
  have YF:=abQ da.guard (fun t ht=>WY t (by simp[EP,ht])) SJ;rw[YF]
  cases b with
  | false=>
   simp only[SJ,yd,yo] at aU;obtain⟨hv,hh,hc⟩:=aU;simp only[yL,xE];refine⟨fun _ _=>trivial,?_⟩;have eE:∀m S w,aj O.ah m S w (vF i) undef:=fun m S w=>by rw[<-hv];simp[aj,aB,undef]
   rw[<-da.dst];rcases uV (li rs i) with hw | hw
   .have e:=hwc hw;subst e;obtain⟨c',DL,h⟩:=adU hG hI hr hi eX fV hD hd hw (m':=m) (S':=S) (w':=w) (u:=undef) (by rw[<-hh,<-hc];exact hI.hp) (by omega) (eE _ _ _) (by rw[<-hh];exact cr.refl)
    exact hK _ _ _ _ _ _ h
   .exact hK _ _ _ _ _ _ (PE hG hI hr hi eX fV hD hd hw (qu hw) (m':=m) (S':=S) (w':=w) (u:=undef) hI.hp dz.refl (fun _ _ h=>.inl h) (eE _ _ _) cr.refl)
  | true=>
   simp only[SJ] at aU;simp only[xS];have lh:=aaF da.op aU;have N3:b7 O m S w (cu (bV i) (kL r.op)) a.tmps:=fun t=>by
    rcases uV (t∈kL r.op) with h | h
    .rw [PD h];exact WY t (by simp[EP,h])
    .have:ai (cu (bV i) (kL r.op)) t=.undef:=by
      clear WY aU;revert h;generalize kL r.op=l;intro h
      induction l with
      | nil=>rfl
      | cons x l ih=>
       simp only[cu,ai];have hx:yp x t=ycO:=by
        cases hq:yp x t with
        | false=>rfl
        | true=>exact absurd (by rw[yh hq];exact wS) h
       rw[hx];exact ih (fun h'=>h (wA _ h'))
     rw[this];simp only[aj]
   have A2:aZ O.prog O.aI self (cu (bV i) (kL r.op)) (bM i) (bF i) (jF r.op)=GW (vF i,bM (i+1),bF (i+1)):=
    amo (fun t ht=>PD ht) aU
   have aet:¬li rs i->jF r.op=r.op:=fun hw=>aok (fun h=>hw ⟨r,hr,h⟩)
   have now:¬li rs i->bg (cu (bV i) (kL r.op)) (bM c) r.op=GW (vF i)->Oper.wpIn (WF ro) 0 O.P o a w K Q:=by
    intro hw eT;by_cases DS:∃n sz z ps,r.op=.nl n sz z ps
    .obtain ⟨n,sz,z,ps,DS⟩:=DS;have NV:bj r.op=0:=by rw[DS];rfl
     have ayN:aZ O.prog O.aI self (cu (bV i) (kL r.op)) (bM c) (bF c) r.op=GW (vF i,bM c,bF c):=by
      rw[DS] at eT ⊢;simp only[aZ,eT]
     refine quiet_step (Hq:=bM c) (cH:=bF c) hC hH (by omega) da.op lh ayN cU.refl (yz _) hI.hp.aH (fun id h1 h2=>by omega) N3 hI.hp (fun u m' S' w' k1 k2 k3 k4 k5=>?_);rw[<-da.dst];exact hK _ _ _ _ _ _ (PE hG hI hr hi eX fV hD hd hw (.inl NV) k1 k2 (fun id p h=>.inl ((k3 id p h).resolve_right (by omega))) k4 k5)
    have iy:∃k,r.op=aP O.P H k o:=by
     rcases da.op with h | ⟨cc,f,rr,_,_,h⟩ | ⟨_,_,_,_,_,_,_,h⟩ | ⟨_,_,_,_,_,_,_,h⟩ | ⟨_,_,_,_,_,_,h⟩ | ⟨_,_,_,_,_,_,h⟩
     .exact h
     .rw [h] at eT;simp[bg] at eT
     .rw [h] at eT;simp[bg] at eT
     .rw [h] at eT;simp[bg] at eT
     .rw [h] at eT;simp[bg] at eT
     .exact (DS ⟨_,_,_,_,h⟩).elim
    obtain⟨k,hk⟩:=iy;rw[hk] at eT;rw[hk] at N3;obtain⟨u,h1,h2⟩:=adF hH N3 hI.hp eT;refine Hn lh h1 (.inl rfl) ?_;rw[<-da.dst];exact hK _ _ _ _ _ _ (PE hG hI hr hi eX fV hD hd hw (qu hw) hI.hp dz.refl (fun _ _ h=>.inl h) h2 cr.refl)
   rcases uV (li rs i) with hw | hw
   .have e:=hwc hw;subst e;refine acD hC hH (aln da.op) lh A2 N3 hI.hp (fun u m' S' w' k1 k2 k3 k4=>?_);rw[<-da.dst];obtain⟨c',DL,h⟩:=adU hG hI hr hi eX fV hD hd hw k1 k2 k3 k4;exact hK _ _ _ _ _ _ h
   .rcases xv (bj r.op) with hk | hk
    .have A2:=aet hw▸A2;obtain⟨h1,_,_⟩:=acF (.inl hk) A2;exact now hw (by rw[amf hk (bM c) (bM i)];exact h1)
    .have I4:=aH hk hw;rcases vz i st with WZ | WZ
     .
      rcases hI.Jc with h0 | h0
      .omega
      .have bk:D (st-1):=hI.before _ (by omega) h0;have fP:i≠st-1:=fun e=>hi (e▸bk)
       obtain⟨rp,hrp,cS⟩:=h0;rcases hG.pair i (st-1) r rp (by omega) hr hrp with h | h
       .exact (fV _ h bk).elim
       .obtain ⟨hg,sz,ag,t,iy⟩:=(aa9 h).2 hk cS;have hl:=aau (c:=c) hG hr hi ⟨hg,iy⟩ hI.cn (fun j hj Gp=>by
         rcases vz j st with g | g
         .exact hI.before j g Gp
         .exact (hI.Jb j g hj Gp).elim) fV hI.Jd (c-(i+1)) (by omega)
        rw[show i+1+(c-(i+1))=c by omega] at hl;refine now hw ?_;rw[iy];simp only[bg,az];rw[PD (by simp[kL,jE])];exact hl
     .have gM:=Pm hG hI (x:=i+1) (y:=c) (by omega) I4 (yz _);have N4:=Pm hG hI (x:=st) (y:=i) (yz _) WZ (by omega)
      refine quiet_step (Hq:=bM c) (cH:=bF c) hC hH (KW hr hw) da.op lh (aet hw▸A2) gM.le gM.sI (hI.Jd i (by omega)) ?_ N3 hI.hp (fun u m' S' w' k1 k2 k3 k4 k5=>?_)
      .intro id h1 h2
       cases hm:m id with
       | none=>rfl
       | some p=>
        rcases hI.YH id p hm with h | ⟨j,q1,q2,q3,q4,q5⟩
        .have:=N4.sI;omega
        .rcases Nat.lt_trichotomy j i with g | g | g
         .have:=(Pm hG hI (x:=j+1) (y:=i) (by omega) g (by omega)).sI;omega
         .subst g;exact (hi q3).elim
         .have:=(Pm hG hI (x:=i+1) (y:=j) (by omega) g (by omega)).sI;omega
      .rw [<-da.dst];exact hK _ _ _ _ _ _ (PE hG hI hr hi eX fV hD hd hw (.inr I4) k1 k2 (fun id p h=>(k3 id p h).imp (fun h=>h) (fun h=>⟨WZ,I4,h.1,h.2⟩)) k4 k5)
def left(n:Nat)(listed:Array Bool):Nat:=(List.range n).countP fun i=> !listed.getD i ycO
def aom{n:Nat}{listed:Array Bool}{i:Nat}(hi:i<n)(hs:listed.size=n)(hl:listed.getD i ycN=ycO):left n (listed.setIfInBounds i ycN)+1=left n listed:=by
 have key:∀(l:List Nat),l.Nodup->(i∈l->(l.countP fun j=> !(listed.setIfInBounds i ycN).getD j ycO)+1=l.countP fun j=> !listed.getD j ycO)/\(i∉l->(l.countP fun j=> !(listed.setIfInBounds i ycN).getD j ycO)=l.countP fun j=> !listed.getD j ycO):=by
  intro l
  induction l with
  | nil=>intro _;exact⟨fun h=>(by cases h),fun _=>rfl⟩
  | cons x l ih=>
   intro lh;have hx:x≠i->(listed.setIfInBounds i ycN).getD x ycO=listed.getD x ycO:=fun h=>getD_set_ne ycO (ycx h)
   refine⟨fun hm=>?_,fun hm=>?_⟩
   .rw [ybt,ybt];by_cases e:x=i
    .simp_all
    .grind
   .grind
 exact (key _ List.nodup_range).1 (tc.2 hi)
def amq{n:Nat}{listed:Array Bool}(h:left n listed=0):∀i,i<n->listed.getD i ycO=ycN:=by
 unfold left at h
 simp_all
def amr{listed:Array Bool}(hs:listed.size=ops.size)(hb:∀(i:Nat) (o:yV),ops[i]? =GW o->∀e,e∈o.after->Region.binds .any e=ycN->e.on<i)(h:Region.ready .any ops listed=[]):∀i,i<ops.size->listed.getD i ycO=ycN:=by
 intro i
 induction i using vQ with
 | _ i ih=>
  intro hi
  cases hq:listed.getD i ycO with
  | true=>rfl
  | false=>
   have:i∈Region.ready .any ops listed:=by
    refine mem_ready.2 ⟨?_,ops[i],by simp[hi],fun e he AW=>?_⟩
    .have aH:i<listed.size:=by lia
     simp only[wh,aH,uN,xT] at hq ⊢;exact hq
    .have:=hb i ops[i] (by simp[hi]) e he AW
     exact ih e.on this (by lia)
   rw[h] at this;cases this
def aqk(hG:Au O H self ops π rs bV bM bF vF)(hI:Inv O ops rs bV bM bF D m0 S0 w0 n0 d0 st c m S w a)(mu:∀i,i<rs.length->D i):
  aT O m S w (bM rs.length) (bF rs.length)/\b7 O m S w (bV rs.length) a.tmps/\cr m0 S0 w0 (bM 0) m S w (bM rs.length) (bF 0)/\bF 0<=bF rs.length:=by
 have hc:c=rs.length:=by
  rcases hI.cut with h | ⟨⟨r,h1,_⟩,h2⟩
  .exact h
  .exact (h2 (mu c (xN.1 h1).1)).elim
 subst hc;refine⟨hI.hp,fun t=>?_,hI.SI,hI.ge⟩;obtain⟨j,h1,h2,h3⟩:=hI.tm t;obtain⟨k,hk⟩:∃k,rs.length=j+k:=⟨rs.length-j,by omega⟩
 have:=KE (t:=t) (i:=j) hG.run k (by omega) (fun l r g1 g2 hl hd=>by
  have:=(h2 l r hl hd).1 (mu l (xN.1 hl).1)
  omega)
 rw[<-hk] at this;rw[this];exact h3
structure Lf(n:Nat)(π:Nat->Nat):Prop where
 inj:∀i j,π i=π j->i=j
 sur:∀x,x<n->∃i,i<n/\π i=x
 lt:∀i,i<n->π i<n
def asJ(hC:pM O self)(hH:fH O H)(hG:Au O H self ops π rs bV bM bF vF)(hπ:Lf ops.size π)(hn:H.n<=n0)(hQ:∀a' m' S' w',aT O m' S' w' (bM rs.length) (bF rs.length)->bF 0<=bF rs.length->b7 O m' S' w' (bV rs.length) a'.tmps->cr m0 S0 w0 (bM 0) m' S' w' (bM rs.length) (bF 0)->a'.tmps.size=n0->a'.defers=d0->Q .normal a' w'):
  ∀(bl:Nat) (listed:Array Bool) (st c:Nat) (m:Mp) (S:Nat->Prop) (w:ym) (a:Act),listed.size=ops.size->left ops.size listed=bl->VD ops (fun i=>listed.getD i ycO=ycN)->
   Inv O ops rs bV bM bF (fun i=>listed.getD (π i) ycO=ycN) m0 S0 w0 n0 d0 st c m S w a->wpAnyIn (WF ro) 0 O.P .any ops Q bl listed a w:=by
 have fin:∀(listed:Array Bool) (st c:Nat) (m:Mp) (S:Nat->Prop) (w:ym) (a:Act),Inv O ops rs bV bM bF (fun i=>listed.getD (π i) ycO=ycN) m0 S0 w0 n0 d0 st c m S w a->(∀i,i<ops.size->listed.getD i ycO=ycN)->Q .normal a w:=by
  intro listed st c m S w a hI mu;obtain⟨h1,h2,h3,h4⟩:=aqk hG hI (fun i hi=>mu _ (hπ.lt i (by rw[<-hG.len];exact hi)))
  exact hQ a m S w h1 h4 h2 h3 hI.size hI.defers
 intro bl
 induction bl with
 | zero=>
  intro listed st c m S w a hs hl hc hI;have mu:=amq hl;refine⟨?_,fin listed st c m S w a hI mu⟩;rw[List.eq_nil_iff_forall_not_mem];intro i hm;obtain⟨h1,o,ho,_⟩:=mem_ready.1 hm;have hi:=(xD.1 ho).1
  have:=mu i hi
  have aH:i<listed.size:=by omega
  simp only[wh,aH,uN,xT] at h1 this;rw[this] at h1;cases h1
 | succ bl ih=>
  intro listed st c m S w a hs hl hc hI;refine⟨fun h=>fin listed st c m S w a hI (amr hs hG.back h),fun x hm=>?_⟩;obtain⟨h1,o,ho,h2⟩:=mem_ready.1 hm;have hx:x<ops.size:=(xD.1 ho).1;obtain⟨i,hi,rfl⟩:=hπ.sur x hx;have hr:rs[i]? =GW (rs[i]'(by rw[hG.len];exact hi)):=by simp[hG.len,hi]
  have aH:π i<listed.size:=by omega
  have hni:¬listed.getD (π i) ycO=ycN:=by
   simp only[wh,aH,uN,xT] at h1 ⊢;rw[h1];simp
  have YJ:∀y,(listed.setIfInBounds (π i) ycN).getD y ycO=ycN↔listed.getD y ycO=ycN\/y=π i:=by
   intro y;by_cases e:y=π i
   .subst e;simp[aH]
   .rw [getD_set_ne ycO (ycx e)];simp[e]
  have hD:∀j,(listed.setIfInBounds (π i) ycN).getD (π j) ycO=ycN↔listed.getD (π j) ycO=ycN\/j=i:=by
   intro j;rw[YJ];exact or_congr Iff.rfl ⟨fun e=>hπ.inj _ _ e,fun e=>by rw[e]⟩
  refine aol (D:=fun i=>listed.getD (π i) ycO=ycN) hC hH hG hn hI hr ho hni (fun j hj=>abS hc (π i) o ho h2 (π j) hj) (fun j hj Gr=>?_) hD (fun st' c' m' S' w' a' YK=>ih (listed.setIfInBounds (π i) ycN) st' c' m' S' w' a' (by simp[hs]) ?_ ?_ YK)
  .have hjl:π j<ops.size:=by
    rcases vz (π j) ops.size with h | h
    .exact h
    .rw [wh,yaB (by omega)] at Gr;simp at Gr
   exact hni (aoj hc (show ops[π j]? =GW ops[π j] by simp[hjl]) Gr hj)
  .have:=aom hx hs h1
   omega
  .intro j oj N5 hj e he hb;rw[YJ];rcases (YJ j).1 hj with g | g
   .exact .inl (hc j oj N5 g e he hb)
   .subst g;rw[ho] at N5;injection N5 with N5
    subst N5;exact .inl (h2 e he hb)
end
end
section
open Go
section
variable {pm:List Nat}{n:Nat}{P:xy}{s s':St}
def alp{F:Fence}{Q:uz->Act->ym->Prop}{a:Act}{w:ym}{c:vj}(h:c.wpIn F n P Q a w)(hg:∀l a w,¬Q (.goto l) a w):(Code.scope c).wpIn F n P Q a w:=by
 intro b k cs da hb hr;have h0:(lone (b.atR a (.code (.scope c)::k)) cs w).fenced P F:=fenced_calm hb hr rfl;have s0:step P (lone (b.atR a (.code (.scope c)::k)) cs w)=.next (lone (b.atR a (.code c:: .inScope c::k)) cs w):=step_lone_go (by simp[stepG,stepG.exec,Frame.atR]);have⟨e,a₁,w₁,hq,FI⟩:=h b (.inScope c::k) cs da hb hr;have hx:∀id,exitTo id (.inScope c::k)=exitTo id k:=fun id=>by simp[exitTo]
 cases e with
 | normal=>
  have s1:step P (lone (b.atR a₁ (.inScope c::k)) cs w₁)=.next (lone (b.atR a₁ k) cs w₁):=step_lone_go (by simp[stepG,stepG.exec,Frame.atR]);exact⟨.normal,a₁,w₁,hq,.head h0 s0 (StepsIn.trans FI (.one (fenced_calm hb hr rfl) s1))⟩
 | exit id=>
  exact⟨.exit id,a₁,w₁,hq,fun k' hk=>.head h0 s0 (FI.1 k' (by rw[hx];exact hk)),fun bR hk=>let ⟨k₁,h1,h2⟩:=FI.2 bR (by rw[hx];exact hk);⟨k₁,h1,.head h0 s0 h2⟩⟩
 | goto l=>exact (hg _ _ _ hq).elim
 | ret=>exact⟨_,a₁,w₁,hq,.of_steps (.one h0 s0) FI⟩
 | panic ch=>exact⟨_,a₁,w₁,hq,.of_steps (.one h0 s0) FI⟩
 | outgrown=>exact⟨_,a₁,w₁,hq,.of_steps (.one h0 s0) FI⟩
def zt:Ex->uz
 | .normal=>.normal
 | .ret=>.ret
 | .exit id=>.exit id
def Marks(lo:Nat)(S:Nat->Prop)(w:ym)(ds:List yam):Prop:=∃rs:List Nat,ds=rs.map (fun r=>{target:=.collected r,args:=#[]})/\rs.Nodup/\
 ∀r,r∈rs->w.heap[r]? =GW (.deferred (GW []))/\¬S r/\lo<=r
def By(ro:Option Nat)(w:ym):Prop:=∀l,ro=GW l->∃r:uT,w.heap[l]? =GW (.loop r)
section
variable {O:bz}{m:Mp}{S:Nat->Prop}{w:ym}{hp:Hp}{ct:Nat}
def acG(hh:aT O m S w hp ct){b:Nat}(h:eH m hp b):∀x,w.heap[b]?≠GW (.deferred x):=by
 intro x hx;obtain⟨id,o,p,h1,h2,rfl⟩:=h;have h3:=hh.obj id o p h1 h2
 cases o with
 | cells rw pu ex sz cs=>have⟨q,arr,t,g1,g2,_⟩:=h3;rw[h2] at g1;injection g1 with g1;subst g1;rw[hx] at g2;cases g2
 | mp rw ks vs=>have⟨q,es,clock,g1,g2,_⟩:=h3;rw[h2] at g1;injection g1 with g1;subst g1;rw[hx] at g2;cases g2
 | si s pos=>have⟨q,t,g1,g2,_⟩:=h3;rw[h2] at g1;injection g1 with g1;subst g1;rw[hx] at g2;cases g2
 | lp tm ps cM body st pe=>have⟨q,l,hi,g1,g2,_⟩:=h3;rw[h2] at g1;injection g1 with g1;subst g1;rw[hx] at g2;cases g2
def CG(hh:aT O m S w hp ct){m':Mp}{S':Nat->Prop}{w':ym}{au:Hp}{base lo:Nat}(hf:cr m S w hp m' S' w' au base){ds:List yam}(h:Marks lo S w ds):Marks lo S' w' ds:=by
 have⟨rs,h1,h2,h3⟩:=h;refine⟨rs,h1,h2,fun r hr=>?_⟩;have⟨this,h4,h5⟩:=h3 r hr;have aH:=(xD.1 this).1;have qC:¬eH m hp r:=fun ho=>acG hh ho _ this
 refine⟨(hf.same r aH qC).trans this,fun hs=>?_,h5⟩;rcases hf.new r hs with h | h | h
 .grind
 .grind
 .lia
def Pn{m':Mp}{S':Nat->Prop}{w':ym}{au:Hp}{base:Nat}{ro:Option Nat}(hf:cr m S w hp m' S' w' au base)(h:By ro w):By ro w':=fun l hl=>
 let ⟨r,hr⟩:=h l hl
 hf.loops l r hr
def fe(O:bz)(m:Mp)(S:Nat->Prop)(w:ym)(s:St)(ex:Ex)(s':St)(n lo:Nat)(e:uz)(a':Act)(w':ym):Prop:=
 e=zt ex/\∃m' S',b7 O m' S' w' s'.tm a'.tmps/\aT O m' S' w' s'.hp s'.ct/\s'.base=s.base/\s.base<=s'.ct/\cr m S w s.hp m' S' w' s'.hp s.base/\a'.tmps.size=n/\Marks lo S' w' a'.defers
def Dg(O:bz)(h:Nat)(c:vj)(s:St)(ex:Ex)(s':St):Prop:=
 ∀(ro:Option Nat) (lo:Nat) (m:Mp) (S:Nat->Prop) (w:ym) (a:Act),By ro w->b7 O m S w s.tm a.tmps->aT O m S w s.hp s.ct->s.base<=s.ct->(O.hint h).n<=a.tmps.size->O.w0.heap.size<=lo->lo<=w.heap.size->Marks lo S w a.defers->
  c.wpIn (WF ro) 0 O.P (fe O m S w s ex s' a.tmps.size lo) a w
structure iH(O:bz):Prop where
 hint:∀h,fH O (O.hint h)
 mixed:O.P.follows .mixedOrders=ycN
 prog:∀n F,O.prog n=GW F->∃fn,O.P.funcs[O.ah n]? =GW fn/\Hl O.P (O.hint n) fn=GW F/\fn.name≠ "runtime.NumGoroutine"
 aI:∀n sp aw r,O.aI.pure n=GW sp->sp aw=GW r->eR O n aw r
 Il:∀n sp hp ct aw v au aX,O.aI.heap n=GW sp->sp hp ct aw=GW (v,au,aX)->Df O n hp ct aw v au aX
def G7{P:xy}{H:Hint}{ops:Array yV}:∀(rs:List aS) (l:List yV) (done:List aS) (ms:List Nat),eW P H ops rs l->eW P H ops (lH done rs ms) l
 | [],l,done,ms,h=>by
  cases ms<;>simpa only[lH] using h
 | r::rs,[],done,ms,h=>by simp[eW] at h
 | r::rs,o::l,done,[],h=>by
  have⟨d,g,op⟩:=r;cases op<;>simpa only[lH] using h
 | r::rs,o::l,done,m::ms,h=>by
  simp only[eW] at h;have⟨h1,h2⟩:=h;have⟨d,g,op⟩:=r
  cases op with
  | jD DV f xs=>
   simp only[lH,eW];refine⟨?_,G7 rs l _ ms h2⟩;rcases h1 with h1 | ⟨_,h1⟩
   .refine .inl ⟨?_,h1.dst,h1.ok,h1.guard⟩;have⟨c,f',g1,g2,g3,g4⟩:=UI h1.op;rw[g3,g4];exact .inr (.inl ⟨c,f',_,g1,g2,rfl⟩)
   .simp [bad] at h1
  | st sz x y=>
   simp only[lH,eW];refine⟨?_,G7 rs l _ ms h2⟩;rcases h1 with h1 | ⟨_,h1⟩
   .refine .inl ⟨?_,h1.dst,h1.ok,h1.guard⟩;unfold stOp
    split
    .exact h1.op
    .have ⟨t,x',y',g1,g2,g3,g4⟩:=aw1 h1.op;exact .inr (.inr (.inl ⟨t,x',y',sz,_,g1,g2,by rw[g3,g4]⟩))
   .simp [bad] at h1
  | c9 sz b x y=>
   simp only[lH,eW];refine⟨?_,G7 rs l _ ms h2⟩;rcases h1 with h1 | ⟨_,h1⟩
   .refine .inl ⟨?_,h1.dst,h1.ok,h1.guard⟩;unfold agw
    split
    .exact h1.op
    .have ⟨k,hk⟩:=aes h1.op;exact .inr (.inr (.inr (.inl ⟨k,_,sz,b,x,y,hk,rfl⟩)))
   .simp [bad] at h1
  | _=>
   simp only[lH,eW];exact⟨h1,G7 rs l _ ms h2⟩
def acH{P:xy}{H:Hint}{ops:Array yV}:∀(rs:List aS) (l:List yV) (done:List aS),eW P H ops rs l->eW P H ops (H7 done rs) l
 | [],[],_,h=>h
 | [],_::_,_,h=>by simp[eW] at h
 | r::rs,[],done,h=>by simp[eW] at h
 | r::rs,o::l,done,h=>by
  simp only[eW] at h;obtain⟨h1,h2⟩:=h;simp only[H7,eW];refine⟨?_,acH rs l _ h2⟩;obtain⟨d,g,op⟩:=r
  cases op with
  | c9 sz b x y=>
   simp only
   cases aeo done x with
   | false=>exact h1
   | true=>
    simp only[yC];rcases h1 with h1 | ⟨_,h1⟩
    .refine .inl ⟨?_,h1.dst,h1.ok,h1.guard⟩;obtain⟨k,hk⟩:=aes h1.op;exact .inr (.inr (.inr (.inr (.inl ⟨k,sz,b,x,y,hk,rfl⟩))))
    .simp [bad] at h1
  | _=>exact h1
end
section
variable {O:bz}{self:cw}
def PF{P:xy}{H:Hint}{ops:Array yV}:∀{rs:List aS} {l:List yV},eW P H ops rs l->rs.length=l.length/\∀(i:Nat) (r:aS) (o:yV),rs[i]? =GW r->l[i]? =GW o->FB P H ops r o\/(r.guard=GX/\r.op=bad)
 | [],[],_=>⟨rfl,fun i r o h=>by simp at h⟩
 | [],_::_,h=>by simp[eW] at h
 | _::_,[],h=>by simp[eW] at h
 | r::rs,o::l,h=>by
  have⟨h1,h2⟩:=PF h.2;refine⟨by simp[h1],fun i r' o' hr ho=>?_⟩
  cases i with
  | zero=>simp at hr ho;subst hr;subst ho;exact h.1
  | succ i=>exact h2 i r' o' (by simpa using hr) (by simpa using ho)
def aql{H:Hint}{o:yV}{sz:Nat}{z:List AV}{ps:List (Nat×Nat×X)}(hq:oM P H (.jI n sz z ps) o):∃k,Op.jI n sz z ps=aP P H k o:=by
 rcases hq with h | ⟨_,_,_,_,_,h3⟩ | ⟨_,_,_,_,_,_,_,h3⟩ | ⟨_,_,_,_,_,_,_,h3⟩ | ⟨_,_,_,_,_,_,h3⟩ | ⟨_,_,_,_,_,_,h3⟩
 .exact h
 .cases h3
 .cases h3
 .cases h3
 .cases h3
 .cases h3
def acI{P:xy}{H:Hint}{ops:Array yV}{all:List aS}:∀(rs:List aS) (l:List yV),eW P H ops rs l->eW P H ops (Fs all rs) l
 | [],[],h=>h
 | [],_::_,h=>by simp[eW] at h
 | r::rs,[],h=>by simp[eW] at h
 | r::rs,o::l,h=>by
  simp only[eW] at h;obtain⟨h1,h2⟩:=h;simp only[Fs,eW];refine⟨?_,acI rs l h2⟩;obtain⟨d,g,op⟩:=r
  cases op with
  | jI n sz z ps=>
   simp only
   cases Qf d all with
   | false=>exact h1
   | true=>
    simp only[yC];rcases h1 with h1 | ⟨_,h1⟩
    .refine .inl ⟨?_,h1.dst,h1.ok,h1.guard⟩;obtain⟨k,hk⟩:=aql h1.op;exact .inr (.inr (.inr (.inr (.inr ⟨k,n,sz,z,ps,hk,rfl⟩))))
    .simp [bad] at h1
  | _=>exact h1
def Dh(l:List yV):List Nat->List yV
 | []=>[]
 | x::r=>match l[x]? with | some o=>o::Dh l r | none=>Dh l r
def Vh{P:xy}{H:Hint}{ops:Array yV}{rs:List aS}{l:List yV}(h:eW P H ops rs l):∀(pm:List Nat),eW P H ops (Dd rs pm) (Dh l pm)
 | []=>trivial
 | x::r=>by
  obtain⟨h1,h2⟩:=PF h;simp only[Dd,Dh]
  cases hr:rs[x]? with
  | none=>
   have:l[x]? =GX:=by rw[List.getElem?_eq_none_iff] at hr ⊢;omega
   rw[this];exact Vh h r
  | some q=>
   have aH:=(xN.1 hr).1;have hl:l[x]? =GW (l[x]'(by omega)):=by rw[xf]
   rw[hl];exact⟨h2 x q _ hr hl,Vh h r⟩
def abU{l:List yV}:∀(pm:List Nat),(∀x,x∈pm->x<l.length)->(Dh l pm).length=pm.length/\∀(i:Nat),(Dh l pm)[i]? =(pm[i]?).bind (l[·]?)
 | [],_=>⟨rfl,fun i=>by simp[Dh]⟩
 | x::r,h=>by
  have hx:=h x wS;obtain⟨h1,h2⟩:=abU r (fun y hy=>h y (wA _ hy));have hl:l[x]? =GW l[x]:=by rw[xf]
  simp only[Dh,hl];refine⟨by simp[h1],fun i=>?_⟩
  cases i with
  | zero=>simp[hl]
  | succ i=>simpa using h2 i
def aaH{m:Nat}:∀(pm:List Nat) (k i:Nat),vv (Hj m pm k) i=ycN->k<=i/\∃x,pm[i-k]? =GW x/\vv m x=ycN
 | [],k,i,h=>by simp[Hj] at h
 | x::r,k,i,h=>by
  simp only[Hj,ybI,uC] at h;rcases h with h | h
  .cases hx:vv m x with
   | false=>simp[hx] at h
   | true=>
    simp only[hx,yC,Nat.testBit_two_pow,tC] at h;subst h;exact⟨yz _,x,by simp,hx⟩
  .obtain ⟨h1,y,h2,h3⟩:=aaH r (k+1) i h;refine⟨by omega,y,?_,h3⟩;rw[show i-k=(i-(k+1))+1 by omega,yaC];exact h2
def aaI{ms pm all:List Nat}:∀(l:List Nat) (j:Nat),(CT ms pm all l)[j]? =(l[j]?).map fun x=>Hj (ms.getD x 0) pm 0
 | [],j=>by simp[CT]
 | x::r,0=>by simp[CT]
 | x::r,j+1=>by simpa[CT] using aaI r j
def akH(h:La n pm (As pm n)=ycN):pm.length=n/\(∀x,x∈pm->x<n)/\Lf n (fun i=>pm.getD i i):=by
 simp only[La,ye] at h;obtain⟨h1,h2⟩:=h;have hl:=yh h1;have A1:(As pm n).length=n:=by simp[As]
 have h3:∀i,i<n->pm.getD i i<n/\(As pm n).getD i i<n/\(As pm n).getD (pm.getD i i) i=i/\pm.getD ((As pm n).getD i i) i=i:=fun i hi=>by
  have:=tH.1 h2 i (tc.2 hi)
  simp only[ye] at this;obtain⟨a,b,c,d⟩:=this;exact⟨rm.1 a,rm.1 b,yh c,yh d⟩
 have out:∀i,n<=i->pm.getD i i=i:=fun i hi=>by rw[yU,List.getElem?_eq_none (by omega)];rfl
 generalize As pm n=inv at h3 A1;have agF:∀(l:List Nat) (i a b:Nat),i<l.length->l.getD i a=l.getD i b:=fun l i a b hi=>by
  rw[yU,yU,xf hi];rfl
 refine⟨hl,fun x hx=>?_,⟨fun i j qG=>?_,fun x hx=>?_,fun i hi=>(h3 i hi).1⟩⟩
 .obtain ⟨i,hi,rfl⟩:=List.getElem_of_mem hx
  have:=(h3 i (by omega)).1
  rwa[yU,xf hi] at this
 .have qG:pm.getD i i=pm.getD j j:=qG;by_cases hi:i<n
  .by_cases hj:j<n
   .have a:=(h3 i hi).2.2.1;have b:=(h3 j hj).2.2.1;rw[qG] at a;rw[agF inv _ i j (by rw[A1];exact (h3 j hj).1)] at a
    exact a.symm.trans b
   .rw [out j (by omega)] at qG
    have:=(h3 i hi).1
    omega
  .by_cases hj:j<n
   .rw [out i (by omega)] at qG
    have:=(h3 j hj).1
    omega
   .rw [out i (by omega),out j (by omega)] at qG;exact qG
 .obtain ⟨_,b,_,d⟩:=h3 x hx;exact⟨_,b,by show pm.getD _ _=x;rw[agF pm _ _ x (by omega)];exact d⟩
def aaJ{H:Hint}{ops:Array yV}{rs:List aS}{Pp:aG}{L:Lib}{Gn:cw}(dO:(ow ops.toList 0&&ri [] rs (kB [] ops.toList))=ycN)(Rg:eW P H ops rs ops.toList)(hv:dt Pp L Gn rs s=GW s'):
  ∃rs π,Lf ops.size π/\ow ops.toList 0=ycN/\(rs.length=ops.size/\∀(i:Nat) (r:aS) (o:yV),rs[i]? =GW r->ops[π i]? =GW o->FB P H ops r o\/(r.guard=GX/\r.op=bad))/\
    (∀(i j:Nat) (x y:aS),i<j->rs[i]? =GW x->rs[j]? =GW y->Ord ops (π i) (π j)\/FL x y ((rs.take j).drop (i+1)))/\dt Pp L Gn rs s=GW s':=by
 simp only[ye] at dO;obtain⟨hlen,ax⟩:=PF Rg;refine⟨rs,fun i=>i,⟨fun _ _ h=>h,fun x h=>⟨x,h,rfl⟩,fun _ h=>h⟩,dO.1,⟨by rw[hlen];simp,fun i r o hr ho=>ax i r o hr (by simpa using ho)⟩,fun i j x y qG hx hy=>?_,hv⟩
 obtain⟨mm,g1,g2⟩:=TC (done:=[]) (i:=i) (j:=j) (a:=x) (b:=y) dO.2 (by simpa using hx) hy (by simpa using qG);refine g2.imp (fun g=>?_) (fun g=>by simpa using g);unfold Ord;rw[yU,g1];exact g
def akr{H:Hint}{ops:Array yV}{l:List aS}{zD:List Nat}{Pp:aG}{L:Lib}{Gn:cw}(Gs:eW P H ops l ops.toList)(YL:CT (kB [] ops.toList) pm pm pm=zD)(q1:ow ops.toList 0=ycN)(q2:La ops.size pm (As pm ops.size)=ycN)(q3:ri [] (lH [] (Dd (Fs l l) pm) zD) zD=ycN)(hv:dt Pp L Gn (lH [] (Dd (Fs l l) pm) zD) s=GW s'):
  ∃rs π,Lf ops.size π/\ow ops.toList 0=ycN/\(rs.length=ops.size/\∀(i:Nat) (r:aS) (o:yV),rs[i]? =GW r->ops[π i]? =GW o->FB P H ops r o\/(r.guard=GX/\r.op=bad))/\
    (∀(i j:Nat) (x y:aS),i<j->rs[i]? =GW x->rs[j]? =GW y->Ord ops (π i) (π j)\/FL x y ((rs.take j).drop (i+1)))/\dt Pp L Gn rs s=GW s':=by
 obtain⟨hl,aH,hπ⟩:=akH q2;have h1:=G7 _ _ [] zD (Vh (acI (all:=l) _ _ Gs) pm);obtain⟨h2,h3⟩:=PF h1;obtain⟨h4,h5⟩:=abU (l:=ops.toList) pm (fun x hx=>by simpa using aH x hx);refine⟨_,_,hπ,q1,⟨by rw[h2,h4,hl],fun i r o hr ho=>h3 i r o hr ?_⟩,fun i j x y qG hx hy=>?_,hv⟩
 .have hi:i<pm.length:=by have:=(xN.1 hr).1;omega
  rw[h5,xf hi,wF];rw[yU,xf hi,xT] at ho;simpa using ho
 .have hj:j<pm.length:=by have:=(xN.1 hy).1;omega
  obtain⟨mm,g1,g2⟩:=TC (done:=[]) (i:=i) (j:=j) (a:=x) (b:=y) q3 (by simpa using hx) hy (by simpa using qG);refine g2.imp (fun g=>?_) (fun g=>by simpa using g);rw[<-YL,aaI,xf hj,wN,yd] at g1;subst g1;obtain⟨_,z,g3,g4⟩:=aaH _ _ _ g;unfold Ord
  rw[yU (l:=pm),xf hj,xT]
  rw[yU (l:=pm),show pm[i]? =GW z by simpa using g3,xT];exact g4
def ams{m:Mp}{S:Nat->Prop}{w:ym}{hp:Hp}{ct:Nat}(hh:aT O m S w hp ct):Calm w {w with drawn:=w.drawn+1}:=⟨rfl,rfl,rfl,yz _,fun _ _=>rfl⟩
def asK(hO:iH O)(hC:pM O self)(h:Nat)(id:Nat)(ops:Array yV)(draw:Bool)(k:Nat)(hv:dt O.prog O.aI self (PT O.P (O.hint h) ops draw k).1 s=GW s'):Dg O h (.region id ops draw) s .normal s':=by
 intro ro lo m S w a da ht hh hb hn bf fQ cI;unfold PT at hv;have Gs:=aa7 (P:=O.P) (H:=O.hint h) (ops:=ops) ops.toList k;generalize hq:EF O.P (O.hint h) ops ops.toList k=q at hv Gs;obtain⟨l,k'⟩:=q;simp only at hv Gs;have post:∀{a':Act} {m':Mp} {S':Nat->Prop} {w':ym},aT O m' S' w' s'.hp s'.ct->s.ct<=s'.ct->b7 O m' S' w' s'.tm a'.tmps->cr m S w s.hp m' S' w' s'.hp s.ct->a'.tmps.size=a.tmps.size->a'.defers=a.defers->s'.base=s.base->fe O m S w s .normal s' a.tmps.size lo .normal a' w':=by
  intro a' m' S' w' h1 h2 h3 h4 h5 h6 h7;exact⟨rfl,m',S',h3,h1,h7,by omega,h4.AB hb,h5,by rw[h6];exact CG hh h4 cI⟩
 cases draw with
 | false=>
  simp only[yX] at hv;refine wpIn_region ?_;rw[List.range_eq_range'];have hl:ops.size=ops.toList.length:=by simp
  rw[hl];exact adR hC (hO.hint h) ops.toList l 0 s s' a m S w (fun j=>by simp) Gs hv ht hh hn (fun a' m' S' w' h1 h2 h3 h4 h5 h6 h7=>post h1 h2 h3 h4 h5 h6 h7)
 | true=>
  simp only[yC] at hv;have Cg:∃rs π,Lf ops.size π/\ow ops.toList 0=ycN/\(rs.length=ops.size/\∀(i:Nat) (r:aS) (o:yV),rs[i]? =GW r->ops[π i]? =GW o->FB O.P (O.hint h) ops r o\/(r.guard=GX/\r.op=bad))/\
    (∀(i j:Nat) (x y:aS),i<j->rs[i]? =GW x->rs[j]? =GW y->Ord ops (π i) (π j)\/FL x y ((rs.take j).drop (i+1)))/\dt O.prog O.aI self rs s=GW s':=by
   have Rg:=G7 l ops.toList [] (kB [] ops.toList) Gs
   cases dO:(ow ops.toList 0&&ri [] (lH [] l (kB [] ops.toList)) (kB [] ops.toList)) with
   | true=>
    rw[dO] at hv;exact aaJ dO Rg hv
   | false=>
    rw[dO] at hv;simp only[yX] at hv
    cases W0:(ow ops.toList 0&&ri [] (H7 [] (lH [] l (kB [] ops.toList))) (kB [] ops.toList)) with
    | true=>
     rw[W0] at hv;exact aaJ W0 (acH _ _ _ Rg) hv
    | false=>
     rw[W0] at hv;simp only[yX] at hv;generalize hpm:places l (kB [] ops.toList)=pm at hv;generalize YL:CT (kB [] ops.toList) pm pm pm=zD at hv
     cases Rh:(ow ops.toList 0&&(La ops.size pm (As pm ops.size)&&ri [] (lH [] (Dd (Fs l l) pm) zD) zD)) with
     | false=>
      rw[Rh] at hv;simp[dt,bad,aZ,fj,az] at hv
     | true=>
      rw[Rh] at hv;simp only[yC] at hv;simp only[ye] at Rh;obtain⟨q1,q2,q3⟩:=Rh;exact akr Gs YL q1 q2 q3 hv
  clear hv;obtain⟨rs,π,hπ,aw2,⟨hlen,ax⟩,aw3,hv⟩:=Cg
  .obtain ⟨bV,bM,bF,vF,hR,e1,e2,e3,e4,e5,e6,e7⟩:=adS hv;have hG:Au O (O.hint h) self ops π rs bV bM bF vF:=by
    refine⟨hR,hlen,fun i r o hr ho=>?_,aw3,fun i o ho e he Ch=>?_⟩
    .rcases ax i r o hr ho with g | ⟨g1,g2⟩
     .exact g
     .have:=hR.step i r hr
      simp[fD,g1,rL,g2,bad,aZ,fj,az] at this
    .have:=aap aw2 (j:=i) (o:=o) (by simpa using ho) e he Ch
     omega
   refine wpIn_region_any hO.mixed ?_;have Mq:=ams hh;have iQ:=CF hh Mq (S':=S) (fun _ h=>h) (fun _ h=>.inl h) hh.slt
   have I8:cr m S w s.hp m S {w with drawn:=w.drawn+1} s.hp (bF 0):=Bp hh Mq (fun _ h=>h) (fun _ h=>.inl h);obtain⟨c,c1,c2,c3,c4⟩:=VF rs rs.length 0 (by omega);have hg:∀k',k'<=c->jh (bM 0) (bF 0) (bM (0+k')) (bF (0+k')):=fun k' zE=>
    Pk hR (by rw[e2,e3];exact hh.aH) k' (by omega) (fun j r g1 g2 hr=>KW hr (c3 j g1 (by omega)))
   have gM:=hg c (yz _);rw[yf] at gM;obtain⟨S1,g1,g2,g3,g4⟩:=PB (by rw[e2,e3];exact iQ:aT O m S {w with drawn:=w.drawn+1} (bM 0) (bF 0)) gM
   have At:∀i,(uA ops.size ycO).getD i ycO=ycN->False:=fun i hi=>by
    simp only[wh] at hi;by_cases aH:i<ops.size
    .simp [aH] at hi
    .rw [yaB (by simpa using aH)] at hi;simp at hi
   refine asJ (m0:=m) (S0:=S) (w0:=w) (n0:=a.tmps.size) (d0:=a.defers) hC (hO.hint h) hG hπ hn (fun a' m' S' w' h1 h2 h3 h4 h5 h6=>?_) ops.size _ 0 c m S1 _ a (by simp) ?_ (fun j o _ hj=>(At j hj).elim) ?_
   .rw [e5,e6] at h1;rw[e3,e6] at h2;rw[e4] at h3;rw[e2,e3,e5] at h4;exact post h1 h2 h3 h4 h5 h6 e7
   .unfold left;rw[List.countP_eq_length.2]
    .simp
    .intro i hi;simp only[vR]
     cases hq:(uA ops.size ycO).getD i ycO with
     | false=>rfl
     | true=>exact (At i hq).elim
   .refine ⟨tk _,c2,fun i hi=>by omega,c3,c4.imp (fun h=>h) (fun h=>⟨h,fun hd=>At _ hd⟩),fun i r _ _ _ hd=>At _ hd,g1,fun id p hp=>.inl (by rw[e3];exact hh.lt id p hp),fun t=>⟨0,tk _,fun i r _ _=>⟨fun hd=>(At _ hd).elim,fun h=>by omega⟩,?_⟩,?_,gM.sI,rfl,rfl,.inl rfl,fun j hj=>?_⟩
    .rw [e1];exact mI (fun _ _ h=>h) (fun b hb=>g2 b hb) (fun b hb=>Mq.same b (hh.slt b hb)) _ _ (ht t)
    .rw [e2];have g5:=g4 (bF 0);rw[e2] at g5;exact I8.trans g5
    .have:=(hg j hj).lt
     rw[yf] at this;exact this
end
end
end
section
open Go
section
variable {ps:List Nat}{b l:Nat}{P:xy}
section
variable {O:bz}{m:Mp}{S:Nat->Prop}{w:ym}{hp:Hp}{ct:Nat}
def aba(hh:aT O m S w hp ct){g:Nat}{w':ym}(hw:One w w' g)(hg:¬S g)(ho:¬eH m hp g)(bf:O.w0.heap.size<=g):aT O m S w' hp ct:=by
 have aU:gj S w w':=fun b hb=>hw.other b (fun e=>hg (e▸hb))
 refine⟨fun id o p h1 h2=>?_,hh.lt,hh.inj,fun b hb=>by rw[hw.size];exact hh.slt b hb,fun id p h=>by rw[hw.size];exact hh.blt id p h,hh.low,fun b hb=>?_,by rw[hw.size];exact hh.gJ,hh.aH⟩
 .exact Ab (fun _ _ h=>h) (fun _ h=>h) aU (fun q hq=>hw.other _ (fun e=>ho ⟨id,o,q,h1,hq,e⟩)) (fun _ _ h=>h) (hh.obj id o p h1 h2)
 .rw [hw.other b (by lia)];exact hh.mX b hb
def abb{o:yal}(h:w.heap[b]? =GW o)(hc:∀c t f,o≠.cells c t f):(getObj b).run P w=.ok o w:=by
 simp only[getObj,Sem.run,h]
def O6{o x:yal}(h:w.heap[b]? =GW o)(hc:∀c t f,o≠.cells c t f):(setObj b x).run P w=.ok () {w with heap:=w.heap.setIfInBounds b x}:=by
 simp only[setObj,Sem.run,h]
def Kt{r:uT}(h:w.heap[b]? =GW (.loop r)):(Instr.getLoop b).run P w=.ok r w:=by
 simp only[Instr.getLoop,Sem.run_bind,abb (P:=P) h (fun _ _ _=>by simp),Result.andThen_ok,Sem.run_pure]
def KX(hh:aT O m S w hp ct){tm:Env}{cM body:VC}{st:Nat}{pe:BP}{p:Pl}(hg:ax hp l=GW (.lp tm ps cM body st pe))(hm:m l=GW p):
  ∃(r:uT) (h:Nat),w.heap[p.b]? =GW (.loop r)/\¬S p.b/\r.state=Dm st/\st<=2/\r.pending=Bx pe/\b7 O m S w tm r.tmps/\r.params.toList=ps/\DK O.P (O.hint h) cM r.assign/\DK O.P (O.hint h) body r.body/\
   (O.hint h).n<=r.tmps.size/\BD (O.hint h).n ps=ycN:=by
 have⟨q,r,h,g1,g2,g3⟩:=hh.obj l _ p hg hm
 grind
def abV(hh:aT O m S w hp ct){tm:Env}{cM body:VC}{st:Nat}{pe:BP}{p:Pl}(hg:ax hp l=GW (.lp tm ps cM body st pe))(hm:m l=GW p){r:uT}(hr:w.heap[p.b]? =GW (.loop r)){st':Nat}{pe':BP}(h2:st'<=2):
  aT O m S {w with heap:=w.heap.setIfInBounds p.b (.loop {r with state:=Dm st',pending:=Bx pe'})} (aY hp l (.lp tm ps cM body st' pe')) ct/\
  cr m S w hp m S {w with heap:=w.heap.setIfInBounds p.b (.loop {r with state:=Dm st',pending:=Bx pe'})} (aY hp l (.lp tm ps cM body st' pe')) ct:=by
 have⟨r',h,g1,g2,g3,g4,g5,g6,g7,g8,g9,g10,g11⟩:=KX hh hg hm;rw[hr] at g1;injection g1 with g1
 injection g1 with g1
 subst g1;have fO:=GZ w p.b (.loop {r with state:=Dm st',pending:=Bx pe'})
 refine KM hh hg hm g2 fO ⟨p,{r with state:=Dm st',pending:=Bx pe'},h,hm,O2 hr,g2,rfl,h2,rfl,?_,g7,g8,g9,g10,g11⟩ (fun _ _=>⟨_,O2 hr⟩);exact CE (fun _ _ h=>h) (fun _ h=>h) (fun b hb=>fO.other b (fun e=>g2 (e▸hb))) g6
def abW{n:Nat}:∀{ps:List Nat} {vs:List AV} {us:List yj} {tm cB:Env} {tmps:Array yj},Aj tm ps vs=GW cB->aB O.ah m S w vs us->b7 O m S w tm tmps->n<=tmps.size->BD n ps=ycN->
  ps.length=us.length/\b7 O m S w cB ((ps.zip us).foldl (fun t (x:Nat×yj)=>t.setIfInBounds x.1 x.2) tmps)/\((ps.zip us).foldl (fun t (x:Nat×yj)=>t.setIfInBounds x.1 x.2) tmps).size=tmps.size
 | [],[],us,tm,cB,tmps,h,hr,ht,hn,ha=>by
  simp only[Aj,yd] at h;simp only[aB] at hr
  simp_all
 | [],_::_,us,tm,cB,tmps,h,hr,ht,hn,ha=>by simp[Aj] at h
 | _::_,[],us,tm,cB,tmps,h,hr,ht,hn,ha=>by simp[Aj] at h
 | p::ps,v::vs,us,tm,cB,tmps,h,hr,ht,hn,ha=>by
  simp only[Aj] at h;obtain⟨u,t,rfl,h1,h2⟩:=hr;simp only[BD,ye] at ha;have hp:=rm.1 ha.1;have ht1:b7 O m S w ((p,v)::tm) (tmps.setIfInBounds p u):=UL (a:=⟨tmps,[]⟩) (d:=GW p) ht (fun i hi=>by injection hi with hi;show i<tmps.size;lia) h1
  have⟨g1,g2,g3⟩:=abW (n:=n) h h2 ht1 (by simpa using hn) ha.2
  simp_all
def aon(ps:Array Tmp)(args:Array yj)(tmps:Array yj):(ps.zip args).foldl (fun tmps (x:Tmp×yj)=>tmps.setIfInBounds x.1 x.2) tmps=(ps.toList.zip args.toList).foldl (fun t (x:Nat×yj)=>t.setIfInBounds x.1 x.2) tmps:=by
 rw[<-Array.foldl_toList,Array.toList_zip]
def aks{r:uT}(h:w.heap[b]? =GW (.loop r))(jump:Option vj):
  (Instr.endRound b jump).run P w=.ok (.bool jump.isNone) {w with heap:=w.heap.setIfInBounds b (.loop {r with state:=if jump.isNone then .ready else .done,pending:=jump})}:=by
 simp only[Instr.endRound,Sem.run_bind,Kt h,Result.andThen_ok,O6 (P:=P) h (fun _ _ _=>by simp),Sem.run_pure]
def akg{r:uT}(h:w.heap[b]? =GW (.loop r))(hs:r.state=.ready):
  (Instr.beginRound b).run P w=.ok () {w with heap:=w.heap.setIfInBounds b (.loop {r with state:=.busy})}:=by
 simp only[Instr.beginRound,Sem.run_bind,Kt h,Result.andThen_ok,O6 (P:=P) h (fun _ _ _=>by simp),hs,Sem.run_pure]
def aoo{self:cw}(hS:∀v s ex s',self v s=GW (ex,s')->∀c h l k,(comp O.P (O.hint h) c l k).1=v->Dg O h c s ex s'){xs:List AV}{v:AV}{au:Hp}{aX:Nat}(hv:pJ self hp ct l xs=GW (v,au,aX)):aep O hp ct l xs v au aX:=by
 intro m S w args p hh hm eQ;unfold pJ at hv
 split at hv
 case h_2=>cases hv
 rename_i tm ps cM body pe hg;have⟨r,h,g1,g2,g3,g4,g5,g6,g7,⟨ca,ka,g8⟩,⟨cb,kb,g9⟩,g10,g11⟩:=KX hh hg hm
 cases hb:Aj tm ps xs with
 | none=>simp[hb] at hv
 | some cB=>
  simp only[hb] at hv;have⟨b1,b2,b3⟩:=abW hb eQ g6 g10 g11;rw[<-g7] at b1 b2 b3;have eS:args.size=r.params.size:=by
   grind
  let tmps:Array yj:=(r.params.zip args).foldl (fun tmps (x:Tmp×yj)=>tmps.setIfInBounds x.1 x.2) r.tmps
  have agG:tmps=(r.params.toList.zip args.toList).foldl (fun t (x:Nat×yj)=>t.setIfInBounds x.1 x.2) r.tmps:=aon _ _ _;refine⟨r.fn,tmps,r.assign,r.body,?_,?_⟩
  .simp only [Instr.yield,Sem.run_bind,Kt g1,Result.andThen_ok,eS,ne_eq,ycK,xE,Sem.run_pure];rfl
  refine roundIn_of_wpIn (F:=Fence.wide) trivial ?_
  cases h1:self cM ⟨cB,hp,ct,ct⟩ with
  | none=>simp[h1] at hv
  | some q=>
   have⟨ex1,s1⟩:=q
   cases ex1 with
   | ret=>simp[h1] at hv
   | exit id=>simp[h1] at hv
   | normal=>
    simp only[h1] at hv;have dW:=hS _ _ _ _ h1 r.assign h ca ka g8;have da:∀w',cr m S w hp m S w' hp ct->By (GW p.b) w':=fun w' hf=>Pn hf (fun l hl=>⟨r,by injection hl with hl;subst hl;exact g1⟩)
    refine wpIn_mono (dW (GW p.b) w.heap.size m S w ⟨tmps,[]⟩ (da w cr.refl) (by rw[agG];exact b2) hh (yz _) (by show _<=tmps.size;rw[agG,b3];exact g10) hh.gJ (yz _) ⟨[],rfl,by simp,by simp⟩) ?_
    rintro e a1 w1 ⟨rfl,m1,S1,k1,k2,k3,k4,k5,k6,k7⟩;simp only[zt,Exit.then];have DW:m1 l=GW p:=k5.old l p (hh.lt l p hm) hm
    split at hv
    case h_2=>cases hv
    rename_i kZ Gi DJ Ft Ca gM;have⟨r1,iQ,f1,f2,f3,f4,f5,f6,f7,f8,f9,f10,f11⟩:=KX k2 gM DW;have YM:=akg (P:=O.P) f1 f3;have⟨q1,q2⟩:=abV k2 gM DW f1 (st':=1) (pe':=Ca) (by lia)
    have dQ:({r1 with state:=Dm 1,pending:=Bx Ca}:uT)={r1 with state:=.busy}:=by rw[<-f5];rfl
    rw[dQ] at q1 q2;refine⟨_,YM,?_⟩
    cases h2:self body ⟨s1.tm,aY s1.hp l (.lp kZ Gi DJ Ft 1 Ca),s1.ct,s1.ct⟩ with
    | none=>simp[h2] at hv
    | some q=>
     have⟨ex,s2⟩:=q;simp only[h2] at hv;have A0:=hS _ _ _ _ h2 r.body h cb kb g9
     have ayO:By (GW p.b) {w1 with heap:=w1.heap.setIfInBounds p.b (.loop {r1 with state:=.busy})}:=fun l hl=>by
      grind
     have YN:b7 O m1 S1 {w1 with heap:=w1.heap.setIfInBounds p.b (.loop {r1 with state:=.busy})} s1.tm a1.tmps:=
      CE (fun _ _ h=>h) (fun _ h=>h) (fun b hb=>q2.still b hb) k1
     have ayP:(O.hint h).n<=a1.tmps.size:=by
      grind
     refine wpIn_mono (A0 (GW p.b) w.heap.size m1 S1 _ a1 ayO YN q1 (yz _) ayP hh.gJ (xn k5.size q2.size) (CG k2 q2 k7)) ?_;rintro e a2 w2 ⟨rfl,m2,S2,j1,j2,j3,j4,j5,j6,j7⟩;have oV:m2 l=GW p:=j5.old l p (k2.lt l p DW) DW
     split at hv
     case h_2=>cases hv
     rename_i sG bm NO Mm pe2 Jf;have⟨r2,N6,d1,d2,d3,d4,d5,d6,d7,d8,d9,d10,d11⟩:=KX j2 Jf oV;have ayQ:cr m S w hp m2 S2 w2 s2.hp ct:=(k5.trans (q2.AB k4)).trans (j5.AB k4);have agH:ct<=s2.ct:=xn k4 j4;have fin:∀(jump:Option vj) (st':Nat) (pe':BP),Bx pe'=jump->Dm st'=(if jump.isNone then .ready else .done)->st'<=2->
       ∃v' w',(Instr.endRound p.b jump).run O.P w2=.ok v' w'/\Bo O m S w hp ct (.bool jump.isNone) (aY s2.hp l (.lp sG bm NO Mm st' pe')) s2.ct (.returned v') w':=by
      intro jump st' pe' e1 e2 e3;have⟨z1,z2⟩:=abV j2 Jf oV d1 (st':=st') (pe':=pe') e3;rw[e1,e2] at z1 z2;exact⟨_,_,aks d1 jump,_,m2,S2,rfl,z1,agH,by simp[aj],ayQ.trans (z2.AB agH)⟩
     cases ex with
     | normal=>
      simp only[yd,yo] at hv;obtain⟨rfl,rfl,rfl⟩:=hv;simp only[zt,roundPost];exact fin GX 0 .none rfl rfl (by lia)
     | ret=>
      simp only[Vx,yd,yo] at hv;obtain⟨rfl,rfl,rfl⟩:=hv;simp only[zt,roundPost];exact fin (GW .ret) 2 .ret rfl rfl (by lia)
     | exit id=>
      simp only[Vx,yd,yo] at hv;obtain⟨rfl,rfl,rfl⟩:=hv;simp only[zt,roundPost];exact fin (GW (.exit id)) 2 (.exit id) rfl rfl (by lia)
end
end
end
section
open Go
section
variable {O:bz}{self:cw}
def PG{P:xy}{f:tQ}{fn:yaD}{args:Array yj}{w:ym}(hf:P.funcs[f]? =GW fn)(hb:fn.body.isSome=ycN)(hn:fn.name≠ "runtime.NumGoroutine"):(callFunc f args).run P w=.ok (.enter f args) w:=by
 have h1:fn.body≠GX:=fun e=>by rw[e] at hb;cases hb
 simp[callFunc,program,Sem.run,hf,h1,hn]
def TO{P:xy}{H:Hint}{fn:yaD}{F:aA}(h:Hl P H fn=GW F):∃c,fn.body=GW c/\F.body=(comp P H c 0 0).1/\rk P fn.results.toList=GW F.eG/\H.n<=fn.ntmps:=by
 unfold Hl at h
 split at h
 .rename_i c rs h1 h2
  cases hb:yJ H.n fn.ntmps with
  | false=>rw[hb] at h;cases h
  | true=>
   rw[hb] at h;simp only[yC,yd] at h;subst h
   simp_all
 .cases h
def aop{m:Mp}{S:Nat->Prop}{w:ym}{hp:Hp}{ct:Nat}{tm:Env}{a:Act}{ro:Option Nat}(fn:tQ)(ps:Array Tmp)(assign body:vj){cM b':VC}{h:Nat}(hh:aT O m S w hp ct)(ht:b7 O m S w tm a.tmps)(da:By ro w)(YO:DK O.P (O.hint h) cM assign)(YP:DK O.P (O.hint h) b' body)(hn:(O.hint h).n<=a.tmps.size)(jc:BD (O.hint h).n ps.toList=ycN){lo:Nat}(fQ:lo<=w.heap.size)(cI:Marks lo S w a.defers):
  ∃l mark w1,(Instr.enterLoop fn a.tmps ps assign body ro).run O.P w=.ok (l,mark) w1/\aT O (fU m ct ⟨l,0,0,0⟩) S w1 ((ct,.lp tm ps.toList cM b' 0 .none)::hp) (ct+1)/\
   cr m S w hp (fU m ct ⟨l,0,0,0⟩) S w1 ((ct,.lp tm ps.toList cM b' 0 .none)::hp) ct/\m ct=GX/\Marks lo S w1 (mark++a.defers)/\w.heap.size<=l:=by
 have bO:m ct=GX:=by
  cases hq:m ct with
  | none=>rfl
  | some p=>have:=hh.lt ct p hq;omega
 have lay:∀(w':ym) (d:Nat),Calm w w'->Marks lo S w' a.defers->
   aT O (fU m ct ⟨w'.heap.size,0,0,0⟩) S (w'.alloc (.loop {state:=.ready,pending:=GX,fn:=fn,tmps:=a.tmps,params:=ps,assign:=assign,body:=body,defers:=d})) ((ct,.lp tm ps.toList cM b' 0 .none)::hp) (ct+1)/\
   cr m S w hp (fU m ct ⟨w'.heap.size,0,0,0⟩) S (w'.alloc (.loop {state:=.ready,pending:=GX,fn:=fn,tmps:=a.tmps,params:=ps,assign:=assign,body:=body,defers:=d})) ((ct,.lp tm ps.toList cM b' 0 .none)::hp) ct:=by
  intro w' d hw agI;have iQ:aT O m S w' hp ct:=CF hh hw (fun _ h=>h) (fun _ h=>.inl h) (fun b hb=>yR (hh.slt b hb) hw.size);have I8:cr m S w hp m S w' hp ct:=Bp hh hw (fun _ h=>h) (fun _ h=>.inl h);have hg:jh hp ct ((ct,.lp tm ps.toList cM b' 0 .none)::hp) (ct+1):=by
   refine⟨fun id o ho=>⟨o,?_,jo.refl o⟩,by omega,fun id o ho=>?_,fun id o ho hi=>?_⟩
   .rw [fS,yI (by have:=hh.aH id o ho;omega)];exact ho
   .rw [fS] at ho;by_cases hc:ct=id
    .omega
    .simp only [hc,xE] at ho;have:=hh.aH id o ho;omega
   .rw [fS,yI (by omega)] at ho;exact⟨o,ho⟩
  have jd:∀i q,ax ((ct,Obj.lp tm ps.toList cM b' 0 .none)::hp) i=GW q->i≠ct->ax hp i=GW q:=fun i q h hi=>by
   rw[fS,yI (fun e=>hi e.symm)] at h;exact h
  have N6:aT O m S w' ((ct,.lp tm ps.toList cM b' 0 .none)::hp) (ct+1):=by
   have fP:∀id p,m id=GW p->id≠ct:=fun id p hm e=>by have:=hh.lt id p hm;omega
   exact⟨fun id o p ho hm=>iQ.obj id o p (jd id o ho (fP id p hm)) hm,fun id p hm=>by have:=hh.lt id p hm;omega,
    fun i j oi oj pi pj hi hj bO ia e=>iQ.inj i j oi oj pi pj (jd i oi hi (fP i pi bO)) (jd j oj hj (fP j pj ia)) bO ia e,iQ.slt,iQ.blt,iQ.low,iQ.mX,iQ.gJ,hg.lt⟩
  have qB:fJ O (fU m ct ⟨w'.heap.size,0,0,0⟩) S (w'.alloc (.loop {state:=.ready,pending:=GX,fn:=fn,tmps:=a.tmps,params:=ps,assign:=assign,body:=body,defers:=d})) ct (.lp tm ps.toList cM b' 0 .none):=by
   refine⟨⟨w'.heap.size,0,0,0⟩,_,h,dI,heap_alloc_new w' _,?_,rfl,by omega,rfl,?_,rfl,YO,YP,hn,jc⟩
   .intro hS
    have:=iQ.slt _ hS
    simp at this
   .exact CE (jx bO) (fun _ h=>h) (fun b hb=>(Kv iQ _ b hb).trans (hw.same b (hh.slt b hb))) ht
  obtain⟨S',k1,k2,k3⟩:=UF (i:=ct) (p:=⟨w'.heap.size,0,0,0⟩) N6 bO (by omega) rfl (fun o ho=>by
   rw[fS] at ho;simp only[xS,yd] at ho;subst ho
   exact .inl ⟨qB,by simp[jf]⟩)
  have k1':aT O (fU m ct ⟨w'.heap.size,0,0,0⟩) S (w'.alloc (.loop {state:=.ready,pending:=GX,fn:=fn,tmps:=a.tmps,params:=ps,assign:=assign,body:=body,defers:=d})) ((ct,.lp tm ps.toList cM b' 0 .none)::hp) (ct+1):=by
   have NU:∀id q,m id=GW q->q.b≠w'.heap.size:=fun id q hq=>by have:=iQ.blt id q hq;lia
   refine⟨?_,k1.lt,k1.inj,fun b hb=>k1.slt b (k2 b hb),k1.blt,k1.low,k1.mX,k1.gJ,k1.aH⟩;intro id o q ho hm;by_cases hc:id=ct
   .subst hc;rw[fS] at ho
    grind
   .rw [eK hc] at hm;exact Ab (jx bO) (fun _ h=>h) (Kv iQ _) (fun q' bB=>alloc_old (iQ.blt id q' bB)) (fun _ _ h=>h) (iQ.obj id o q (jd id o ho hc) hm)
  refine⟨k1',I8.trans ⟨rfl,rfl,rfl,by simp,fun b hb _=>alloc_old hb,fun _ h=>h,fun b hb=>Kv iQ _ b hb,fun b hb=>.inl hb,?_,fun i q _ hq=>jx bO i q hq,fun b r hb=>⟨r,(alloc_old (xD.1 hb).1).trans hb⟩⟩⟩;rintro b ⟨i,o,q,g1,g2,g3⟩;by_cases hc:i=ct
  .subst hc;rw[dI] at g2
   grind
  .rw [eK hc] at g2;exact .inl ⟨i,o,q,jd i o g1 hc,g2,g3⟩
 cases ro with
 | none=>
  have Mq:Calm w (w.alloc (.deferred (GW []))):=⟨rfl,rfl,rfl,by simp,fun b hb=>alloc_old hb⟩;have⟨rs,r1,r2,r3⟩:=cI;have ayR:Marks lo S (w.alloc (.deferred (GW []))) a.defers:=⟨rs,r1,r2,fun r hr=>⟨(alloc_old (xD.1 (r3 r hr).1).1).trans (r3 r hr).1,(r3 r hr).2⟩⟩;have⟨k1,k2⟩:=lay (w.alloc (.deferred (GW []))) w.heap.size Mq ayR
  refine⟨(w.alloc (.deferred (GW []))).heap.size,[{target:=.collected w.heap.size,args:=#[]}],_,?_,k1,k2,bO,?_,by simp⟩
  .simp [Instr.enterLoop,newObj,Sem.run]
  .have hold:∀(b:Nat) (x:yal),(w.alloc (.deferred (GW []))).heap[b]? =GW x->((w.alloc (.deferred (GW []))).alloc (.loop {state:=.ready,pending:=GX,fn:=fn,tmps:=a.tmps,params:=ps,assign:=assign,body:=body,defers:=w.heap.size})).heap[b]? =GW x:=fun b x hb=>
    (alloc_old (xD.1 hb).1).trans hb
   refine⟨w.heap.size::rs,by rw[r1];rfl,?_,?_⟩
   .grind
   .intro r hr;rcases xx.1 hr with rfl | hr
    .exact ⟨hold _ _ (heap_alloc_new w _),fun hs=>by have:=hh.slt _ hs;lia,fQ⟩
    .exact ⟨hold _ _ ((alloc_old (xD.1 (r3 r hr).1).1).trans (r3 r hr).1),(r3 r hr).2⟩
 | some l0=>
  have⟨r0,qI⟩:=da l0 rfl;have⟨k1,k2⟩:=lay w r0.defers Calm.refl cI;refine⟨w.heap.size,[],_,?_,k1,k2,bO,?_,yz _⟩
  .simp [Instr.enterLoop,Kt qI,newObj,Sem.run]
  .exact CG hh k2 cI
def aw4(hO:iH O)(hC:pM O self){h:Nat}{f:xC}{ps:Array Tmp}{assign body:vj}{cM b':VC}(YO:DK O.P (O.hint h) cM assign)(YP:DK O.P (O.hint h) b' body)(jc:BD (O.hint h).n ps.toList=ycN){s:St}{ex:Ex}{s':St}(hv:bI O.prog O.aI self (.rf (aK (O.hint h) f) ps.toList cM b') s=GW (ex,s')):Dg O h (.rangeFunc f ps assign body) s ex s':=by
 intro ro lo m S w a da ht hh hb hn bf fQ cI;simp only[bI] at hv
 split at hv
 case h_2=>cases hv
 rename_i n first cap hx
 split at hv
 case h_1=>cases hv
 rename_i hL
 cases he:jz O.prog O.aI self ((s.ct,.lp s.tm ps.toList cM b' 0 .none)::s.hp) (s.ct+1) n (first++(.fn (.y s.ct) [] []::cap)) with
 | none=>simp[he] at hv
 | some q=>
  have⟨v,bk,qD⟩:=q;simp only[he] at hv
  split at hv
  case h_2=>cases hv
  rename_i sG bm NO Mm st pe Jf
  cases aU:yp st 1 with
  | true=>rw[aU] at hv;cases hv
  | false=>
   rw[aU] at hv;simp only[yX] at hv;refine wpIn_rangeFunc (fun fn _=>?_);have⟨l,mark,w1,e1,e2,e3,e4,e5,e6⟩:=aop (ro:=ro) fn ps assign body hh ht da YO YP hn jc fQ cI;have rf:=b8 (hO.hint h) ht f;rw[hx] at rf;simp only[aj] at rf;have⟨fi,ca,hf,r2,r3⟩:=rf;have hle:=jx e4 (p:=⟨l,0,0,0⟩);have Im:gj S w w1:=fun b hb=>e3.still b hb
   have eQ:aB O.ah (fU m s.ct ⟨l,0,0,0⟩) S w1 (first++(.fn (.y s.ct) [] []::cap)) (fi++#[Value.func (.yield l) #[] #[]]++ca).toList:=by
    have:=mF (iE hle (fun _ h=>h) Im _ _ r2) (mF (a:=[.fn (.y s.ct) [] []]) (x:=[Value.func (.yield l) #[] #[]]) (by
     simp only[aB]
     exact⟨_,[],rfl,by simp only[aj];exact⟨_,dI,rfl⟩,rfl⟩) (iE hle (fun _ h=>h) Im _ _ r3))
    grind
   have Wc:=hC.heap _ _ _ _ _ _ _ he _ S w1 _ e2 eQ;have hP:∃F,O.prog n=GW F:=by
    unfold jz at he;rw[hL] at he
    cases hq:O.prog n with
    | none=>simp[hq] at he
    | some F=>exact⟨F,rfl⟩
   have⟨F,hF⟩:=hP;have⟨fn',q1,q2,q3⟩:=hO.prog n F hF;have⟨cb,q4,_⟩:=TO q2;have gA:(callFunc (O.ah n) (fi++#[Value.func (.yield l) #[] #[]]++ca)).run O.P w1=.ok (.enter (O.ah n) (fi++#[Value.func (.yield l) #[] #[]]++ca)) w1:=PG q1 (by rw[q4];rfl) q3
   refine⟨l,mark,w1,{target:=.fn (.func (O.ah n)) ca,args:=fi++#[Value.func (.yield l) #[] #[]]},w1,O.ah n,fi++#[Value.func (.yield l) #[] #[]]++ca,w1,e1,?_,fun _ _=>trivial,?_,fun hd=>by simp[WF,Fence.wide] at hd,?_⟩
   .show Sem.run O.P (Deferred.ofValue (a.eval f) _) w1=_
    rw[hf];simp[Deferred.ofValue,Act.eval]
   .simp only [invoke];exact gA
   .rcases Wc with ⟨_,Wc⟩ | ⟨u,w',h1,_⟩
    case inr=>rw[gA] at h1;cases h1
    have asL:CallsIn (WF ro) 0 O.P (O.ah n) (fi++#[Value.func (.yield l) #[] #[]]++ca) w1 (Bo O (fU m s.ct ⟨l,0,0,0⟩) S w1 ((s.ct,.lp s.tm ps.toList cM b' 0 .none)::s.hp) (s.ct+1) v bk qD):=Wc;refine CallsIn.mono asL ?_;rintro e w3 ⟨u,m',S',rfl,k1,k2,k3,k4⟩;have hJ:m' s.ct=GW ⟨l,0,0,0⟩:=k4.old s.ct _ (yaf _) dI;have⟨r,N6,d1,d2,d3,d4,d5,d6,_⟩:=KX k1 Jf hJ;have od:(r.state==LoopState.busy)=ycO:=by
     rw[d3];rcases st with _ | _ | st
     .rfl
     .simp_all
     .have:st=0:=by lia
      subst this;rfl
    have fO:=GZ w3 l (.loop {r with state:=.exhausted});have hdl:=acC k1 s.ct;have qC:¬eH m' (dV bk s.ct) l:=aaC k1 Jf hJ
    have z1:aT O m' S' {w3 with heap:=w3.heap.setIfInBounds l (.loop {r with state:=.exhausted})} (VE.dV bk s.ct) qD:=aba hdl fO d2 qC (by have:=hh.gJ;lia)
    have z2:cr m' S' w3 bk m' S' {w3 with heap:=w3.heap.setIfInBounds l (.loop {r with state:=.exhausted})} (VE.dV bk s.ct) s.base:=by
     refine⟨rfl,rfl,rfl,by rw[fO.size];exact yz _,fun b _ hb=>fO.other b (fun e=>hb (e▸Lc Jf hJ)),fun _ h=>h,fun b hb=>fO.other b (fun e=>d2 (e▸hb)),fun b hb=>.inl hb,fun b hb=>.inl (adP hb),fun _ _ _ h=>h,fun b x hb=>?_⟩
     grind
    have W1:cr m S w s.hp m' S' {w3 with heap:=w3.heap.setIfInBounds l (.loop {r with state:=.exhausted})} (VE.dV bk s.ct) s.base:=
     ((e3.AB hb).trans (k4.AB (by lia))).trans z2
    have Ri:(Instr.endLoop l).run O.P w3=.ok (Bx pe) {w3 with heap:=w3.heap.setIfInBounds l (.loop {r with state:=.exhausted})}:=by
     simp only[Instr.endLoop,Sem.run_bind,Kt d1,Result.andThen_ok,od,yL,xE,Sem.run_pure,O6 (P:=O.P) d1 (fun _ _ _=>by simp),d5]
    have agI:Marks lo S' {w3 with heap:=w3.heap.setIfInBounds l (.loop {r with state:=.exhausted})} (mark++a.defers):=CG k1 z2 (CG e2 k4 e5)
    have Ci:b7 O m' S' {w3 with heap:=w3.heap.setIfInBounds l (.loop {r with state:=.exhausted})} s.tm a.tmps:=by
     refine CE (fun id p hp=>?_) W1.sub (fun b hb=>W1.still b hb) ht;have h1:=hh.lt id p hp;exact k4.old id p (by lia) (hle id p hp)
    have post:∀YQ,s'={s with hp:=VE.dV bk s.ct,ct:=qD}->ex=YQ->fe O m S w s ex s' a.tmps.size lo (zt YQ) {a with defers:=mark++a.defers} {w3 with heap:=w3.heap.setIfInBounds l (.loop {r with state:=.exhausted})}:=by
     rintro YQ rfl rfl;exact⟨rfl,m',S',Ci,z1,rfl,by show s.base<=qD;lia,W1,rfl,agI⟩
    refine⟨_,_,Ri,?_⟩
    cases pe with
    | none=>
     simp only[yd,yo] at hv;exact post .normal hv.2.symm hv.1.symm
    | ret=>
     simp only[yd,yo] at hv;exact wpIn_ret (post .ret hv.2.symm hv.1.symm)
    | exit id=>
     simp only[yd,yo] at hv;exact wpIn_exit (post (.exit id) hv.2.symm hv.1.symm)
end
end
def Le(f g:cw):Prop:=∀c s r,f c s=GW r->g c s=GW r
section
variable {P:aG}{L:Lib}{f g:cw}
def TB(h:Le f g)(n:Nat)(aw:List AV)(r:AV)(hr:bS P L f n aw=GW r):bS P L g n aw=GW r:=by
 unfold bS at hr ⊢
 cases hL:L.pure n with
 | some sp=>simpa only[hL] using hr
 | none=>
  simp only[hL] at hr ⊢
  cases hP:P n with
  | none=>simp[hP] at hr
  | some F=>
   simp only[hP] at hr ⊢
   cases hf:f F.body ⟨gi 0 aw,[],0,0⟩ with
   | none=>simp[hf] at hr
   | some q=>rw[h _ _ _ hf];simpa only[hf] using hr
def TP(h:Le f g)(hp:Hp)(ct:Nat)(n:Nat)(aw:List AV)(r:AV×Hp×Nat)(hr:jz P L f hp ct n aw=GW r):jz P L g hp ct n aw=GW r:=by
 unfold jz at hr ⊢
 cases hL:L.heap n with
 | some sp=>simpa only[hL] using hr
 | none=>
  simp only[hL] at hr ⊢
  cases hP:P n with
  | none=>simp[hP] at hr
  | some F=>
   simp only[hP] at hr ⊢
   cases hf:f F.body ⟨gi 0 aw,hp,ct,ct⟩ with
   | none=>simp[hf] at hr
   | some q=>rw[h _ _ _ hf];simpa only[hf] using hr
def aav(h:Le f g)(hp:Hp)(ct:Nat)(l:Nat)(xs:List AV)(r:AV×Hp×Nat)(hr:pJ f hp ct l xs=GW r):pJ g hp ct l xs=GW r:=by
 unfold pJ at hr ⊢
 cases hl:ax hp l with
 | none=>simp[hl] at hr
 | some o=>
  simp only[hl] at hr ⊢
  split at hr
  .rename_i tm ps cM body pe qJ
   cases hb:Aj tm ps xs with
   | none=>simp[hb] at hr
   | some cB=>
    simp only[hb] at hr ⊢
    cases h1:f cM ⟨cB,hp,ct,ct⟩ with
    | none=>simp[h1] at hr
    | some q=>
     rw[h _ _ _ h1];simp only[h1] at hr ⊢
     split at hr
     .rename_i s1 ayS
      split at hr
      .rename_i kZ Gi DJ Ft Ca ayT
       cases h2:f body ⟨s1.tm,aY s1.hp l (.lp kZ Gi DJ Ft 1 Ca),s1.ct,s1.ct⟩ with
       | none=>simp[h2] at hr
       | some q2=>rw[h _ _ _ h2];simpa only[h2] using hr
      .simp at hr
     .simp at hr
  .simp at hr
def aaK(h:Le f g)(hp:Hp)(ct:Nat)(m:Md)(fv:AV)(xs:List AV)(r:AV×Hp×Nat)(hr:fj P L f hp ct m fv xs=GW r):fj P L g hp ct m fv xs=GW r:=by
 unfold fj at hr ⊢
 split at hr
 .rename_i n first cap
  cases m with
  | pure=>
   cases hz:cg deep hp (first++(xs++cap)) with
   | none=>simp[hz] at hr
   | some q=>
    simp only[hz] at hr ⊢
    cases hc:bS P L f n q.1 with
    | none=>simp[hc] at hr
    | some u=>rw[TB h n q.1 u hc];simpa only[hc] using hr
  | own=>
   cases hz:cg deep hp (first++(xs++cap)) with
   | none=>simp[hz] at hr
   | some q=>
    simp only[hz] at hr ⊢
    cases hc:bS P L f n q.1 with
    | none=>simp[hc] at hr
    | some u=>rw[TB h n q.1 u hc];simpa only[hc] using hr
  | heap=>exact TP h _ _ _ _ _ hr
  | dyn=>
   cases hz:aE (first++(xs++cap)) with
   | true=>
    simp only[hz,yC] at hr ⊢
    cases hc:bS P L f n (first++(xs++cap)) with
    | none=>simp[hc] at hr
    | some u=>rw[TB h n _ u hc];simpa only[hc] using hr
   | false=>
    simp only[hz,yX] at hr ⊢;exact TP h _ _ _ _ _ hr
 .split at hr
  .exact aav h _ _ _ _ _ hr
  .exact aav h _ _ _ _ _ hr
  .simp at hr
 .simp at hr
def abX(h:Le f g)(tm:Env)(hp:Hp)(ct:Nat)(o:Op)(r:AV×Hp×Nat)(hr:aZ P L f tm hp ct o=GW r):aZ P L g tm hp ct o=GW r:=by
 unfold aZ at hr ⊢
 split at hr
 .exact aaK h _ _ _ _ _ _ hr
 .rename_i rs fv xs
  cases hc:fj P L f hp ct .dyn (az tm fv) (dL tm xs) with
  | none=>simp[hc] at hr
  | some q=>rw[aaK h _ _ _ _ _ _ hc];simpa only[hc] using hr
 all_goals simpa only using hr
def O7(h:Le f g):∀(ops:List aS) (s s':St),dt P L f ops s=GW s'->dt P L g ops s=GW s'
 | [],s,s',hr=>by simpa only[dt] using hr
 | ⟨d,gd,o⟩::r,s,s',hr=>by
  simp only[dt] at hr ⊢
  split at hr
  .rename_i hw
   cases ho:aZ P L f s.tm s.hp s.ct o with
   | none=>simp[ho] at hr
   | some q=>rw[abX h _ _ _ _ _ ho];simp only[ho] at hr ⊢;exact O7 h r _ _ hr
  .rename_i hw
   (try simp only[hw]);exact O7 h r _ _ hr
  .simp at hr
def zb(h:Le f g):∀(c:VC) (s:St) (r:Ex×St),bI P L f c s=GW r->bI P L g c s=GW r
 | .skip,s,r,hr=>by simpa only[bI] using hr
 | .oR ops,s,r,hr=>by
  simp only[bI] at hr ⊢
  cases ho:dt P L f ops s with
  | none=>simp[ho] at hr
  | some s'=>rw[O7 h _ _ _ ho];simpa only[ho] using hr
 | .seq a b,s,r,hr=>by
  simp only[bI] at hr ⊢
  cases ha:bI P L f a s with
  | none=>simp[ha] at hr
  | some q=>
   rw[zb h a s q ha];obtain⟨ex,s1⟩:=q
   cases ex with
   | normal=>simp only[ha] at hr ⊢;exact zb h b s1 r hr
   | ret=>simpa only[ha] using hr
   | exit id=>simpa only[ha] using hr
 | .cond x a b,s,r,hr=>by
  simp only[bI] at hr ⊢
  split at hr
  .rename_i t ht
   cases t with
   | true=>simp only[yC] at hr ⊢;exact zb h a s r hr
   | false=>simp only[yX] at hr ⊢;exact zb h b s r hr
  .simp at hr
 | .ef id a,s,r,hr=>by
  simp only[bI] at hr ⊢
  cases ha:bI P L f a s with
  | none=>simp[ha] at hr
  | some q=>rw[zb h a s q ha];simpa only[ha] using hr
 | .kp live,s,r,hr=>by simpa only[bI] using hr
 | .fz ts,s,r,hr=>by simpa only[bI] using hr
 | .loop live a,s,r,hr=>by
  simp only[bI] at hr ⊢
  cases ha:bI P L f a (bq live s) with
  | none=>simp[ha] at hr
  | some q=>
   rw[zb h a _ q ha];obtain⟨ex,s1⟩:=q
   cases ex with
   | normal=>simp only[ha] at hr ⊢;exact h _ _ _ hr
   | ret=>simpa only[ha] using hr
   | exit id=>simpa only[ha] using hr
 | .rf fv ps cM body,s,r,hr=>by
  simp only[bI] at hr ⊢
  split at hr
  .rename_i n first cap hx
   split at hr
   .grind
   .rename_i hL
    cases hc:jz P L f ((s.ct,.lp s.tm ps cM body 0 .none)::s.hp) (s.ct+1) n (first++(.fn (.y s.ct) [] []::cap)) with
    | none=>simp[hc] at hr
    | some q=>rw[TP h _ _ _ _ _ hc];simpa only[hc] using hr
  .simp at hr
 | .exit id,s,r,hr=>by simpa only[bI] using hr
 | .ret,s,r,hr=>by simpa only[bI] using hr
end
def KY(P:aG)(L:Lib)(c:VC)(s:St):ev P L 0 c s=GX:=rfl
def P1(P:aG)(L:Lib)(n:Nat):ev P L (n+1)=bI P L (ev P L n):=rfl
def ae5(P:aG)(L:Lib):∀n,Le (ev P L n) (ev P L (n+1))
 | 0=>fun c s r h=>by rw[KY] at h;cases h
 | n+1=>fun c s r h=>by
  exact zb (ae5 P L n) c s r h
def Vi(P:aG)(L:Lib){n m:Nat}(h:n<=m):Le (ev P L n) (ev P L m):=by
 induction h with
 | refl=>exact fun _ _ _ h=>h
 | step _ ih=>exact fun c s r hr=>ae5 P L _ c s r (ih c s r hr)
section
open Go
section
variable {ex:Ex}{lo n:Nat}{s:St}{w w':ym}
section
variable {O:bz}{self:cw}
def fe.none{m:Mp}{S:Nat->Prop}{s':St}{a:Act}(l:Nat):¬fe O m S w s ex s' n lo (.goto l) a w':=by
 rintro⟨h,_⟩;cases ex<;>cases h
def fe.then{m m1:Mp}{S S1:Nat->Prop}{w1:ym}{s1 s2:St}{a':Act}{e:uz}{ex1:Ex}(h1:s1.base=s.base)(hf:cr m S w s.hp m1 S1 w1 s1.hp s.base)(h:fe O m1 S1 w1 s1 ex s2 n lo e a' w'):fe O m S w s ex s2 n lo e a' w':=by
 have⟨h2,m',S',k1,k2,k3,k4,k5,k6,k7⟩:=h;rw[h1] at k3 k4 k5;exact⟨h2,m',S',k1,k2,k3,k4,hf.trans k5,k6,k7⟩
def fe.cu{m:Mp}{S:Nat->Prop}{s1:St}{a':Act}{e:uz}(live:List Nat)(h:fe O m S w s ex s1 n lo e a' w'):fe O m S w s ex (bq live s1) n lo e a' w':=by
 have⟨h2,m',S',k1,k2,k3,k4,k5,k6,k7⟩:=h;have⟨m2,g1,g2,g3,g4,g5⟩:=TX (live:=live) k1 k2 (by rw[k3];exact k4)
 rw[k3] at g3 g4 g5;exact⟨h2,m2,S',g1,g2,g3,g4,k5.trans g5,k6,CG k2 g5 k7⟩
def ae6{m:Mp}{w:ym}{tmps:Array yj}:∀{ts:List Nat} {s s1:St} {S:Nat->Prop},b7 O m S w s.tm tmps->aT O m S w s.hp s.ct->rK ts s=GW s1->
  ∃S1,b7 O m S1 w s1.tm tmps/\aT O m S1 w s1.hp s1.ct/\s1.base=s.base/\s1.ct=s.ct/\∀base,cr m S w s.hp m S1 w s1.hp base
 | [],s,s1,S,ht,hh,h=>by
  simp only[rK,yd] at h;subst h;exact⟨S,ht,hh,rfl,rfl,fun _=>cr.refl⟩
 | t::r,s,s1,S,ht,hh,h=>by
  simp only[rK] at h
  cases hz:freeze deep s.hp (ai s.tm t) with
  | none=>simp[hz] at h
  | some q=>
   have⟨v,hp⟩:=q;simp only[hz] at h;have⟨h1,h2,h3⟩:=Uj (O:=O) hz;have hg:jh s.hp s.ct hp s.ct:=⟨h1,yz _,fun id o ho=>(by
     have:=h2 id
     rw[ho] at this
     cases hq:ax s.hp id with
     | none=>rw[hq] at this;simp at this
     | some o'=>exact hh.aH id o' hq),fun id o ho _=>(by
     have:=h2 id
     rw[ho] at this
     cases hq:ax s.hp id with
     | none=>rw[hq] at this;simp at this
     | some o'=>exact⟨o',rfl⟩)⟩
   have⟨S',k1,k2,k3,k4⟩:=PB hh hg;have Ci:b7 O m S' w ((t,v)::s.tm) tmps:=by
    intro i;simp only[ai]
    cases hb:yp t i with
    | true=>
     have:=yh hb
     subst this;exact (h3 hp m S' w s.ct cU.refl k1).1 _ (mI (fun _ _ h=>h) k2 (fun _ _=>rfl) _ _ (ht t))
    | false=>
     exact mI (fun _ _ h=>h) k2 (fun _ _=>rfl) _ _ (ht i)
   have⟨S1,g1,g2,g3,g4,g5⟩:=ae6 (s:={s with tm:=(t,v)::s.tm,hp:=hp}) Ci k1 h;exact⟨S1,g1,g2,g3,g4,fun base=>(k4 base).trans (g5 base)⟩
def adV(hO:iH O)(n:Nat)(hC:∀k,k<=n->pM O (ev O.prog O.aI k))(h:Nat):∀(c:vj) (l k:Nat) (j:Nat),j<=n->∀(s:St) (ex:Ex) (s':St),
  bI O.prog O.aI (ev O.prog O.aI j) (comp O.P (O.hint h) c l k).1 s=GW (ex,s')->Dg O h c s ex s':=by
 have refl:∀{s:St} {ex:Ex} {m:Mp} {S:Nat->Prop} {w:ym} {a:Act} {lo:Nat},b7 O m S w s.tm a.tmps->aT O m S w s.hp s.ct->s.base<=s.ct->Marks lo S w a.defers->fe O m S w s ex s a.tmps.size lo (zt ex) a w:=
  fun h1 h2 h3 h4=>⟨rfl,_,_,h1,h2,rfl,h3,cr.refl,rfl,h4⟩
 have W2:∀{self:cw} {s:St} {r:Ex×St},bI O.prog O.aI self (.oR [⟨GX,GX,bad⟩]) s=GW r->False:=by
  intro self s r hv;simp[bI,dt,bad,aZ,fj,az] at hv
 intro c
 induction c with
 | skip=>
  intro l k j hj s ex s' hv ro lo m S w a da ht hh hb hn bf fQ cI;simp only[comp,bI,yd,yo] at hv;obtain⟨rfl,rfl⟩:=hv;exact wpIn_skip (refl ht hh hb cI)
 | label x=>
  intro l k j hj s ex s' hv ro lo m S w a da ht hh hb hn bf fQ cI;simp only[comp,bI,yd,yo] at hv;obtain⟨rfl,rfl⟩:=hv;exact wpIn_label (refl ht hh hb cI)
 | exit id=>
  intro l k j hj s ex s' hv ro lo m S w a da ht hh hb hn bf fQ cI;simp only[comp,bI,yd,yo] at hv;obtain⟨rfl,rfl⟩:=hv
  exact wpIn_exit (refl (ex:=.exit id) ht hh hb cI)
 | ret=>
  intro l k j hj s ex s' hv ro lo m S w a da ht hh hb hn bf fQ cI;simp only[comp,bI,yd,yo] at hv;obtain⟨rfl,rfl⟩:=hv
  exact wpIn_ret (refl (ex:=.ret) ht hh hb cI)
 | goto x=>intro l k j hj s ex s' hv;exact (W2 (by simpa only[comp] using hv)).elim
 | refuse x=>intro l k j hj s ex s' hv;exact (W2 (by simpa only[comp] using hv)).elim
 | region id ops d=>
  intro l k j hj s ex s' hv;simp only[comp] at hv;generalize hq:PT O.P (O.hint h) ops d k=q at hv;have⟨r,k'⟩:=q;have main:∀{s s':St} {ex:Ex},bI O.prog O.aI (ev O.prog O.aI j) (.oR r) s=GW (ex,s')->Dg O h (.region id ops d) s ex s':=by
   intro s s' ex hv;simp only[bI] at hv
   cases ho:dt O.prog O.aI (ev O.prog O.aI j) r s with
   | none=>simp[ho] at hv
   | some s1=>
    simp only[ho,yd,yo] at hv;obtain⟨rfl,rfl⟩:=hv;exact asK hO (hC j hj) h id ops d k (by rw[hq];exact ho)
  simp only at hv
  split at hv
  .exact main hv
  .rename_i t ts _;simp only[bI] at hv
   cases hf:rK (t::ts) s with
   | none=>simp[hf] at hv
   | some s1=>
    simp only[hf] at hv;intro ro lo m S w a da ht hh hb hn bf fQ cI;have⟨S1,g1,g2,g3,g4,g5⟩:=ae6 ht hh hf;have h1:=main (s:=s1) (by simpa only[bI] using hv) ro lo m S1 w a da g1 g2 (by rw[g3,g4];exact hb) hn bf fQ (CG hh (g5 s.base) cI)
    refine wpIn_mono h1 (fun e a' w' hp=>?_)
    exact fe.then (ex1:=.normal) g3 (g5 s.base) hp
 | seq x y ihx ihy=>
  intro l k j hj s ex s' hv ro lo m S w a da ht hh hb hn bf fQ cI;simp only[comp] at hv;generalize A3:comp O.P (O.hint h) x l k=qx at hv;have⟨x',l1,k1⟩:=qx;simp only at hv;generalize N7:comp O.P (O.hint h) y l1 k1=qy at hv;have⟨y',l2,k2⟩:=qy;simp only[bI] at hv
  cases hx:bI O.prog O.aI (ev O.prog O.aI j) x' s with
  | none=>simp[hx] at hv
  | some r=>
   have⟨ex1,s1⟩:=r;have h1:=ihx l k j hj s ex1 s1 (by rw[A3];exact hx) ro lo m S w a da ht hh hb hn bf fQ cI
   refine wpIn_seq (wpIn_mono h1 ?_);rintro e a1 w1 ⟨rfl,m1,S1,g1,g2,g3,g4,g5,g6,g7⟩;have stop:ex1≠.normal->ex=ex1/\s'=s1:=by
    intro fP;rw[hx] at hv
    cases ex1 with
    | normal=>exact absurd rfl fP
    | ret=>simp only[yd,yo] at hv;exact⟨hv.1.symm,hv.2.symm⟩
    | exit id=>simp only[yd,yo] at hv;exact⟨hv.1.symm,hv.2.symm⟩
   cases ex1 with
   | normal=>
    simp only[hx] at hv;simp only[zt,Exit.then];have h2:=ihy l1 k1 j hj s1 ex s' (by rw[N7];exact hv) ro lo m1 S1 w1 a1 (Pn g5 da) g1 g2 (by rw[g3];exact g4) (by rw[g6];exact hn) bf (xn fQ g5.size) g7
    rw[g6] at h2
    exact wpIn_mono h2 (fun e a' w' hp=>fe.then (ex1:=.normal) g3 g5 hp)
   | ret=>
    obtain⟨rfl,rfl⟩:=stop (by simp);exact⟨rfl,m1,S1,g1,g2,g3,g4,g5,g6,g7⟩
   | exit id=>
    obtain⟨rfl,rfl⟩:=stop (by simp);exact⟨rfl,m1,S1,g1,g2,g3,g4,g5,g6,g7⟩
 | cond x p q ihp ihq=>
  intro l k j hj s ex s' hv ro lo m S w a da ht hh hb hn bf fQ cI;simp only[comp] at hv;generalize A3:comp O.P (O.hint h) p (l+1) k=qx at hv;have⟨p',l1,k1⟩:=qx;simp only at hv;generalize N7:comp O.P (O.hint h) q l1 k1=qy at hv;have⟨q',l2,k2⟩:=qy;simp only at hv;have main:∀(ex:Ex) (s':St),bI O.prog O.aI (ev O.prog O.aI j) (.cond (aK (O.hint h) x) p' q') s=GW (ex,s')->(Code.cond x p q).wpIn (WF ro) 0 O.P (fe O m S w s ex s' a.tmps.size lo) a w:=by
   intro ex s' hv;simp only[bI] at hv;have rx:=b8 (hO.hint h) ht x
   split at hv
   .rename_i t hx;rw[hx] at rx;simp only[aj] at rx
    cases t with
    | true=>
     simp only[yC] at hv;exact wpIn_cond_true rx (ihp (l+1) k j hj s ex s' (by rw[A3];exact hv) ro lo m S w a da ht hh hb hn bf fQ cI)
    | false=>
     simp only[yX] at hv;exact wpIn_cond_false rx (ihq l1 k1 j hj s ex s' (by rw[N7];exact hv) ro lo m S w a da ht hh hb hn bf fQ cI)
   .cases hv
  cases Io:(O.hint h).out l with
  | none=>rw[Io] at hv;exact main ex s' hv
  | some live=>
   rw[Io] at hv;simp only at hv;rw[show bI O.prog O.aI (ev O.prog O.aI j) (.seq (.cond (aK (O.hint h) x) p' q') (.kp live)) s=match bI O.prog O.aI (ev O.prog O.aI j) (.cond (aK (O.hint h) x) p' q') s with | some (.normal,s1)=>GW (.normal,bq live s1) | r=>r from rfl] at hv
   cases hx:bI O.prog O.aI (ev O.prog O.aI j) (.cond (aK (O.hint h) x) p' q') s with
   | none=>simp[hx] at hv
   | some r=>
    have⟨ex1,s1⟩:=r;have h1:=main ex1 s1 hx;rw[hx] at hv
    cases ex1 with
    | normal=>
     simp only[yd,yo] at hv;obtain⟨rfl,rfl⟩:=hv;exact wpIn_mono h1 (fun e a' w' hp=>fe.cu live hp)
    | ret=>simp only[yd,yo] at hv;obtain⟨rfl,rfl⟩:=hv;exact h1
    | exit id=>simp only[yd,yo] at hv;obtain⟨rfl,rfl⟩:=hv;exact h1
 | block id x ih=>
  intro l k j hj s ex s' hv ro lo m S w a da ht hh hb hn bf fQ cI;simp only[comp] at hv;generalize A3:comp O.P (O.hint h) x l k=qx at hv;have⟨x',r⟩:=qx;simp only at hv;have main:∀(ex:Ex) (s':St),bI O.prog O.aI (ev O.prog O.aI j) (.ef id x') s=GW (ex,s')->(Code.block id x).wpIn (WF ro) 0 O.P (fe O m S w s ex s' a.tmps.size lo) a w:=by
   intro ex s' hv;simp only[bI] at hv
   cases hx:bI O.prog O.aI (ev O.prog O.aI j) x' s with
   | none=>simp[hx] at hv
   | some q=>
    have⟨ex1,s1⟩:=q;have h1:=ih l k j hj s ex1 s1 (by rw[A3];exact hx) ro lo m S w a da ht hh hb hn bf fQ cI
    refine wpIn_block (wpIn_mono h1 ?_);rintro e a1 w1 ⟨rfl,g⟩
    cases ex1 with
    | normal=>
     simp only[hx,yd,yo] at hv;obtain⟨rfl,rfl⟩:=hv;exact⟨rfl,g⟩
    | ret=>
     simp only[hx,yd,yo] at hv;obtain⟨rfl,rfl⟩:=hv;exact⟨rfl,g⟩
    | exit i=>
     simp only[hx] at hv
     cases SK:yp i id with
     | true=>
      rw[SK] at hv;simp only[yC,yd,yo] at hv;obtain⟨rfl,rfl⟩:=hv
      have:=yh SK
      subst this;simp only[zt,Exit.inBlock,xS];exact⟨rfl,g⟩
     | false=>
      rw[SK] at hv;simp only[yX,yd,yo] at hv;obtain⟨rfl,rfl⟩:=hv;have fP:i≠id:=fun e=>by subst e;simp at SK
      simp only[zt,Exit.inBlock,fP,xE];exact⟨rfl,g⟩
  have aw5:∀live:List Nat,bI O.prog O.aI (ev O.prog O.aI j) (.seq (.ef id x') (.kp live)) s=GW (ex,s')->(Code.block id x).wpIn (WF ro) 0 O.P (fe O m S w s ex s' a.tmps.size lo) a w:=by
   intro live hv;rw[show bI O.prog O.aI (ev O.prog O.aI j) (.seq (.ef id x') (.kp live)) s=match bI O.prog O.aI (ev O.prog O.aI j) (.ef id x') s with | some (.normal,s1)=>GW (.normal,bq live s1) | r=>r from rfl] at hv
   cases hx:bI O.prog O.aI (ev O.prog O.aI j) (.ef id x') s with
   | none=>simp[hx] at hv
   | some r=>
    have⟨ex1,s1⟩:=r;have h1:=main ex1 s1 hx;rw[hx] at hv
    cases ex1 with
    | normal=>
     simp only[yd,yo] at hv;obtain⟨rfl,rfl⟩:=hv;exact wpIn_mono h1 (fun e a' w' hp=>fe.cu live hp)
    | ret=>simp only[yd,yo] at hv;obtain⟨rfl,rfl⟩:=hv;exact h1
    | exit id=>simp only[yd,yo] at hv;obtain⟨rfl,rfl⟩:=hv;exact h1
  split at hv
  .exact aw5 _ hv
  .exact main ex s' hv
 | loop x ih=>
  intro l k j hj s ex s' hv;simp only[comp] at hv;generalize A3:comp O.P (O.hint h) x (l+1) k=qx at hv;have⟨x',r⟩:=qx;simp only at hv;have rounds:∀(j:Nat),j<=n->∀(s:St) (ex:Ex) (s':St),bI O.prog O.aI (ev O.prog O.aI j) (.loop ((O.hint h).live l) x') s=GW (ex,s')->∃K,∀(ro:Option Nat) (lo:Nat) (m:Mp) (S:Nat->Prop) (w:ym) (a:Act),By ro w->b7 O m S w s.tm a.tmps->aT O m S w s.hp s.ct->s.base<=s.ct->(O.hint h).n<=a.tmps.size->O.w0.heap.size<=lo->lo<=w.heap.size->Marks lo S w a.defers->
    Code.roundsIn (WF ro) 0 O.P x (fe O m S w s ex s' a.tmps.size lo) K a w:=by
   intro j
   induction j with
   | zero=>
    intro hj s ex s' hv;simp only[bI] at hv
    cases hx:bI O.prog O.aI (ev O.prog O.aI 0) x' (bq ((O.hint h).live l) s) with
    | none=>simp[hx] at hv
    | some q=>
     have⟨ex1,s1⟩:=q;have stop:ex1≠.normal->ex=ex1/\s'=s1:=by
      intro fP;rw[hx] at hv
      cases ex1 with
      | normal=>exact absurd rfl fP
      | ret=>simp only[yd,yo] at hv;exact⟨hv.1.symm,hv.2.symm⟩
      | exit id=>simp only[yd,yo] at hv;exact⟨hv.1.symm,hv.2.symm⟩
     refine⟨1,fun ro lo m S w a da ht hh hb hn bf fQ cI=>?_⟩;rw[roundsIn_succ];have⟨m1,c1,c2,c3,c4,c5⟩:=TX (live:=(O.hint h).live l) ht hh hb;have h1:=ih (l+1) k 0 hj _ ex1 s1 (by rw[A3];exact hx) ro lo m1 S w a da c1 c2 (by rw[c3];exact c4) hn bf fQ cI
     refine wpIn_mono h1 ?_;rintro e a1 w1 hp;have au:=fe.then (O:=O) (m:=m) (S:=S) (w:=w) (s:=s) (ex1:=.normal) c3 c5 hp;obtain⟨rfl,_⟩:=hp
     cases ex1 with
     | normal=>simp only[hx,KY] at hv;cases hv
     | ret=>obtain⟨rfl,rfl⟩:=stop (by simp);exact au
     | exit id=>obtain⟨rfl,rfl⟩:=stop (by simp);exact au
   | succ j ihj=>
    intro hj s ex s' hv;simp only[bI] at hv
    cases hx:bI O.prog O.aI (ev O.prog O.aI (j+1)) x' (bq ((O.hint h).live l) s) with
    | none=>simp[hx] at hv
    | some q=>
     have⟨ex1,s1⟩:=q;have stop:ex1≠.normal->ex=ex1/\s'=s1:=by
      intro fP;rw[hx] at hv
      cases ex1 with
      | normal=>exact absurd rfl fP
      | ret=>simp only[yd,yo] at hv;exact⟨hv.1.symm,hv.2.symm⟩
      | exit id=>simp only[yd,yo] at hv;exact⟨hv.1.symm,hv.2.symm⟩
     have more:∃K,ex1=.normal->∀(ro:Option Nat) (lo:Nat) (m:Mp) (S:Nat->Prop) (w:ym) (a:Act),By ro w->b7 O m S w s1.tm a.tmps->aT O m S w s1.hp s1.ct->s1.base<=s1.ct->(O.hint h).n<=a.tmps.size->O.w0.heap.size<=lo->lo<=w.heap.size->Marks lo S w a.defers->
       Code.roundsIn (WF ro) 0 O.P x (fe O m S w s1 ex s' a.tmps.size lo) K a w:=by
      cases ex1 with
      | normal=>
       rw[hx] at hv;have eJ:ev O.prog O.aI (j+1) (.loop ((O.hint h).live l) x') s1=GW (ex,s'):=hv;rw[P1] at eJ;have⟨K,hK⟩:=ihj (by lia) s1 ex s' eJ;exact⟨K,fun _=>hK⟩
      | ret=>exact⟨0,fun h=>by cases h⟩
      | exit id=>exact⟨0,fun h=>by cases h⟩
     have⟨K,hK⟩:=more;refine⟨K+1,fun ro lo m S w a da ht hh hb hn bf fQ cI=>?_⟩;rw[roundsIn_succ];have⟨m1,c1,c2,c3,c4,c5⟩:=TX (live:=(O.hint h).live l) ht hh hb;have h1:=ih (l+1) k (j+1) hj _ ex1 s1 (by rw[A3];exact hx) ro lo m1 S w a da c1 c2 (by rw[c3];exact c4) hn bf fQ cI
     refine wpIn_mono h1 ?_;rintro e a1 w1 hp;have au:=fe.then (O:=O) (m:=m) (S:=S) (w:=w) (s:=s) (ex1:=.normal) c3 c5 hp;obtain⟨rfl,_⟩:=hp
     cases ex1 with
     | normal=>
      simp only[zt,Exit.then];have⟨_,m2,S2,g1,g2,g3,g4,g5,g6,g7⟩:=au;have h2:=hK rfl ro lo m2 S2 w1 a1 (Pn g5 da) g1 g2 (by rw[g3];exact g4) (by rw[g6];exact hn) bf (xn fQ g5.size) g7
      rw[g6] at h2;revert h2;generalize hA:a.tmps.size=sz;intro h2;have step:∀(K:Nat) (a':Act) (w':ym),Code.roundsIn (WF ro) 0 O.P x (fe O m2 S2 w1 s1 ex s' sz lo) K a' w'->Code.roundsIn (WF ro) 0 O.P x (fe O m S w s ex s' sz lo) K a' w':=by
       intro K
       induction K with
       | zero=>intro a' w' DR;exact DR
       | succ K ihK=>
        intro a' w' DR;rw[roundsIn_succ] at DR ⊢;refine wpIn_mono DR (fun e a'' SD hq=>?_)
        cases e with
        | normal=>exact ihK a'' SD hq
        | exit id=>exact fe.then (ex1:=.normal) g3 g5 hq
        | goto x=>exact fe.then (ex1:=.normal) g3 g5 hq
        | ret=>exact fe.then (ex1:=.normal) g3 g5 hq
        | panic x=>exact fe.then (ex1:=.normal) g3 g5 hq
        | outgrown=>exact fe.then (ex1:=.normal) g3 g5 hq
      exact step K a1 w1 h2
     | ret=>obtain⟨rfl,rfl⟩:=stop (by simp);exact au
     | exit id=>obtain⟨rfl,rfl⟩:=stop (by simp);exact au
  have⟨K,hK⟩:=rounds j hj s ex s' hv;intro ro lo m S w a da ht hh hb hn bf fQ cI;exact wpIn_loop_rounds K (hK ro lo m S w a da ht hh hb hn bf fQ cI)
 | scope x ih=>
  intro l k j hj s ex s' hv ro lo m S w a da ht hh hb hn bf fQ cI;simp only[comp] at hv;exact alp (ih l k j hj s ex s' hv ro lo m S w a da ht hh hb hn bf fQ cI) (fun l a w=>fe.none l)
 | rangeFunc f ps cM body iha ihb=>
  intro l k j hj s ex s' hv;simp only[comp] at hv;generalize A3:comp O.P (O.hint h) cM l k=qx at hv;have⟨x',l1,k1⟩:=qx;simp only at hv;generalize N7:comp O.P (O.hint h) body l1 k1=qy at hv;have⟨y',l2,k2⟩:=qy;simp only at hv
  cases ha:BD (O.hint h).n ps.toList with
  | false=>rw[ha] at hv;exact (W2 hv).elim
  | true=>
   rw[ha] at hv;exact aw4 hO (hC j hj) ⟨l,k,by rw[A3]⟩ ⟨l1,k1,by rw[N7]⟩ ha hv
end
end
end
section
open Go
section
variable {v:AV}{args:Array yj}{aw:List AV}{n:Nat}{s:St}
section
variable {O:bz}{m:Mp}{S:Nat->Prop}{w:ym}
def abY:∀(aw:List AV) (j i:Nat),ai (gi j aw) (j+i)=aw.getD i .undef
 | [],j,i=>by simp[gi,ai]
 | v::r,j,i=>by
  cases i with
  | zero=>simp[gi,ai]
  | succ i=>
   simp only[gi,ai];have hb:yp j (j+(i+1))=ycO:=by
    cases hq:yp j (j+(i+1)) with
    | false=>rfl
    | true=>have:=yh hq;lia
   rw[hb,show j+(i+1)=j+1+i by lia];rw[abY r (j+1) i]
   simp
def abZ(n:Nat)(h:aB O.ah m S w aw args.toList):b7 O m S w (gi 0 aw) (args++uA n undef):=by
 intro i
 have:=abY aw 0 i
 rw[yf] at this;rw[this,yU]
 cases hv:aw[i]? with
 | none=>simp only[Option.getD_none,aj]
 | some v=>
  have⟨u,h1,h2⟩:=UD h hv;have hl:i<args.size:=by
   grind
  have:(args++uA n undef).getD i undef=u:=by
   rw[wh,yar hl]
   grind
  grind
def Ip(tmps:Array yj):ycw->Sem yj
 | .tmp t=>pure (tmps.getD t undef)
 | .cell a t=>do loadVar t (<-asAddr (tmps.getD a undef))
def alq(fn:yaD)(tmps:Array yj):results fn tmps=(do let vs <-fn.results.mapM (Ip tmps);pure (if h:vs.size=1 then vs[0] else .tuple vs)):=by
 rfl
def TZ{s:St}{ct:Nat}{tmps:Array yj}(hh:aT O m S w s.hp ct)(ht:b7 O m S w s.tm tmps):∀{rs:List ycw} {rv:List RV} {vs:List AV},rk O.P rs=GW rv->mH s rv=GW vs->
  ∃us,(rs.mapM (Ip tmps)).run O.P w=.ok us w/\aB O.ah m S w vs us
 | [],rv,vs,h1,h2=>by
  simp only[rk,yd] at h1;subst h1;simp only[mH,yd] at h2;subst h2;exact⟨[],by simp,by simp[aB]⟩
 | .tmp t::rs,rv,vs,h1,h2=>by
  simp only[rk] at h1
  cases hc:rk O.P rs with
  | none=>simp[hc] at h1
  | some l=>
   simp only[hc,yd] at h1;subst h1;simp only[mH,results1] at h2
   cases hl:mH s l with
   | none=>simp[hl] at h2
   | some NN=>
    simp only[hl,yd] at h2;subst h2;have⟨us,g1,g2⟩:=TZ hh ht hc hl;refine⟨tmps.getD t undef::us,?_,by simp only[aB];exact⟨_,_,rfl,ht t,g2⟩⟩
    rw[uL];simp only[Ip,Sem.run_bind,Sem.run_pure,Result.andThen_ok];rw[g1];rfl
 | .cell a t::rs,rv,vs,h1,h2=>by
  simp only[rk] at h1
  cases hz:cC O.P t with
  | none=>simp[hz] at h1
  | some sz=>
   cases AS:dD O.P t with
   | none=>simp[hz,AS] at h1
   | some ag=>
    cases hc:rk O.P rs with
    | none=>simp[hz,AS,hc] at h1
    | some l=>
     simp only[hz,AS,hc,yd] at h1;subst h1;simp only[mH] at h2
     cases dQ:results1 s (.cell a sz ag) with
     | none=>simp[dQ] at h2
     | some v=>
      cases hl:mH s l with
      | none=>simp[dQ,hl] at h2
      | some NN=>
       simp only[dQ,hl,yd] at h2;subst h2;have⟨us,g1,g2⟩:=TZ hh ht hc hl;have ra:=ht a;have key:∃b o u,tmps.getD a undef=.pointer (GW ⟨b,o,GX⟩)/\(loadVar t ⟨b,o,GX⟩).run O.P w=.ok u w/\aj O.ah m S w v u:=by
        simp only[results1] at dQ;cases hta:ai s.tm a<;>rw[hta] at dQ ra<;>simp only[reduceCtorEq] at dQ
        .rename_i id o;simp only[aj] at ra;have⟨p,hm,hp⟩:=ra
         cases hg:ax s.hp id with
         | none=>simp[hg] at dQ
         | some ob=>
          cases ob<;>simp only[hg,reduceCtorEq] at dQ
          have N8:=UC (o:=0) (n:=0) hh hg hm;have⟨u,q1,q2⟩:=PV hz AS (zc o _ p.b p.o N8) dQ;exact⟨p.b,p.o+o,u,hp,q1,q2⟩
        .rename_i cs;simp only[aj] at ra;have⟨b,o,hp,_,_,N8⟩:=ra;have⟨u,q1,q2⟩:=PV hz AS N8 dQ;exact⟨b,o,u,hp,q1,q2⟩
       have⟨b,o,u,q1,q2,q3⟩:=key;refine⟨u::us,?_,by simp only[aB];exact⟨_,_,rfl,q3,g2⟩⟩
       rw[uL]
       have:(Ip tmps (.cell a t)).run O.P w=.ok u w:=by
        simp only[Ip];rw[q1];simp[asAddr,q2]
       rw[Sem.run_bind,this,Result.andThen_ok,Sem.run_bind,g1];rfl
def akI{ct:Nat}{tmps:Array yj}{fn:yaD}{rv:List RV}(hh:aT O m S w s.hp ct)(ht:b7 O m S w s.tm tmps)(h1:rk O.P fn.results.toList=GW rv)(h2:jw s rv=GW v):
  ∃u,(results fn tmps).run O.P w=.ok u w/\aj O.ah m S w v u:=by
 unfold jw at h2
 cases hl:mH s rv with
 | none=>simp[hl] at h2
 | some vs=>
  have⟨us,g1,g2⟩:=TZ hh ht h1 hl;have hlen:=ij _ _ g2;have hm:(fn.results.mapM (Ip tmps)).run O.P w=.ok us.toArray w:=by
   rw[Array.mapM_eq_mapM_toList];simp[g1]
  have dY:(results fn tmps).run O.P w=.ok (if h:us.toArray.size=1 then us.toArray[0] else .tuple us.toArray) w:=by
   rw[alq,Sem.run_bind,hm];rfl
  rw[hl] at h2
  split at h2
  .rename_i v' qJ;simp only[yd] at qJ h2;subst qJ;simp only[aB] at g2
   grind
  .rename_i eh fP qJ;simp only[yd] at qJ h2;subst qJ;subst h2;have h1:¬us.toArray.size=1:=by
    intro h
    have:vs.length=1:=by simp_all
    cases vs with
    | nil=>simp at this
    | cons x t=>
     cases t with
     | nil=>exact fP x rfl
     | cons y t=>simp at this
   simp only[aj]
   grind
  .grind
def Uo{s:St}{tmps:Array yj}{fn:yaD}{rv:List RV}{v:AV}{m0:Mp}{S0:Nat->Prop}{w0:ym}{hp0:Hp}{SL:Nat}(h1:rk O.P fn.results.toList=GW rv)(h2:jw s rv=GW v)(hZ:SL<=s.ct):∀(rs:List Nat) (w:ym),
  rs.Nodup->(∀r,r∈rs->w.heap[r]? =GW (.deferred (GW []))/\¬S r/\w0.heap.size<=r)->O.w0.heap.size<=w0.heap.size->aT O m S w s.hp s.ct->b7 O m S w s.tm tmps->cr m0 S0 w0 hp0 m S w s.hp SL->
  ycy Fence.wide 0 O.P fn tmps (Bo O m0 S0 w0 hp0 SL v s.hp s.ct) (rs.map (fun r=>{target:=.collected r,args:=#[]})) .returning w
 | [],w,_,_,_,hh,ht,hf=>by
  have⟨u,g1,g2⟩:=akI hh ht h1 h2;exact⟨u,g1,u,m,S,rfl,hh,hZ,g2,hf⟩
 | r::rs,w,lh,hr,bf,hh,ht,hf=>by
  have⟨iP,dh⟩:=List.nodup_cons.1 lh;have⟨a1,a2,a3⟩:=hr r wS;have fO:=GZ w r (.deferred GX);have qC:¬eH m s.hp r:=fun ho=>acG hh ho _ a1
  have DR:=aba hh fO a2 qC (xn bf a3)
  have aU:gj S w {w with heap:=w.heap.setIfInBounds r (.deferred GX)}:=fun b hb=>fO.other b (fun e=>a2 (e▸hb))
  have AT:cr m0 S0 w0 hp0 m S {w with heap:=w.heap.setIfInBounds r (.deferred GX)} s.hp SL:=by
   refine⟨hf.os,hf.tape,hf.output,by rw[fO.size];exact hf.size,fun b hb ho=>(fO.other b (by lia)).trans (hf.same b hb ho),hf.sub,fun b hb=>(fO.other b (fun e=>a2 (e▸hf.sub b hb))).trans (hf.still b hb),hf.new,hf.own,hf.old,fun b x hb=>?_⟩
   have⟨x',hx⟩:=hf.loops b x hb;exact⟨x',(fO.other b (fun e=>by subst e;rw[a1] at hx;cases hx)).trans hx⟩
  refine⟨by simp,.inl ⟨r,_,rfl,?_,Uo h1 h2 hZ rs _ dh (fun r' bR=>?_) bf DR (CE (fun _ _ h=>h) (fun _ h=>h) aU ht) AT⟩⟩
  .simp only [Instr.takeDeferred,Sem.run_bind,abb (P:=O.P) a1 (fun _ _ _=>by simp),Result.andThen_ok,O6 (P:=O.P) a1 (fun _ _ _=>by simp),Sem.run_pure]
  .have ⟨b1,b2,b3⟩:=hr r' (wA _ bR);exact⟨(fO.other r' (fun e=>iP (e▸bR))).trans b1,b2,b3⟩
end
section
variable {O:bz}{self:cw}
def aw6(hO:iH O)(hS:∀v s ex s',self v s=GW (ex,s')->∀c h l k,(comp O.P (O.hint h) c l k).1=v->Dg O h c s ex s'){F:aA}(hF:O.prog n=GW F){hp:Hp}{ct:Nat}{ex:Ex}(hv:self F.body ⟨gi 0 aw,hp,ct,ct⟩=GW (ex,s))(hex:ex=.normal\/ex=.ret)(hr:jw s F.eG=GW v):Df O n hp ct aw v s.hp s.ct:=by
 intro m S w args hh eQ;have⟨fn,q1,q2,q3⟩:=hO.prog n F hF;have⟨c,q4,q5,q6,q7⟩:=TO q2;refine .inl ⟨PG q1 (by rw[q4];rfl) q3,?_⟩
 have hc:=hS _ _ _ _ hv c n 0 0 q5.symm;have hw:=hc GX w.heap.size m S w {tmps:=args++uA (fn.ntmps-args.size) undef,defers:=[]} (fun l hl=>by cases hl) (abZ _ eQ) hh (yz _) (by simp;lia) hh.gJ (yz _) ⟨[],rfl,by simp,by simp⟩
 refine callsIn_of_wp_marks (F:=Fence.wide) q1 q4 trivial (wpIn_mono hw ?_);rintro e a' w' ⟨rfl,m',S',k1,k2,k3,k4,k5,k6,rs,k7,k8,k9⟩;have main:ycy Fence.wide 0 O.P fn a'.tmps (Bo O m S w hp ct v s.hp s.ct) a'.defers .returning w':=by
  rw[k7];exact Uo q6 hr k4 rs w' k8 k9 hh.gJ k2 k1 k5
 rcases hex with rfl | rfl
 .exact main
 .exact main
def CU.mono{P:xy}{f:tQ}{w:ym}{R R':yaR->ym->Prop}(h:CU P f args w R)(hr:∀e w',R e w'->R' e w'):CU P f args w R':=by
 rcases h with ⟨h1,h2⟩ | ⟨u,w',h1,h2⟩
 .exact .inl ⟨h1,CallsIn.mono h2 hr⟩
 .exact .inr ⟨u,w',h1,hr _ _ h2⟩
def amt{w:ym}{S:Nat->Prop}(hg:De O w)(hs:∀b,S b->b<w.heap.size):aT O fp S w [] 0:=
 ⟨(fun id o p h _=>by simp[ax] at h),(fun id p h=>by cases h),(fun i j oi oj pi pj h=>by simp[ax] at h),hs,(fun id p h=>by cases h),(fun id p h=>by cases h),hg.1,hg.2,(fun id o h=>by simp[ax] at h)⟩
def UN{b:Nat}(h:eH fp [] b):False:=by
 have⟨_,_,_,h,_⟩:=h;simp[ax] at h
def TF{r:AV}(h:Df O n [] 0 aw v s.hp s.ct)(hr:result s.hp v=GW r):eR O n aw r:=by
 intro w S args hg hs eQ hp;refine CU.mono (h fp S w args (amt hg hs) eQ) ?_;rintro e w' ⟨u,m',S',rfl,k1,k2,k3,k4⟩;have bf:∀b,eH m' s.hp b->w.heap.size<=b:=fun b hb=>(k4.own b hb).elim (fun h=>(UN h).elim) (fun h=>h)
 have⟨S2,g1,g2,g3,g4⟩:=amj (lo:=w.heap.size) k1 hr k3 bf;refine⟨u,S2,rfl,⟨k4.os,k4.tape,k4.output,k4.size,fun b hb=>k4.same b hb UN⟩,fun b hb=>g1 b (k4.sub b hb),fun b hb=>?_,g3,g4⟩;rcases g2 b hb with h | h
 .rcases k4.new b h with h | h | h
  .exact .inl h
  .exact (UN h).elim
  .exact .inr h
 .exact .inr (bf b h)
def alr(hO:iH O)(hS:∀v s ex s',self v s=GW (ex,s')->∀c h l k,(comp O.P (O.hint h) c l k).1=v->Dg O h c s ex s'):pM O self:=by
 have heap:∀(n:Nat) (F:aA),O.prog n=GW F->∀(hp:Hp) (ct:Nat) (aw:List AV) (ex:Ex) (s:St) (v:AV),self F.body ⟨gi 0 aw,hp,ct,ct⟩=GW (ex,s)->(ex=.normal\/ex=.ret)->jw s F.eG=GW v->Df O n hp ct aw v s.hp s.ct:=
  fun n F hF hp ct aw ex s v h1 h2 h3=>aw6 hO hS hF h1 h2 h3
 refine⟨?_,?_,fun hp ct l xs v au aX hv=>aoo hS hv⟩
 .intro n aw r hv;unfold bS at hv
  cases hL:O.aI.pure n with
  | some sp=>rw[hL] at hv;exact hO.aI n sp aw r hL hv
  | none=>
   simp only[hL] at hv
   cases hF:O.prog n with
   | none=>simp[hF] at hv
   | some F=>
    simp only[hF] at hv
    split at hv
    .rename_i s hb
     cases hr:jw s F.eG with
     | none=>simp[hr] at hv
     | some v=>simp only[hr] at hv;exact TF (heap n F hF [] 0 aw .normal s v hb (.inl rfl) hr) hv
    .rename_i s hb
     cases hr:jw s F.eG with
     | none=>simp[hr] at hv
     | some v=>simp only[hr] at hv;exact TF (heap n F hF [] 0 aw .ret s v hb (.inr rfl) hr) hv
    .cases hv
 .intro hp ct n aw v au aX hv;unfold jz at hv
  cases hL:O.aI.heap n with
  | some sp=>rw[hL] at hv;exact hO.Il n sp hp ct aw v au aX hL hv
  | none=>
   simp only[hL] at hv
   cases hF:O.prog n with
   | none=>simp[hF] at hv
   | some F=>
    grind
def aaL(hO:iH O):∀n,pM O (ev O.prog O.aI n):=by
 intro n
 induction n using vQ with
 | _ n ih=>
  refine alr hO (fun v s ex s' hv c h l k hc=>?_)
  cases n with
  | zero=>rw[KY] at hv;cases hv
  | succ n=>
   rw[P1,<-hc] at hv;exact adV hO n (fun k hk=>ih k (by lia)) h c l k n (yz _) s ex s' hv
def sound(hO:iH O){f:Nat}{r:AV}(h:Yt O.prog O.aI n f aw=GW r):eR O f aw r:=(aaL hO n).pure f aw r h
end
end
end
def il:List Nat->List Nat->Bool
 | [],_=>ycN
 | a::x,b::y=>yp a b&&il x y
 | _::_,[]=>ycO
def nJ(sub:List Nat):List Nat->Nat->Option Nat
 | [],k=>bif il sub [] then GW k else GX
 | b::r,k=>bif il sub (b::r) then GW k else nJ sub r (k+1)
def Rj:List AV->Option AV
 | [.str s,.str sep]=>
  bif yP s.length 4294967281 then
   match nJ sep s 0 with
   | some i=>GW (.av [.str (s.take i),.str (s.drop (i+sep.length)),.bool ycN])
   | none=>GW (.av [.str s,.str [],.bool ycO])
  else GX
 | _=>GX
def O8:List AV->Option AV
 | [.str s,.str p]=>GW (bif il p s then .av [.str (s.drop p.length),.bool ycN] else .av [.str s,.bool ycO])
 | _=>GX
def O9:List AV->Option AV
 | [.str s,.str p]=>GW (.bool (il p s))
 | _=>GX
def OW:List AV->Option AV
 | [.str s,.str p]=>GW (.str (bif il p s then s.drop p.length else s))
 | _=>GX
def Iq(i:Nat):List Nat->Bool
 | []=>ycO
 | j::r=>bif yp j i then ycN else Iq i r
def mj(set:List Nat):List Nat->List Nat
 | []=>[]
 | b::r=>bif Iq b set then mj set r else b::r
def Ho:List Nat->Bool
 | []=>ycN
 | b::r=>yP b 128&&Ho r
def trimS:List AV->Option AV
 | [.str s,.str set]=>bif Ho set&&(yP s.length 4294967281&&yP set.length 4294967281) then GW (.str (mj set (mj set s.reverse).reverse)) else GX
 | _=>GX
def iL(s:List Nat):Nat->List Nat
 | 0=>[]
 | n+1=>s++iL s n
def CV:List AV->Option AV
 | [.str s,.int .i64 (.ofNat n)]=>bif yJ n 1099511627776&&yJ (s.length*n) 1099511627776 then GW (.str (iL s n)) else GX
 | _=>GX
def oA:Nat->Nat->List Nat->List Nat
 | 0,_,acc=>acc
 | f+1,n,acc=>bif yP n 10 then (48+n)::acc else oA f (n/10) ((48+n%10)::acc)
def aC(n:Nat):List Nat:=oA (n+1) n []
def aV:Int->List Nat
 | .ofNat n=>aC n
 | .negSucc n=>45::aC (n+1)
def Di:Int->Bool
 | .ofNat n=>yP n 9223372036854775808
 | .negSucc n=>yP n 9223372036854775808
def Mr:List AV->Option AV
 | [.int .i64 n]=>bif Di n then GW (.str (aV n)) else GX
 | _=>GX
def CB:List AV->Option AV
 | [.int .u64 (.ofNat n),.int .i64 10]=>bif yP n 18446744073709551616 then GW (.str (aC n)) else GX
 | _=>GX
def cQ:List Nat->Nat->Option Nat
 | [],a=>GW a
 | b::r,a=>bif yJ 48 b&&yJ b 57 then cQ r (10*a+(b-48)) else GX
def Ms:List AV->Option AV
 | [.str s]=>
  bif yP 0 s.length&&yJ s.length 18 then
   match cQ s 0 with | some n=>GW (.av [.int .i64 n,.undef]) | none=>GX
  else GX
 | _=>GX
def pO:List AV->Option AV
 | [.int .u64 (.ofNat x),.int .u64 (.ofNat y),.int .u64 (.ofNat c)]=>
  bif yJ c 1&&(yP x 18446744073709551616&&yP y 18446744073709551616) then GW (.av [.int .u64 ((x+y+c)%18446744073709551616:Nat),.int .u64 ((x+y+c)/18446744073709551616:Nat)]) else GX
 | _=>GX
def C1:List AV->Option AV
 | [.int .u64 (.ofNat x),.int .u64 (.ofNat y),.int .u64 (.ofNat c)]=>
  bif yJ c 1&&(yP x 18446744073709551616&&yP y 18446744073709551616) then GW (.av [.int .u64 ((x+18446744073709551616*2-y-c)%18446744073709551616:Nat),.int .u64 (bif yJ (y+c) x then 0 else 1)]) else GX
 | _=>GX
def Al:List AV->Option AV
 | [.int .u64 (.ofNat x),.int .u64 (.ofNat y)]=>bif yP x 18446744073709551616&&yP y 18446744073709551616 then GW (.av [.int .u64 (x*y/18446744073709551616:Nat),.int .u64 (x*y%18446744073709551616:Nat)]) else GX
 | _=>GX
def eY:Nat->Nat->Nat
 | 0,_=>0
 | f+1,n=>bif yp n 0 then 0 else 1+eY f (n/2)
def Lg:List AV->Option AV
 | [.int .u64 (.ofNat x)]=>bif yP x 18446744073709551616 then GW (.int .i64 (eY 64 x)) else GX
 | _=>GX
def Ia:List AV->Option AV
 | [.int .u64 (.ofNat x)]=>bif yP x 18446744073709551616 then GW (.int .i64 (64-eY 64 x:Nat)) else GX
 | _=>GX
def UO:List AV->Option AV
 | [.ay .f64 b]=>GW (.int .u64 b)
 | _=>GX
def TG:List AV->Option AV
 | [.int .u64 (.ofNat n)]=>GW (.ay .f64 n)
 | _=>GX
section
open Go
section
variable {a:AV}{args:Array yj}{aw:List AV}{s:List Nat}{w:ym}
section
variable {O:bz}{n:Nat}
def Kw{w':ym}(h:RowKit.Below w.heap.size w w'):Calm w w':=⟨h.os,h.tape,h.output,h.size,h.block⟩
def amu(k:Nat):Calm w (w.drewN k):=⟨rfl,rfl,rfl,yz _,fun _ _=>rfl⟩
def amv(h:De O w){a:Addr}{v:yj}(hc:O.w0.cell? a=GW v):w.cell? a=GW v:=by
 have hb:a.block<O.w0.heap.size:=by
  unfold World.cell? at hc
  cases hq:O.w0.heap[a.block]? with
  | none=>simp[hq] at hc
  | some o=>exact (xD.1 hq).1
 unfold World.cell? at hc ⊢;rw[h.1 _ hb];exact hc
def qZ{r:AV}(hr:∀S w' lo u,aj O.ah fp S w' r u->pW O.ah S w' lo r u)(gA:∀args w,(callFunc (O.ah n) args).run O.P w=.ok (.enter (O.ah n) args) w)(h:∀w S args,De O w->aB O.ah fp S w aw args.toList->wE O.P (O.ah n) args w fun e w'=>∃u,e=.returned u/\Calm w w'/\∀S,aj O.ah fp S w' r u):eR O n aw r:=by
 intro w S args hg hS eE _;refine .inl ⟨gA args w,Go.callsIn_wide.2 ((h w S args hg eE).mono ?_)⟩;rintro e w' ⟨u,rfl,hc,hu⟩;exact⟨u,S,rfl,hc,fun _ h=>h,fun _ h=>.inl h,fun b hb=>yR (hS b hb) hc.size,hr S w' _ u (hu S)⟩
def Po{r:AV}(hr:∀S w' lo u,aj O.ah fp S w' r u->pW O.ah S w' lo r u)(h:∀w S args,aB O.ah fp S w aw args.toList->∃u,(callFunc (O.ah n) args).run O.P w=.ok (.value u) w/\∀S,aj O.ah fp S w r u):eR O n aw r:=by
 intro w S args _ hS eE _;have⟨u,h1,h2⟩:=h w S args eE;exact .inr ⟨u,w,h1,u,S,rfl,Calm.refl,fun _ h=>h,fun _ h=>.inl h,hS,hr S w _ u (h2 S)⟩
def KZ:∀S w' lo u,aj O.ah fp S w' (.str s) u->pW O.ah S w' lo (.str s) u:=fun S w' lo u h=>⟨[],rfl,h,rfl⟩
def Vj{k:IntKind}{z:Int}:∀S w' lo u,aj O.ah fp S w' (.int k z) u->pW O.ah S w' lo (.int k z) u:=fun S w' lo u h=>⟨[],rfl,h,rfl⟩
def aqm{k:FloatKind}{z:Nat}:∀S w' lo u,aj O.ah fp S w' (.ay k z) u->pW O.ah S w' lo (.ay k z) u:=fun S w' lo u h=>⟨[],rfl,h,rfl⟩
def aoq{b:Bool}:∀S w' lo u,aj O.ah fp S w' (.bool b) u->pW O.ah S w' lo (.bool b) u:=fun S w' lo u h=>⟨[],rfl,h,rfl⟩
def abc{S:Nat->Prop}{w':ym}{lo:Nat}:∀{vs:List AV} {us:List yj},(∀v,v∈vs->(∀ex sz k cs,v≠.cL ex sz k cs)/\aQ v=ycN)->aB O.ah fp S w' vs us->mv O.ah S w' lo vs us []
 | [],us,_,h=>by simp only[aB] at h;exact⟨h,rfl⟩
 | v::vs,us,hv,h=>by
  simp only[aB] at h;obtain⟨u,t,rfl,h1,h2⟩:=h;have h3:=hv v (by simp);refine⟨u,t,[],[],rfl,rfl,?_,abc (fun v hm=>hv v (by simp[hm])) h2⟩;cases v<;>first | exact⟨rfl,h1,h3.2⟩ | exact absurd rfl (h3.1 _ _ _ _)
def Hd{vs:List AV}(hv:∀v,v∈vs->(∀ex sz k cs,v≠.cL ex sz k cs)/\aQ v=ycN):∀S w' lo u,aj O.ah fp S w' (.av vs) u->pW O.ah S w' lo (.av vs) u:=by
 intro S w' lo u h;obtain⟨xs,rfl,h⟩:=h;exact⟨xs,[],rfl,abc hv h,by simp⟩
def Ib{S:Nat->Prop}(h:aB O.ah fp S w [a] args.toList):∃u,args=#[u]/\aj O.ah fp S w a u:=by
 simp only[aB] at h
 grind
def Dj{S:Nat->Prop}{b:AV}(h:aB O.ah fp S w [a,b] args.toList):∃u v,args=#[u,v]/\aj O.ah fp S w a u/\aj O.ah fp S w b v:=by
 simp only[aB] at h
 grind
def ae7{S:Nat->Prop}{b c:AV}(h:aB O.ah fp S w [a,b,c] args.toList):∃u v x,args=#[u,v,x]/\aj O.ah fp S w a u/\aj O.ah fp S w b v/\aj O.ah fp S w c x:=by
 simp only[aB] at h
 grind
def Kx{S:Nat->Prop}{l:List UInt8}(h:l.map xp=s):aj O.ah fp S w (.str s) (.string ⟨l.toArray⟩):=by
 simp only[aj];exact⟨_,rfl,h⟩
def toNat_inj{a b:UInt8}:yp a.toNat b.toNat=(a==b):=by
 by_cases h:a=b
 .simp_all
 .have h':a.toNat≠b.toNat:=fun e=>h (UInt8.toNat_inj.1 e)
  have e:(a==b)=ycO:=by simp_all
  rw[e]
  cases hq:yp a.toNat b.toNat with
  | false=>rfl
  | true=>exact absurd (yh hq) h'
def KF:∀(p s:List UInt8),il (p.map xp) (s.map xp)=p.isPrefixOf s
 | [],s=>by cases s<;>rfl
 | a::p,[]=>rfl
 | a::p,b::s=>by
  simp only[xi,il,List.isPrefixOf,KF p s,toNat_inj]
def abd:∀(s sep:List UInt8) (k:Nat),nJ (sep.map xp) (s.map xp) k=if 0<=Lib.index s sep then GW (k+(Lib.index s sep).toNat) else GX
 | [],sep,k=>by
  simp only[List.map_nil,nJ,Lib.index]
  cases sep with
  | nil=>simp[il]
  | cons a r=>simp[il]
 | b::s,sep,k=>by
  have ih:=abd s sep (k+1);have hp:=KF sep (b::s);simp only[xi,nJ,hp,Lib.index]
  grind
def acJ(b:UInt8):∀cs:List UInt8,Iq b.toNat (cs.map xp)=cs.contains b
 | []=>rfl
 | c::cs=>by
  simp only[xi,Iq,acJ b cs,List.contains_cons,toNat_inj]
  grind
def Up(cs:List UInt8):∀l:List UInt8,mj (cs.map xp) (l.map xp)=(l.dropWhile (cs.contains ·)).map xp
 | []=>rfl
 | b::l=>by
  simp only[xi,mj,acJ,List.dropWhile_cons,Up cs l]
  grind
def acK(l:List UInt8):∀n,iL (l.map xp) n=(Lib.repeatL l n).map xp
 | 0=>rfl
 | n+1=>by simp only[iL,Lib.repeatL,xu,acK l n]
def aaM:∀(f n:Nat) (acc:List Nat),n<f->oA f n acc=(Lib.decDigits n).map xp++acc
 | 0,n,acc,h=>by lia
 | f+1,n,acc,h=>by
  rw[oA,Lib.decDigits];by_cases hn:n<10
  .rw [show yP n 10=ycN from yB hn,yC,dif_pos hn]
   have:(ybV (48+n)).toNat=48+n:=by
    rw[yaU];lia
   grind
  .have hb:yP n 10=ycO:=by
    cases hq:yP n 10 with
    | false=>rfl
    | true=>exact absurd (yu hq) (by lia)
   rw[hb,yX,dif_neg hn,aaM f (n/10) _ (by lia),xu,List.append_assoc]
   have:(ybV (48+n%10)).toNat=48+n%10:=by
    rw[yaU];lia
   grind
def UP(n:Nat):aC n=(Lib.decDigits n).map xp:=by
 rw[aC,aaM (n+1) n [] (by lia),List.append_nil]
def aor(n:Int):aV n=(Lib.itoa n).map xp:=by
 cases n with
 | ofNat k=>
  have:¬ybA k<0:=by simp
  simp only[aV,Lib.itoa,this,xE,UP];rfl
 | negSucc k=>
  have:Int.negSucc k<0:=Int.negSucc_lt_zero k
  simp only[aV,Lib.itoa,this,xS,UP,xi];rfl
def UQ:∀f x:Nat,eY f x=Lib.bitLenAux f x
 | 0,_=>rfl
 | f+1,x=>by
  rw[eY,Lib.bitLenAux];by_cases h:x=0
  .simp_all
  .have hb:yp x 0=ycO:=by
    cases hq:yp x 0 with
    | false=>rfl
    | true=>exact absurd (yh hq) h
   rw[hb,yX,yI h,UQ f]
def abe:∀{cs:List UInt8},Ho (cs.map xp)=ycN->∀(j:Nat) b,cs[j]? =GW b->b.toNat<128
 | [],_,j,b,h=>by simp at h
 | c::cs,h,j,b,hb=>by
  simp only[xi,Ho,ye] at h
  cases j with
  | zero=>
   simp_all
  | succ j=>exact abe h.2 j b (by simpa using hb)
def acL:∀{l:List UInt8} {a z:Nat},cQ (l.map xp) a=GW z->Lib.decFrom a l=GW z
 | [],a,z,h=>h
 | b::l,a,z,h=>by
  simp only[xi,cQ] at h
  cases hb:(yJ 48 b.toNat&&yJ b.toNat 57) with
  | false=>rw[hb] at h;cases h
  | true=>
   rw[hb] at h;simp only[ye] at hb;have h1:=yu hb.1;have h2:=yu hb.2
   have:=acL h
   rw[Lib.decFrom,Lib.digitVal,yK ⟨h1,h2⟩]
   grind
def aos{l:List UInt8}{z:Nat}(h:cQ (l.map xp) 0=GW z)(h0:0<l.length):Lib.atoi l=GW (z:Int):=by
 cases l with
 | nil=>simp at h0
 | cons b r=>
  have hd:=acL h;have hb:48<=b.toNat:=by
   simp only[xi,cQ] at h
   cases hb:(yJ 48 b.toNat&&yJ b.toNat 57) with
   | false=>rw[hb] at h;cases h
   | true=>
    simp_all
  have h1:(b==45)=ycO:=by
   have:b≠45:=fun e=>by subst e;exact absurd hb (by decide)
   grind
  have h2:(b==43)=ycO:=by
   have:b≠43:=fun e=>by subst e;exact absurd hb (by decide)
   grind
  simp only[Lib.atoi,h1,h2,yL,xE,Lib.decNat,List.isEmpty_cons,hd,wN]
section
variable {f:tQ}
def akk(hf:O.ah n=f)(gA:∀args w,(callFunc f args).run O.P w=.ok (.enter f args) w)(hc:∀(s p:ByteArray) (w:ym),wE O.P f #[.string s,.string p] w fun e w'=>e=.returned (.tuple #[.string ⟨(Lib.trimPrefix s.data.toList p.data.toList).toArray⟩,.bool (Lib.hasPrefix s.data.toList p.data.toList)])/\w'=w):
  ∀aw r,O8 aw=GW r->eR O n aw r:=by
 intro aw r h;unfold O8 at h
 split at h
 .rename_i s p;simp only[yd] at h;subst h;refine qZ ?_ (by rw[hf];exact gA) ?_
  .cases il p s<;>exact Hd (by simp[aQ])
  .intro w S args hg eE;obtain⟨u,v,rfl,h1,h2⟩:=Dj eE;obtain⟨t1,rfl,rfl⟩:=h1;obtain⟨t2,rfl,rfl⟩:=h2;rw[hf];refine (hc t1 t2 w).mono ?_;rintro e w' ⟨rfl,rfl⟩;refine⟨_,rfl,Calm.refl,fun S=>?_⟩;rw[KF,yv];unfold Lib.trimPrefix Lib.hasPrefix
   cases hp:t2.data.toList.isPrefixOf t1.data.toList with
   | true=>
    simp only[yC,xS,aj,aB]
    simp_all
   | false=>
    simp only[yX,yL,xE,aj,aB]
    grind
 .cases h
def akl(hf:O.ah n=f)(gA:∀args w,(callFunc f args).run O.P w=.ok (.enter f args) w)(hc:∀(s p:ByteArray) (w:ym),wE O.P f #[.string s,.string p] w fun e w'=>e=.returned (.bool (Lib.hasPrefix s.data.toList p.data.toList))/\w'=w):
  ∀aw r,O9 aw=GW r->eR O n aw r:=by
 intro aw r h;unfold O9 at h
 split at h
 .rename_i s p;simp only[yd] at h;subst h;refine qZ aoq (by rw[hf];exact gA) ?_
  intro w S args hg eE;obtain⟨u,v,rfl,h1,h2⟩:=Dj eE;obtain⟨t1,rfl,rfl⟩:=h1;obtain⟨t2,rfl,rfl⟩:=h2;rw[hf];refine (hc t1 t2 w).mono ?_;rintro e w' ⟨rfl,rfl⟩;refine⟨_,rfl,Calm.refl,fun S=>?_⟩;rw[KF];simp only[aj,Lib.hasPrefix]
 .cases h
def akh(hf:O.ah n=f)(gA:∀args w,(callFunc f args).run O.P w=.ok (.enter f args) w)(hc:∀(s p:ByteArray) (w:ym),wE O.P f #[.string s,.string p] w fun e w'=>e=.returned (.string ⟨(Lib.trimPrefix s.data.toList p.data.toList).toArray⟩)/\w'=w):
  ∀aw r,OW aw=GW r->eR O n aw r:=by
 intro aw r h;unfold OW at h
 split at h
 .rename_i s p;simp only[yd] at h;subst h;refine qZ KZ (by rw[hf];exact gA) ?_
  intro w S args hg eE;obtain⟨u,v,rfl,h1,h2⟩:=Dj eE;obtain⟨t1,rfl,rfl⟩:=h1;obtain⟨t2,rfl,rfl⟩:=h2;rw[hf];refine (hc t1 t2 w).mono ?_;rintro e w' ⟨rfl,rfl⟩;refine⟨_,rfl,Calm.refl,fun S=>?_⟩;rw[KF,yv];refine Kx ?_;unfold Lib.trimPrefix Lib.hasPrefix
  cases hp:t2.data.toList.isPrefixOf t1.data.toList with
  | true=>simp[List.map_drop]
  | false=>simp
 .cases h
def aqn(hf:O.ah n=f)(gA:∀args w,(callFunc f args).run O.P w=.ok (.enter f args) w){a:Addr}{m:Int}(hm:O.w0.cell? a=GW (.int .i64 m))(hc:∀(s sep:ByteArray) (w:ym),s.size<4294967281->w.cell? a=GW (.int .i64 m)->wE O.P f #[.string s,.string sep] w fun e w'=>e=.returned (.tuple #[.string ⟨(Lib.cut s.data.toList sep.data.toList).1.toArray⟩,.string ⟨(Lib.cut s.data.toList sep.data.toList).2.1.toArray⟩,.bool (Lib.cut s.data.toList sep.data.toList).2.2])/\∃n,w'=w.drewN n):
  ∀aw r,Rj aw=GW r->eR O n aw r:=by
 intro aw r h;unfold Rj at h
 split at h
 .rename_i s sep
  cases hb:yP s.length 4294967281 with
  | false=>rw[hb] at h;cases h
  | true=>
   rw[hb] at h;have key:∀(q:List UInt8×List UInt8×Bool),(∀t1 t2:ByteArray,t1.data.toList.map xp=s->t2.data.toList.map xp=sep->r=.av [.str ((Lib.cut t1.data.toList t2.data.toList).1.map xp),.str ((Lib.cut t1.data.toList t2.data.toList).2.1.map xp),.bool (Lib.cut t1.data.toList t2.data.toList).2.2])->
     (∃a b c,r=.av [.str a,.str b,.bool c])->eR O n [.str s,.str sep] r:=by
    intro q hq asM;obtain⟨a',b',c',rfl⟩:=asM;refine qZ (Hd (by simp[aQ])) (by rw[hf];exact gA) ?_
    intro w S args hg eE;obtain⟨u,v,rfl,h1,h2⟩:=Dj eE;obtain⟨t1,rfl,e1⟩:=h1;obtain⟨t2,rfl,e2⟩:=h2;rw[hf];have hl:t1.size<4294967281:=by
     have:=oE hb
     rw[<-e1,yv] at this
     simp_all
    refine (hc t1 t2 w hl (amv hg hm)).mono ?_;rintro e w' ⟨rfl,k,rfl⟩;refine⟨_,rfl,amu k,fun S=>?_⟩;simp only[aj,aB]
    grind
   refine key ([],[],ycO) ?_ ?_
   .intro t1 t2 e1 e2;subst e1;subst e2;rw[abd] at h;unfold Lib.cut;by_cases h0:0<=Lib.index t1.data.toList t2.data.toList
    .simp_all
    .grind
   .grind
 .cases h
def aot(hf:O.ah n=f)(gA:∀args w,(callFunc f args).run O.P w=.ok (.enter f args) w)(hc:∀(s cs:ByteArray) (w:ym),s.size<=9223372036854775807->cs.size<4294967281->(∀(j:Nat) b,cs.data.toList[j]? =GW b->b.toNat<128)->wE O.P f #[.string s,.string cs] w fun e w'=>e=.returned (.string ⟨(Lib.trimS s.data.toList cs.data.toList).toArray⟩)/\RowKit.Below w.heap.size w w'):
  ∀aw r,trimS aw=GW r->eR O n aw r:=by
 intro aw r h;unfold trimS at h
 split at h
 .rename_i s cs
  cases hb:(Ho cs&&(yP s.length 4294967281&&yP cs.length 4294967281)) with
  | false=>rw[hb] at h;cases h
  | true=>
   rw[hb] at h;simp only[yC,yd] at h;subst h;simp only[ye] at hb;refine qZ KZ (by rw[hf];exact gA) ?_
   intro w S args hg eE;obtain⟨u,v,rfl,h1,h2⟩:=Dj eE;obtain⟨t1,rfl,rfl⟩:=h1;obtain⟨t2,rfl,rfl⟩:=h2;have jn:=oE hb.2.1;have jb:=oE hb.2.2;rw[yv] at jn jb;rw[hf];refine (hc t1 t2 w (by rw[Lib.size_eq];lia) (by rw[Lib.size_eq];lia) (abe hb.1)).mono ?_
   rintro e w' ⟨rfl,hw⟩;refine⟨_,rfl,Kw hw,fun S=>Kx ?_⟩;simp only[Lib.trimS,Lib.trimLeftS,Lib.trimRightS];rw[<-yav,Up,<-yav,Up]
 .cases h
def als(hf:O.ah n=f)(gA:∀args w,(callFunc f args).run O.P w=.ok (.enter f args) w)(hc:∀(s:ByteArray) (c:Nat) (w:ym),c<=9223372036854775807->s.size*c<=140737488355328->wE O.P f #[.string s,.int .i64 c] w fun e w'=>e=.returned (.string ⟨(Lib.repeatL s.data.toList c).toArray⟩)/\RowKit.Below w.heap.size w w'):
  ∀aw r,CV aw=GW r->eR O n aw r:=by
 intro aw r h;unfold CV at h
 split at h
 .rename_i s c
  cases hb:(yJ c 1099511627776&&yJ (s.length*c) 1099511627776) with
  | false=>rw[hb] at h;cases h
  | true=>
   rw[hb] at h;simp only[yC,yd] at h;subst h;simp only[ye] at hb;have l1:=yu hb.1;have l2:=yu hb.2;refine qZ KZ (by rw[hf];exact gA) ?_
   intro w S args hg eE;obtain⟨u,v,rfl,h1,h2⟩:=Dj eE;obtain⟨t1,rfl,rfl⟩:=h1;subst h2;rw[hf];rw[yv] at l2;refine (hc t1 c w (by lia) (by rw[Lib.size_eq];lia)).mono ?_
   rintro e w' ⟨rfl,hw⟩;exact⟨_,rfl,Kw hw,fun S=>Kx (acK _ _).symm⟩
 .cases h
def aou(hf:O.ah n=f)(gA:∀args w,(callFunc f args).run O.P w=.ok (.enter f args) w)(hc:∀(z:Int) (w:ym),-9223372036854775808<=z->z<=9223372036854775807->De O w->wE O.P f #[.int .i64 z] w fun e w'=>e=.returned (.string ⟨(Lib.itoa z).toArray⟩)/\Calm w w'):
  ∀aw r,Mr aw=GW r->eR O n aw r:=by
 intro aw r h;unfold Mr at h
 split at h
 .rename_i z
  cases hb:Di z with
  | false=>rw[hb] at h;cases h
  | true=>
   rw[hb] at h;simp only[yC,yd] at h;subst h;have hz: -9223372036854775808<=z/\z<=9223372036854775807:=by
    cases z with
    | ofNat k=>have:=oE hb;show -9223372036854775808<=(k:Int)/\(k:Int)<=9223372036854775807;lia
    | negSucc k=>have:=oE hb;lia
   refine qZ KZ (by rw[hf];exact gA) ?_
   intro w S args hg eE;obtain⟨u,rfl,h1⟩:=Ib eE;subst h1;rw[hf];refine (hc z w hz.1 hz.2 hg).mono ?_;rintro e w' ⟨rfl,hw⟩;exact⟨_,rfl,hw,fun S=>Kx (aor z).symm⟩
 .cases h
def aki(hf:O.ah n=f)(gA:∀args w,(callFunc f args).run O.P w=.ok (.enter f args) w)(hc:∀(z:Nat) (w:ym),z<18446744073709551616->De O w->wE O.P f #[.int .u64 z,.int .i64 10] w fun e w'=>e=.returned (.string ⟨(Lib.decDigits z).toArray⟩)/\Calm w w'):
  ∀aw r,CB aw=GW r->eR O n aw r:=by
 intro aw r h;unfold CB at h
 split at h
 .rename_i z
  cases hb:yP z 18446744073709551616 with
  | false=>rw[hb] at h;cases h
  | true=>
   rw[hb] at h;simp only[yC,yd] at h;subst h;refine qZ KZ (by rw[hf];exact gA) ?_
   intro w S args hg eE;obtain⟨u,v,rfl,h1,h2⟩:=Dj eE;subst h1;subst h2;rw[hf];refine (hc z w (oE hb) hg).mono ?_;rintro e w' ⟨rfl,hw⟩;exact⟨_,rfl,hw,fun S=>Kx (UP z).symm⟩
 .cases h
def aov(hf:O.ah n=f)(gA:∀args w,(callFunc f args).run O.P w=.ok (.enter f args) w)(hc:∀(s:ByteArray) (z:Int) (w:ym),s.size<=18->Lib.atoi s.data.toList=GW z->wE O.P f #[.string s] w fun e w'=>e=.returned (.tuple #[.int .i64 z,.nilIface])/\Calm w w'):
  ∀aw r,Ms aw=GW r->eR O n aw r:=by
 intro aw r h;unfold Ms at h
 split at h
 .rename_i s
  cases hb:(yP 0 s.length&&yJ s.length 18) with
  | false=>rw[hb] at h;cases h
  | true=>
   rw[hb] at h;simp only[yC] at h;simp only[ye] at hb;have l1:=oE hb.1;have l2:=yu hb.2
   split at h
   .rename_i z hz;simp only[yd] at h;subst h;refine qZ (Hd (by simp[aQ])) (by rw[hf];exact gA) ?_
    intro w S args hg eE;obtain⟨u,rfl,h1⟩:=Ib eE;obtain⟨t1,rfl,rfl⟩:=h1;rw[yv] at l1 l2;have ha:Lib.atoi t1.data.toList=GW (z:Int):=aos hz l1;rw[hf];refine (hc t1 z w (by rw[Lib.size_eq];exact l2) ha).mono ?_
    simp only[aj,aB]
    grind
   .cases h
 .cases h
def amw(hf:O.ah n=f)(gA:∀args w,(callFunc f args).run O.P w=.ok (.enter f args) w)(hc:∀(x y:Nat) (w:ym),x<18446744073709551616->y<18446744073709551616->wE O.P f #[.int .u64 x,.int .u64 y] w fun e w'=>e=.returned (.tuple #[.int .u64 ((x*y/18446744073709551616:Nat):Int),.int .u64 ((x*y%18446744073709551616:Nat):Int)])/\w'=w):
  ∀aw r,Al aw=GW r->eR O n aw r:=by
 intro aw r h;unfold Al at h
 split at h
 .rename_i x y
  cases hb:(yP x 18446744073709551616&&yP y 18446744073709551616) with
  | false=>rw[hb] at h;cases h
  | true=>
   rw[hb] at h;simp only[yC,yd] at h;subst h;simp only[ye] at hb;refine qZ (Hd (by simp[aQ])) (by rw[hf];exact gA) ?_
   intro w S args hg eE;obtain⟨u,v,rfl,h1,h2⟩:=Dj eE;subst h1;subst h2;rw[hf];refine (hc x y w (oE hb.1) (oE hb.2)).mono ?_;rintro e w' ⟨rfl,rfl⟩;refine⟨_,rfl,Calm.refl,fun S=>?_⟩;simp only[aj,aB]
   grind
 .cases h
def amx(hf:O.ah n=f)(gA:∀args w,(callFunc f args).run O.P w=.ok (.enter f args) w)(hc:∀(x:Int) (w:ym),0<=x->x<=18446744073709551615->wE O.P f #[.int .u64 x] w fun e w'=>e=.returned (.int .i64 (Lib.bitLen x.toNat:Nat))/\w'=w):
  ∀aw r,Lg aw=GW r->eR O n aw r:=by
 intro aw r h;unfold Lg at h
 split at h
 .rename_i x
  cases hb:yP x 18446744073709551616 with
  | false=>rw[hb] at h;cases h
  | true=>
   rw[hb] at h;simp only[yC,yd] at h;subst h
   have:=oE hb
   refine qZ Vj (by rw[hf];exact gA) ?_
   intro w S args hg eE;obtain⟨u,rfl,h1⟩:=Ib eE;subst h1;rw[hf];refine (hc (ybA x) w (yat x) (by show (x:Int)<=_;lia)).mono ?_
   rintro e w' ⟨rfl,rfl⟩;refine⟨_,rfl,Calm.refl,fun S=>?_⟩;rw[UQ];rfl
 .cases h
def aow(hf:O.ah n=f)(gA:∀args w,(callFunc f args).run O.P w=.ok (.enter f args) w)(hc:∀(x:Int) (w:ym),0<=x->x<=18446744073709551615->wE O.P f #[.int .u64 x] w fun e w'=>e=.returned (.int .i64 (64-(Lib.bitLen x.toNat:Nat)))/\w'=w):
  ∀aw r,Ia aw=GW r->eR O n aw r:=by
 intro aw r h;unfold Ia at h
 split at h
 .rename_i x
  cases hb:yP x 18446744073709551616 with
  | false=>rw[hb] at h;cases h
  | true=>
   rw[hb] at h;simp only[yC,yd] at h;subst h
   have:=oE hb
   have hle:∀f x,Lib.bitLenAux f x<=f:=by
    intro f
    induction f with
    | zero=>intro x;exact yz _
    | succ f ih=>
     intro x;rw[Lib.bitLenAux]
     grind
   refine qZ Vj (by rw[hf];exact gA) ?_
   intro w S args hg eE;obtain⟨u,rfl,h1⟩:=Ib eE;subst h1;rw[hf];refine (hc (ybA x) w (yat x) (by show (x:Int)<=_;lia)).mono ?_
   rintro e w' ⟨rfl,rfl⟩;refine⟨_,rfl,Calm.refl,fun S=>?_⟩;simp only[aj,UQ];show Value.int .i64 (64-(Lib.bitLenAux 64 x:Int))=Value.int .i64 ((64-Lib.bitLenAux 64 x:Nat):Int)
   grind
 .cases h
def akJ(hf:O.ah n=f)(hc:∀(b:Nat) (w:ym),(callFunc f #[.float .f64 b]).run O.P w=.ok (.value (.int .u64 b)) w):
  ∀aw r,UO aw=GW r->eR O n aw r:=by
 intro aw r h;unfold UO at h
 split at h
 .rename_i b;simp only[yd] at h;subst h;refine Po Vj ?_;intro w S args eE;obtain⟨u,rfl,h1⟩:=Ib eE;simp only[aj] at h1;subst h1;rw[hf];exact⟨_,hc b w,fun S=>rfl⟩
 .cases h
def ake(hf:O.ah n=f)(hc:∀(b:Nat) (w:ym),(callFunc f #[.int .u64 b]).run O.P w=.ok (.value (.float .f64 b)) w):
  ∀aw r,TG aw=GW r->eR O n aw r:=by
 intro aw r h;unfold TG at h
 split at h
 .rename_i b;simp only[yd] at h;subst h;refine Po aqm ?_;intro w S args eE;obtain⟨u,rfl,h1⟩:=Ib eE;simp only[aj] at h1;subst h1;rw[hf];exact⟨_,hc b w,fun S=>rfl⟩
 .cases h
def amy(hf:O.ah n=f)(hc:∀(x y c:Nat) (w:ym),c<=1->(callFunc f #[.int .u64 x,.int .u64 y,.int .u64 c]).run O.P w=.ok (.value (.tuple #[.int .u64 (((x+y+c)%18446744073709551616:Nat):Int),.int .u64 (((x+y+c)/18446744073709551616:Nat):Int)])) w):
  ∀aw r,pO aw=GW r->eR O n aw r:=by
 intro aw r h;unfold pO at h
 split at h
 .rename_i x y c
  cases hb:(yJ c 1&&(yP x 18446744073709551616&&yP y 18446744073709551616)) with
  | false=>rw[hb] at h;cases h
  | true=>
   rw[hb] at h;simp only[yC,yd] at h;subst h;simp only[ye] at hb;refine Po (Hd (by simp[aQ])) ?_;intro w S args eE;obtain⟨u,v,z,rfl,h1,h2,h3⟩:=ae7 eE;subst h1;subst h2;subst h3;rw[hf];refine⟨_,hc x y c w (yu hb.1),fun S=>?_⟩;simp only[aj,aB]
   grind
 .cases h
def amz(hf:O.ah n=f)(hc:∀(x y b:Nat) (w:ym),b<=1->(callFunc f #[.int .u64 x,.int .u64 y,.int .u64 b]).run O.P w=.ok (.value (.tuple #[.int .u64 (((x+18446744073709551616-y-b)%18446744073709551616:Nat):Int),.int .u64 ((if x<y+b then 1 else 0:Nat):Int)])) w):
  ∀aw r,C1 aw=GW r->eR O n aw r:=by
 intro aw r h;unfold C1 at h
 split at h
 .rename_i x y c
  cases hb:(yJ c 1&&(yP x 18446744073709551616&&yP y 18446744073709551616)) with
  | false=>rw[hb] at h;cases h
  | true=>
   rw[hb] at h;simp only[yC,yd] at h;subst h;simp only[ye] at hb;have dW:=yu hb.1;have hy:=oE hb.2.2;refine Po (Hd (by simp[aQ])) ?_;intro w S args eE;obtain⟨u,v,z,rfl,h1,h2,h3⟩:=ae7 eE;subst h1;subst h2;subst h3;rw[hf];refine⟨_,hc x y c w dW,fun S=>?_⟩;simp only[aj,aB];refine⟨_,rfl,_,_,rfl,?_,_,_,rfl,?_,rfl⟩
   .grind
   .congr 1
    by_cases h:x<y+c
    .have:yJ (y+c) x=ycO:=by
      cases hq:yJ (y+c) x with
      | false=>rfl
      | true=>have:=yu hq;lia
     grind
    .rw [yB (by lia),yI h];rfl
 .cases h
end
end
end
end
end VE
