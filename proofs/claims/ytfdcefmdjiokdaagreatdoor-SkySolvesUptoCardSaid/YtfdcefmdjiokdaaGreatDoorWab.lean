import Derived.OrdersIn
import Derived.LoopNIn
import Derived.RangeFuncIn
import Derived.Lib.Index
import Derived.Lib.ItoaNum
import Derived.Lib.Atoi
import Derived.Lib.BitFns
import Derived.Lib.Repeat
import Derived.Lib.SlTrimSet
import Derived.Shelf.Strings.Cut
import Derived.Shelf.Strings.Prefix
import Derived.Shelf.Small.Bits
import Derived.RowKit
import Derived.Test.YtfdcefmdjiokdaaGreatDoorWaa
set_option linter.all false
set_option maxRecDepth 100000
open Array renaming getD_eq_getD_getElem?->vB,getElem?_eq_some_iff->xT,replicate->uH
open Bool renaming and_eq_true->yj,false_eq_true->yH,not_eq_true'->tn,or_eq_false_iff->yaQ,or_eq_true->yah
open Classical renaming em->uX
open Go renaming Call->yaG,Calls->wH,Code->vG,Deferred->yai,Exit->td,Func->yaF,FuncId->tL,LeavesInM->ycB,Loop->uW,Obj->yaf,Oper->xk,Operand->xN,Program->xM,ResultVar->ycz,Value->yr,World->yt
open Int renaming natCast_nonneg->yaq,ofNat->ybG
open List renaming countP_cons->ybA,getD_eq_getElem?_getD->yW,getElem?_cons_zero->uo,getElem?_eq_some_iff->vt,length_append->yE,length_cons->yB,length_map->yg,length_nil->yI,mapM_cons->uP,map_append->yX,map_cons->yS,map_reverse->yaz,mem_append->wm,mem_cons->wj,mem_cons_of_mem->xi,mem_cons_self->xA
open Nat renaming beq->yG,ble->yO,ble_eq_true_of_le->yC,blt->yU,eq_of_beq_eq_true->yz,eq_or_lt_of_le->vN,eq_zero_or_pos->xE,le_of_ble_eq_true->yF,le_of_lt_succ->yay,le_refl->ym,le_trans->xB,lt_of_lt_of_le->yT,lt_or_ge->ua,strongRecOn->vX,testBit->tz,zero_add->yd,zero_le->uO
open Ne renaming symm->ycA
open Option renaming bind_some->wR,getD_some->vQ
open Option.some renaming injEq->yc
open Prod.mk renaming injEq->yD
open UInt8 renaming ofNat->ybZ,toNat->xp,toNat_ofNat'->yaT
open Option renaming some->Ix,none->Iy
open Bool renaming true->ycO,false->ycP
namespace VE
open Go (IntKind)
variable{v:AV}{listed:Array Bool}{pe:C9}{tm:Env}{ex:Ex}{aq hp:Hp}{L:Lib}{rs:List (Nat×Bool×Nat)}{Tn:List AV}{acc:List Nat}{m':Mp}{base bc ct:Nat}{S S':Nat->Prop}{ro:Option Nat}{p:Pl}{s' s1:St}{b' body cX:VC}{P:aJ}{self:cG}
section
open Go
section
variable {bm:Hp}{cap first az:List AV}{g:Nat}
section
variable {O:bC}{H:Hint}{m:Mp}{S:Nat->Prop}{w:yt}{tm:Env}{a:Act}{hp aq Hq:Hp}{ct bc cH:Nat}{self:cG}{ro:Option Nat}{next:Act->yt->Prop}{Q:td->Act->yt->Prop}
def arA{g:yaf}(hh:aW O m S w Hq cH)(hi:m ct=Iy)(hb:p.b=w.heap.size)(h1:∀b,S b->S' b)(h2:∀b,S' b->S b\/b=w.heap.size):
  cE m S w Hq (hZ m ct p) S' (w.alloc g) Hq base where
 os:=rfl
 tape:=rfl
 output:=rfl
 size:=by simp
 same b hb _:=alloc_old hb
 sub:=h1
 still b hb:=alloc_old (hh.slt b hb)
 new b hb:=(h2 b hb).imp (fun h=>h) (fun h=>.inr (by lia))
 own b hb:=by
  have⟨i,o,q,g1,g2,g3⟩:=hb;by_cases hc:i=ct
  .subst hc;rw[fk] at g2
   grind
  .rw [fj hc] at g2;exact .inl ⟨i,o,q,g1,g2,g3⟩
 old i q _ h:=nU hi i q h
 loops b r hb:=⟨r,(alloc_old (xT.1 hb).1).trans hb⟩
def aeG{us:List yr}(hz:cm deep hp Tn=Ix (az,bm))(hl:dJ bm Hq)(hh:aW O m S w Hq cH)(hr:aE O.ai m S w Tn us):aE O.ai gC S w az us/\aD az=ycO:=by
 have⟨_,_,h3⟩:=Xn (O:=O) hz;have⟨k1,k2⟩:=h3 Hq m S w cH hl hh;exact⟨Cz (fun _ h=>h) (fun _ _=>rfl) _ _ k2 (k1 us hr),k2⟩
def YO(hh:aW O m S w Hq cH):EC O w:=⟨hh.nF,hh.iG⟩
def RW(hH:im O H)(ht:cp O m S w tm a.tmps){f:xN}{args:Array xN}(hf:aC tm (aS H f)=.fn (.f g) first cap):
  ∃fi ca:Array yr,a.eval f=.func (.func (O.ai g)) fi ca/\aE O.ai m S w (first++(dU tm (jy H args.toList)++cap)) (fi++args.map a.eval++ca).toList:=by
 have rf:=cO hH ht f;rw[hf] at rf;have⟨fi,ca,h1,h2,h3⟩:=rf;refine⟨fi,ca,h1,?_⟩
 have:=pL h2 (pL (Gw hH ht args.toList) h3)
 simp_all
def aqA(hC:sf O self)(hH:im O H){o:xk}{c:yaG}{f:xN}(ho:o.op=.call c)(kH:c.callee=.value f){r:AV}(hf:aC tm (aS H f)=.fn (.f g) first cap)(hz:cm deep hp (first++(dU tm (jy H c.args.toList)++cap))=Ix (az,bm))(hr:bM O.prog O.a8 self g az=Ix r)(hl:dJ bm Hq)(ht:cp O m S w tm a.tmps)(hh:aW O m S w Hq cH)(hn:∀u S' w',aW O m S' w' Hq cH->ak O.ai m S' w' (shut r) u->cE m S w Hq m S' w' Hq cH->next (a.put o.dst u) w'):o.wpIn (WF ro) 0 O.P a w next Q:=by
 have⟨fi,ca,h1,h2⟩:=RW hH ht (args:=c.args) hf;have⟨h3,h4⟩:=aeG hz hl hh h2;refine Ro ho kH h1 (hC.pure g az r hr w S _ (YO hh) hh.slt h3 h4) ?_;rintro e w' ⟨u,S',rfl,hw,g1,g2,g3,g4⟩;refine⟨u,rfl,?_⟩;have⟨S2,k1,k2,k3⟩:=afU g4 m;have hS:∀b,S b->S2 b:=fun b hb=>k1 b (g1 b hb)
 have PR:∀b,S2 b->S b\/w.heap.size<=b:=fun b hb=>(k2 b hb).elim (g2 b) (fun h=>.inr h.1)
 have hl:∀b,S2 b->b<w'.heap.size:=fun b hb=>(k2 b hb).elim (g3 b) (fun h=>h.2)
 exact hn u S2 w' (IM hh hw hS PR hl) k3 (Ge hh hw hS PR)
def arB(hC:sf O self)(hH:im O H){o:xk}{c:yaG}{f:xN}(ho:o.op=.call c)(kH:c.callee=.value f){r:AV}(hf:aC tm (aS H f)=.fn (.f g) first cap)(hz:cm deep hp (first++(dU tm (jy H c.args.toList)++cap))=Ix (az,bm))(hr:bM O.prog O.a8 self g az=Ix r)(hl:dJ (own bm ct r).2.1 Hq)(jF:(own bm ct r).2.2<=cH)(aY:∀id o,au hp id=Ix o->id<ct)(qM:∀id,ct<=id->id<(own bm ct r).2.2->m id=Iy)(ht:cp O m S w tm a.tmps)(hh:aW O m S w Hq cH)(hn:∀u m' S' w',aW O m' S' w' Hq cH->dY m m'->(∀id p,m' id=Ix p->m id=Ix p\/(ct<=id/\id<(own bm ct r).2.2))->ak O.ai m' S' w' (own bm ct r).1 u->cE m S w Hq m' S' w' Hq cH->next (a.put o.dst u) w'):
  o.wpIn (WF ro) 0 O.P a w next Q:=by
 have⟨fi,ca,h1,h2⟩:=RW hH ht (args:=c.args) hf;have⟨z1,z2,z3⟩:=Xn (O:=O) hz;have aaD:∀id o,au bm id=Ix o->id<ct:=fun id o h=>by
  have:=z2 id
  rw[h] at this
  cases hq:au hp id with
  | none=>rw[hq] at this;cases this
  | some q=>exact aY id q hq
 have ayt:∀id o,au bm id=Ix o->au (own bm ct r).2.1 id=Ix o:=fun id o h=>by
  cases r with
  | ax vs=>exact Sy aaD id o h
  | _=>exact YN aaD id o h
 have qG:dJ bm Hq:=fun id o h=>hl id o (ayt id o h)
 have⟨h3,h4⟩:=aeG hz qG hh h2;refine Ro ho kH h1 (hC.pure g az r hr w S _ (YO hh) hh.slt h3 h4) ?_;rintro e w' ⟨u,S',rfl,hw,g1,g2,g3,g4⟩;refine⟨u,rfl,?_⟩;have Fy:=IM hh hw g1 g2 g3;have rL:=Ge (base:=cH) hh hw g1 g2;have⟨m',S2,k1,k2,k3,k4,k5,k6⟩:=ays (lo:=w.heap.size) Fy hl jF aaD qM g4 hh.iG (fun j q hq=>hh.blt j q hq);refine hn u m' S2 w' k1 k2 (fun id p h=>(k3 id p h).imp (fun h=>h) (fun h=>⟨h.1,h.2.1⟩)) k4 ⟨hw.os,hw.tape,hw.output,hw.size,fun b hb _=>hw.same b hb,fun b hb=>k5 b (g1 b hb),fun b hb=>hw.same b (hh.slt b hb),?_,?_,fun i q _ h=>k2 i q h,rL.loops⟩
 .grind
 .rintro b ⟨i,ob,q,q1,q2,q3⟩;rcases k3 i q q2 with h | h
  .exact .inl ⟨i,ob,q,q1,h,q3⟩
  .grind
def quiet_step(hC:sf O self)(hH:im O H){o:xk}{q:Op}(hk:bG q<=1)(hq:Db O.P H q o)(hd:∀c,o.op≠.defer c)(hv:bq O.prog O.a8 self tm hp ct q=Ix (v,aq,bc))(hl:dJ aq Hq)(jF:bc<=cH)(aY:∀id o,au hp id=Ix o->id<ct)(qM:∀id,ct<=id->id<bc->m id=Iy)(ht:cp O m S w tm a.tmps)(hh:aW O m S w Hq cH)(hn:∀u m' S' w',aW O m' S' w' Hq cH->dY m m'->(∀id p,m' id=Ix p->m id=Ix p\/(ct<=id/\id<bc))->ak O.ai m' S' w' v u->cE m S w Hq m' S' w' Hq cH->next (a.put o.dst u) w'):
  o.wpIn (WF ro) 0 O.P a w next Q:=by
 have mM:∃k,q=bn O.P H k o:=by
  rcases hq with h | ⟨c,f,rs,_,_,rfl⟩ | ⟨_,_,_,_,_,_,_,rfl⟩
  .grind
  .simp [bG] at hk
  .simp [bG] at hk
 obtain⟨k,hq⟩:=mM;have read:∀{v:AV},bB tm hp q=Ix v->dJ hp Hq->(∀u m' S' w',aW O m' S' w' Hq cH->dY m m'->(∀id p,m' id=Ix p->m id=Ix p\/(ct<=id/\id<bc))->ak O.ai m' S' w' v u->cE m S w Hq m' S' w' Hq cH->next (a.put o.dst u) w')->o.wpIn (WF ro) 0 O.P a w next Q:=by
  intro v hr hl hn;have bt:=aru hl hr;rw[hq] at bt;obtain⟨u,h1,h2⟩:=ah4 hH ht hh bt;exact SX hd h1 (.inl rfl) (hn u m S w hh dY.refl (fun _ _ h=>.inl h) h2 cE.refl)
 have makes:∀{v:AV} {b:Obj},dh tm hp ct q=Ix (v,b)->dJ ((ct,b)::hp) Hq->ct+1<=cH->m ct=Iy->(∀u m' S' w',aW O m' S' w' Hq cH->dY m m'->(∀id p,m' id=Ix p->m id=Ix p\/(ct<=id/\id<ct+1))->ak O.ai m' S' w' v u->cE m S w Hq m' S' w' Hq cH->next (a.put o.dst u) w')->o.wpIn (WF ro) 0 O.P a w next Q:=by
  intro v b hr hl hc hi hn;rw[hq] at hr;have bt:dh tm Hq ct (bn O.P H k o)=Ix (v,b):=by rw[<-hr];exact MD (fun _ _=>rfl)
  obtain⟨u,g,p,h1,h2,h3,h4⟩:=avO hH ht hh bt;obtain⟨S',k1,k2,k3⟩:=agM (i:=ct) (g:=g) (p:=p) hh hi hc h2 (fun o' oD=>by
   obtain⟨o'',g1,g2⟩:=hl ct b (by rw[jK];simp)
   rw[oD] at g1;injection g1 with g1
   subst g1
   have:=aeD g2 fk (h4 _ (nU hi) fk).1 h3
   rwa[h2] at this)
  refine SX hd h1 (.inl rfl) (hn u _ S' _ k1 (nU hi) (fun id q hq=>?_) (pN (fun _ _ h=>h) k2 (fun _ _=>rfl) _ _ (h4 _ (nU hi) fk).2) (arA hh hi h2 k2 k3));by_cases hc:id=ct
  .grind
  .rw [fj hc] at hq;exact .inl hq
 have ck:∀{q:Op},(match dh tm hp ct q with | some (v,b)=>Ix (v,(ct,b)::hp,ct+1) | none=>(Iy:iS))=Ix (v,aq,bc)->∃b,dh tm hp ct q=Ix (v,b)/\aq=(ct,b)::hp/\bc=ct+1:=by
  intro q h
  cases hm:dh tm hp ct q with
  | none=>simp[hm] at h
  | some r=>
   grind
 have pD:∀{q:Op},(match bB tm hp q with | some v=>Ix (v,hp,ct) | none=>(Iy:iS))=Ix (v,aq,bc)->bB tm hp q=Ix v/\aq=hp/\bc=ct:=by
  intro q h
  cases hm:bB tm hp q with
  | none=>simp[hm] at h
  | some r=>
   grind
 have Nw:(∃b,dh tm hp ct q=Ix (v,b)/\aq=(ct,b)::hp/\bc=ct+1)->o.wpIn (WF ro) 0 O.P a w next Q:=by
  grind
 have ayu:(bB tm hp q=Ix v/\aq=hp/\bc=ct)->o.wpIn (WF ro) 0 O.P a w next Q:=by
  grind
 cases q with
 | st _ _ _=>simp[bG] at hk
 | sN _ _ _ _=>simp[bG] at hk
 | Ac _=>simp[bG] at hk
 | kD _ _ _ _=>simp[bG] at hk
 | rK _ _ _=>simp[bG] at hk
 | lY _ _ _=>simp[bG] at hk
 | oA _ _ _ _=>simp[bG] at hk
 | box s x=>exact Nw (ck (by simp only[bq] at hv;exact hv))
 | sD n s z ps=>exact Nw (ck (by simp only[bq] at hv;exact hv))
 | sM s b z x y=>exact Nw (ck (by simp only[bq] at hv;exact hv))
 | Du=>exact Nw (ck (by simp only[bq] at hv;exact hv))
 | Ab x=>exact Nw (ck (by simp only[bq] at hv;exact hv))
 | call md x xs=>
  cases md with
  | heap=>simp[bG] at hk
  | dyn=>simp[bG] at hk
  | pure=>
   simp only[bq,fP] at hv
   split at hv
   .rename_i g first cap hx
    (try simp only at hv)
    cases hz:cm deep hp (first++(dU tm xs++cap)) with
    | none=>simp[hz] at hv
    | some z=>
     obtain⟨az,bm⟩:=z;simp only[hz] at hv
     cases hr:bM O.prog O.a8 self g az with
     | none=>simp[hr] at hv
     | some r=>
      simp only[hr,yc,yD] at hv;obtain⟨rfl,rfl,rfl⟩:=hv;obtain⟨c,f,ho,kH,rfl,rfl⟩:=Sz hq.symm (by rintro rfl;simp[aC] at hx);exact aqA hC hH ho kH hx hz hr hl ht hh (fun u S' w' h1 h2 h3=>hn u m S' w' h1 dY.refl (fun _ _ h=>.inl h) h2 h3)
   .simp at hv
   .cases hv
  | own=>
   simp only[bq,fP] at hv
   split at hv
   .rename_i g first cap hx
    (try simp only at hv)
    cases hz:cm deep hp (first++(dU tm xs++cap)) with
    | none=>simp[hz] at hv
    | some z=>
     obtain⟨az,bm⟩:=z;simp only[hz] at hv
     cases hr:bM O.prog O.a8 self g az with
     | none=>simp[hr] at hv
     | some r=>
      simp only[hr,yc] at hv;obtain⟨c,f,ho,kH,rfl,rfl⟩:=Sz hq.symm (by rintro rfl;simp[aC] at hx);have e1:v=(own bm ct r).1:=by rw[hv]
      have e2:aq=(own bm ct r).2.1:=by rw[hv]
      have e3:bc=(own bm ct r).2.2:=by rw[hv]
      subst e1;subst e2;subst e3;exact arB hC hH ho kH hx hz hr hl jF aY qM ht hh hn
   .simp at hv
   .cases hv
 | _=>exact ayu (pD (by simp only[bq] at hv;exact hv))
end
end
end
section
open Go
section
variable {r v:AV}{sz:Nat}{q:Op}{P:xM}{x y:X}
section
variable {O:bC}{H:Hint}{m:Mp}{S:Nat->Prop}{w:yt}{tm:Env}{a:Act}{hp aq:Hp}{ct bc:Nat}{self:cG}{ro:Option Nat}{next:Act->yt->Prop}{Q:td->Act->yt->Prop}
def cE.BT{w':yt}{b b':Nat}(h:cE m S w hp m' S' w' aq b)(hb:b'<=b):cE m S w hp m' S' w' aq b':=
 ⟨h.os,h.tape,h.output,h.size,h.same,h.sub,h.still,h.new,h.own,fun i q hi hq=>h.old i q (by lia) hq,h.loops⟩
def ayv{hp:Hp}{ct:Nat}(aY:∀id o,au hp id=Ix o->id<ct):∀id o,au (own hp ct r).2.1 id=Ix o->id<(own hp ct r).2.2:=by
 have hL:∀(vs:List AV) (hp:Hp) (ct:Nat),(∀id o,au hp id=Ix o->id<ct)->∀id o,au (mL hp ct vs).2.1 id=Ix o->id<(mL hp ct vs).2.2:=by
  intro vs
  induction vs with
  | nil=>intro hp ct h id o ho;exact h id o ho
  | cons v r ih=>intro hp ct h id o ho;exact ih _ _ (Nc h) id o ho
 cases r with
 | ax vs=>exact hL vs hp ct aY
 | _=>exact Nc aY
def ayw{hp:Hp}{ct:Nat}(aY:∀id o,au hp id=Ix o->id<ct):∀id o,au hp id=Ix o->au (own hp ct r).2.1 id=Ix o:=by
 cases r with
 | ax vs=>exact Sy aY
 | _=>exact YN aY
def ayx{hp:Hp}{ct:Nat}:ct<=(own hp ct r).2.2:=by
 cases r with
 | ax vs=>exact Sx
 | _=>exact Sw
def atw{hp:Hp}{ct:Nat}:∀id o,au (own hp ct r).2.1 id=Ix o->id<ct->au hp id=Ix o:=by
 have h1:∀(hp:Hp) (ct:Nat) (r:AV) id o,au (gS hp ct r).2.1 id=Ix o->id<ct->au hp id=Ix o:=by
  intro hp ct r id o h hc;cases r<;>simp only[gS] at h<;>try exact h
  rw[jK,yx (by lia)] at h;exact h
 have hL:∀(vs:List AV) (hp:Hp) (ct:Nat) id o,au (mL hp ct vs).2.1 id=Ix o->id<ct->au hp id=Ix o:=by
  intro vs
  induction vs with
  | nil=>intro hp ct id o ho _;exact ho
  | cons v r ih=>intro hp ct id o ho hc;exact h1 hp ct v id o (ih _ _ id o ho (by have:=Sw (hp:=hp) (ct:=ct) (r:=v);lia)) hc
 cases r with
 | ax vs=>exact hL vs hp ct
 | _=>exact h1 hp ct _
structure jX(hp:Hp)(ct:Nat)(aq:Hp)(bc:Nat):Prop where
 le:dJ hp aq
 Ae:ct<=bc
 lt:∀id o,au aq id=Ix o->id<bc
 back:∀id o,au aq id=Ix o->id<ct->∃o',au hp id=Ix o'
def jX.refl(aY:∀id o,au hp id=Ix o->id<ct):jX hp ct hp ct:=⟨dJ.refl,ym _,aY,fun _ o h _=>⟨o,h⟩⟩
def jX.trans{OA:Hp}{alG:Nat}(h:jX hp ct aq bc)(k:jX aq bc OA alG):jX hp ct OA alG:=
 ⟨h.le.trans k.le,xB h.Ae k.Ae,k.lt,fun id o ho hi=>let ⟨o1,h1⟩:=k.back id o ho (yT hi h.Ae);h.back id o1 h1 hi⟩
def afY{az:List AV}{bm:Hp}(hz:cm deep hp Tn=Ix (az,bm))(aY:∀id o,au hp id=Ix o->id<ct):jX hp ct bm ct:=by
 have⟨z1,z2,_⟩:=Xn (O:=⟨default,⟨fun _=>Iy,fun _=>Iy⟩,fun _=>0,fun _=>Iy,fun _=>⟨0,fun _=>Iy,fun _=>[],fun _=>Iy,fun _=>.pure,fun _=>[]⟩,default⟩) hz;have hb:∀id o,au bm id=Ix o->∃o',au hp id=Ix o':=fun id o h=>by
  have:=z2 id
  rw[h] at this
  cases hq:au hp id with
  | none=>rw[hq] at this;cases this
  | some q=>exact⟨q,rfl⟩
 exact⟨z1,ym _,fun id o h=>let ⟨o',h'⟩:=hb id o h;aY id o' h',fun id o h _=>hb id o h⟩
def arC(aY:∀id o,au hp id=Ix o->id<ct):jX hp ct (own hp ct r).2.1 (own hp ct r).2.2:=
 ⟨fun id o h=>⟨o,ayw aY id o h,mj.refl o⟩,ayx,ayv aY,fun id o h hi=>⟨o,atw id o h hi⟩⟩
def aeH{P:aJ}(hk:bG q<=1)(hv:bq P L self tm hp ct q=Ix (v,aq,bc))(aY:∀id o,au hp id=Ix o->id<ct):jX hp ct aq bc:=by
 have ck:∀{q:Op},(match dh tm hp ct q with | some (v,b)=>Ix (v,(ct,b)::hp,ct+1) | none=>(Iy:iS))=Ix (v,aq,bc)->jX hp ct aq bc:=by
  intro q h
  cases hm:dh tm hp ct q with
  | none=>simp[hm] at h
  | some r=>
   obtain⟨v1,b⟩:=r;simp only[hm,yc,yD] at h;obtain⟨rfl,rfl,rfl⟩:=h;refine⟨fun id o ho=>⟨o,?_,mj.refl o⟩,by omega,fun id o ho=>?_,fun id o ho hi=>?_⟩
   .rw [jK,yx (by have:=aY id o ho;omega)];exact ho
   .rw [jK] at ho
    grind
   .rw [jK,yx (by omega)] at ho;exact⟨o,ho⟩
 have pD:∀{q:Op},(match bB tm hp q with | some v=>Ix (v,hp,ct) | none=>(Iy:iS))=Ix (v,aq,bc)->jX hp ct aq bc:=by
  intro q h
  cases hm:bB tm hp q with
  | none=>simp[hm] at h
  | some r=>
   simp only[hm,yc,yD] at h;obtain⟨rfl,rfl,rfl⟩:=h;exact jX.refl aY
 cases bO:q with
 | st _ _ _=>simp[bO,bG] at hk
 | sN _ _ _ _=>simp[bO,bG] at hk
 | Ac _=>simp[bO,bG] at hk
 | kD _ _ _ _=>simp[bO,bG] at hk
 | rK _ _ _=>simp[bO,bG] at hk
 | lY _ _ _=>simp[bO,bG] at hk
 | oA _ _ _ _=>simp[bO,bG] at hk
 | box s x=>exact ck (q:=q) (by rw[bO] at hv ⊢;simp only[bq] at hv;exact hv)
 | sD n s z ps=>exact ck (q:=q) (by rw[bO] at hv ⊢;simp only[bq] at hv;exact hv)
 | sM s b z x y=>exact ck (q:=q) (by rw[bO] at hv ⊢;simp only[bq] at hv;exact hv)
 | Du=>exact ck (q:=q) (by rw[bO] at hv ⊢;simp only[bq] at hv;exact hv)
 | Ab x=>exact ck (q:=q) (by rw[bO] at hv ⊢;simp only[bq] at hv;exact hv)
 | call md x xs=>
  subst bO;simp only[bq,fP] at hv
  split at hv
  .rename_i g first cap hx
   cases md with
   | heap=>simp[bG] at hk
   | dyn=>simp[bG] at hk
   | pure=>
    simp only at hv
    cases hz:cm deep hp (first++(dU tm xs++cap)) with
    | none=>simp[hz] at hv
    | some z=>
     obtain⟨az,bm⟩:=z;simp only[hz] at hv
     cases hr:bM P L self g az with
     | none=>simp[hr] at hv
     | some r=>
      simp only[hr,yc,yD] at hv;obtain⟨rfl,rfl,rfl⟩:=hv;exact afY hz aY
   | own=>
    simp only at hv
    cases hz:cm deep hp (first++(dU tm xs++cap)) with
    | none=>simp[hz] at hv
    | some z=>
     obtain⟨az,bm⟩:=z;simp only[hz] at hv
     cases hr:bM P L self g az with
     | none=>simp[hr] at hv
     | some r=>
      simp only[hr,yc] at hv;have e2:aq=(own bm ct r).2.1:=by rw[hv]
      have e3:bc=(own bm ct r).2.2:=by rw[hv]
      subst e2;subst e3;have g1:=afY hz aY;exact g1.trans (arC g1.lt)
  .cases md with
   | heap=>simp[bG] at hk
   | dyn=>simp[bG] at hk
   | _=>simp at hv
  .cases hv
 | _=>exact pD (q:=q) (by rw[bO] at hv ⊢;simp only[bq] at hv;exact hv)
def RX(hh:aW O m S w hp ct)(hg:jX hp ct aq bc):∃S',aW O m S' w aq bc/\(∀b,S b->S' b)/\(∀b,S' b->S b\/fe m hp b)/\∀base,cE m S w hp m S' w aq base:=by
 have hd:∀id o p,au aq id=Ix o->m id=Ix p->∃o',au hp id=Ix o':=fun id o p h hm=>hg.back id o h (hh.lt id p hm)
 have⟨S',g1,g2,g3⟩:=ah5 hh hg.le hd hg.Ae hg.lt;refine⟨S',g1,g2,g3,fun base=>⟨rfl,rfl,rfl,ym _,fun _ _ _=>rfl,g2,fun _ _=>rfl,fun b hb=>(g3 b hb).imp (fun h=>h) .inl,?_,fun _ _ _ h=>h,fun _ r h=>⟨r,h⟩⟩⟩;rintro b ⟨i,o,p,h1,h2,h3⟩;have⟨o',h4⟩:=hd i o p h1 h2;exact .inl ⟨i,o',p,h4,h2,h3⟩
def atx(hv:du tm hp ct q=Ix (v,aq,bc)):ct<=bc:=by
 cases q<;>simp only[du,reduceCtorEq] at hv
 all_goals
  grind
def Yd{H:Hint}{o:xk}{xs:List X}(hq:Db P H (.lY rs x xs) o):∃c f,o.op=.call c/\c.callee=.value f/\x=aS H f/\xs=jy H c.args.toList:=by
 rcases hq with ⟨k,hk⟩ | ⟨c,f,rs',h1,h2,h3⟩ | ⟨_,_,_,_,_,_,_,h3⟩
 .cases ho:o.op with
  | call c=>
   obtain⟨callee,args,ts⟩:=c;simp only[bn,ho] at hk
   split at hk
   .grind
   .repeat' split at hk
    all_goals first
     | (cases hk;done)
     | (simp only[bad] at hk;cases hk;done)
     | (revert hk;generalize yG _ _=bb;intro hk;cases bb<;>simp[bad] at hk)
   .simp only [bad] at hk;cases hk
  | binOp op t x' y ty=>
   cases op<;>simp only[bn,ho,BB,CH] at hk
   case eql=>
         repeat' split at hk
         all_goals first
          | (cases hk;done)
          | (simp only[bad] at hk;cases hk;done)
          | (cases dd:(P.stoodInHeld t||P.eqGuardType P.depth t)<;>rw[dd] at hk<;>simp[bad] at hk)
   case neq=>
         repeat' split at hk
         all_goals first
          | (cases hk;done)
          | (simp only[bad] at hk;cases hk;done)
          | (cases dd:(P.stoodInHeld t||P.eqGuardType P.depth t)<;>rw[dd] at hk<;>simp[bad] at hk)
   all_goals cases hk
  | buildSlice t n parts=>
   simp only[bn,ho] at hk
   repeat' split at hk
   all_goals first
    | (cases hk;done)
    | (simp only[bad] at hk;cases hk;done)
    | (revert hk;generalize yO _ _=bb;intro hk;cases bb<;>simp[bad] at hk)
  | makeMap t r=>
   cases r<;>simp only[bn,ho] at hk
   .repeat' split at hk
    all_goals first
     | (cases hk;done)
     | (simp only[bad] at hk;cases hk;done)
   .simp only [bad] at hk;cases hk
  | next x' b=>
   cases b<;>simp only[bn,ho] at hk
   .simp only [bad] at hk;cases hk
   .cases hk
  | _=>
   simp only[bn,ho] at hk
   (repeat' split at hk)
   all_goals first
    | contradiction
    | (cases hk;done)
    | (simp only[bad] at hk;cases hk;done)
 .simp only [Op.lY.injEq] at h3;exact⟨c,f,h1,h2,h3.2.1,h3.2.2⟩
 .cases h3
def aqB{H:Hint}{o:xk}{k:Nat}(hk:Op.oA rs sz x y=bn P H k o):False:=by
 cases ho:o.op with
 | call c=>
  have⟨callee,args,ts⟩:=c;simp only[bn,ho] at hk
  split at hk
  .grind
  .repeat' split at hk
   all_goals first
    | (cases hk;done)
    | (simp only[bad] at hk;cases hk;done)
    | (revert hk;generalize yG _ _=bb;intro hk;cases bb<;>simp[bad] at hk)
  .simp only [bad] at hk;cases hk
 | binOp op t x' y ty=>
  cases op<;>simp only[bn,ho,BB,CH] at hk
  case eql=>
        repeat' split at hk
        all_goals first
         | (cases hk;done)
         | (simp only[bad] at hk;cases hk;done)
         | (cases dd:(P.stoodInHeld t||P.eqGuardType P.depth t)<;>rw[dd] at hk<;>simp[bad] at hk)
  case neq=>
        repeat' split at hk
        all_goals first
         | (cases hk;done)
         | (simp only[bad] at hk;cases hk;done)
         | (cases dd:(P.stoodInHeld t||P.eqGuardType P.depth t)<;>rw[dd] at hk<;>simp[bad] at hk)
  all_goals cases hk
 | buildSlice t n parts=>
  simp only[bn,ho] at hk
  repeat' split at hk
  all_goals first
   | (cases hk;done)
   | (simp only[bad] at hk;cases hk;done)
   | (revert hk;generalize yO _ _=bb;intro hk;cases bb<;>simp[bad] at hk)
 | makeMap t r=>
  cases r<;>simp only[bn,ho] at hk
  .repeat' split at hk
   all_goals first
    | (cases hk;done)
    | (simp only[bad] at hk;cases hk;done)
  .simp only [bad] at hk;cases hk
 | next x' b=>
  cases b<;>simp only[bn,ho] at hk
  .simp only [bad] at hk;cases hk
  .cases hk
 | _=>
  simp only[bn,ho] at hk
  (repeat' split at hk)
  all_goals first
   | contradiction
   | (cases hk;done)
   | (simp only[bad] at hk;cases hk;done)
def aBf{H:Hint}{o:xk}(hq:Db P H (.st sz x y) o):∃t x' y',o.op=.store t x' y'/\cY P t=Ix sz/\x=aS H x'/\y=aS H y':=by
 obtain⟨k,hk⟩:∃k,Op.st sz x y=bn P H k o:=by
  rcases hq with h | ⟨_,_,_,_,_,h⟩ | ⟨_,_,_,_,_,_,_,h⟩
  .grind
  .grind
  .cases h
 cases ho:o.op with
 | call c=>
  obtain⟨callee,args,ts⟩:=c;simp only[bn,ho] at hk
  split at hk
  .grind
  .repeat' split at hk
   all_goals first
    | (cases hk;done)
    | (simp only[bad] at hk;cases hk;done)
    | (revert hk;generalize yG _ _=bb;intro hk;cases bb<;>simp[bad] at hk)
  .simp only [bad] at hk;cases hk
 | binOp op t x' y ty=>
  cases op<;>simp only[bn,ho,BB,CH] at hk
  case eql=>
        repeat' split at hk
        all_goals first
         | (cases hk;done)
         | (simp only[bad] at hk;cases hk;done)
         | (cases dd:(P.stoodInHeld t||P.eqGuardType P.depth t)<;>rw[dd] at hk<;>simp[bad] at hk)
  case neq=>
        repeat' split at hk
        all_goals first
         | (cases hk;done)
         | (simp only[bad] at hk;cases hk;done)
         | (cases dd:(P.stoodInHeld t||P.eqGuardType P.depth t)<;>rw[dd] at hk<;>simp[bad] at hk)
  all_goals cases hk
 | buildSlice t n parts=>
  simp only[bn,ho] at hk
  repeat' split at hk
  all_goals first
   | (cases hk;done)
   | (simp only[bad] at hk;cases hk;done)
   | (revert hk;generalize yO _ _=bb;intro hk;cases bb<;>simp[bad] at hk)
 | makeMap t r=>
  cases r<;>simp only[bn,ho] at hk
  .repeat' split at hk
   all_goals first
    | (cases hk;done)
    | (simp only[bad] at hk;cases hk;done)
  .simp only [bad] at hk;cases hk
 | next x' b=>
  cases b<;>simp only[bn,ho] at hk
  .simp only [bad] at hk;cases hk
  .cases hk
 | store t x' y'=>
  simp only[bn,ho] at hk
  split at hk
  .rename_i s hs;simp only[Op.st.injEq] at hk;obtain⟨rfl,rfl,rfl⟩:=hk;exact⟨t,x',y',rfl,hs,rfl,rfl⟩
  .simp only [bad] at hk;cases hk
 | _=>
  simp only[bn,ho] at hk
  (repeat' split at hk)
  all_goals first
   | contradiction
   | (cases hk;done)
   | (simp only[bad] at hk;cases hk;done)
def ajn{H:Hint}{o:xk}(hq:Db P H (.oA rs sz x y) o):∃t x' y',o.op=.store t x' y'/\cY P t=Ix sz/\x=aS H x'/\y=aS H y':=by
 rcases hq with ⟨k,hk⟩ | ⟨_,_,_,_,_,h3⟩ | ⟨t,x',y',sz',rs',h1,h2,h3⟩
 .exact (aqB hk).elim
 .grind
 .grind
def aqC{H:Hint}{o:xk}(hq:Db P H q o):Db P H (ru q) o:=by
 cases h:q with
 | lY rs f xs=>
  subst h;obtain⟨c,f',g1,g2,g3,g4⟩:=Yd hq;exact .inr (.inl ⟨c,f',[],g1,g2,by rw[g3,g4];rfl⟩)
 | oA rs sz x y=>
  subst h;obtain⟨t,x',y',g1,g2,g3,g4⟩:=ajn hq;refine .inl ⟨0,?_⟩;simp only[ru,bn,g1,g2,g3,g4]
 | _=>subst h;exact hq
def agV(hC:sf O self)(hH:im O H){o:xk}(hq:Db O.P H q o)(hd:∀c,o.op≠.defer c)(hv:bq O.prog O.a8 self tm hp ct q=Ix (v,aq,bc))(ht:cp O m S w tm a.tmps)(hh:aW O m S w hp ct)(hn:∀u m' S' w',aW O m' S' w' aq bc->ct<=bc->ak O.ai m' S' w' v u->cE m S w hp m' S' w' aq ct->next (a.put o.dst u) w'):o.wpIn (WF ro) 0 O.P a w next Q:=by
 have quiet:bG q<=1->o.wpIn (WF ro) 0 O.P a w next Q:=by
  intro hk;have hg:=aeH hk hv hh.aY;obtain⟨S1,g1,g2,g3,g4⟩:=RX hh hg;refine quiet_step hC hH hk hq hd hv dJ.refl (ym _) hh.aY (fun id h1 h2=>?_) (D5 (fun _ _ h=>h) g2 (fun _ _=>rfl) ht) g1 (fun u m' S' w' k1 k2 k3 k4 k5=>hn u m' S' w' k1 hg.Ae k4 ((g4 ct).trans (k5.BT hg.Ae)))
  cases hm:m id with
  | none=>rfl
  | some p=>have:=hh.lt id p hm;omega
 have ajo:∀{q':Op},(∃k,q'=bn O.P H k o)->du tm hp ct q'=Ix (v,aq,bc)->o.wpIn (WF ro) 0 O.P a w next Q:=by
  intro q' mM hw;obtain⟨k,rfl⟩:=mM;obtain⟨n,u,w',m',S',h1,h2,h3,h4,h5,h6⟩:=avT hH ht hh hw;exact SX hd h1 h2 (hn u m' S' w' h3 (atx hw) h4 h6)
 have write:du tm hp ct q=Ix (v,aq,bc)->o.wpIn (WF ro) 0 O.P a w next Q:=by
  intro hw;refine ajo ?_ hw;rcases hq with h | ⟨c,f,rs,_,_,rfl⟩ | ⟨_,_,_,_,_,_,_,rfl⟩
  .exact h
  .simp [du] at hw
  .simp [du] at hw
 have heap:∀{c:yaG} {f:xN} {g:Nat} {first cap:List AV},o.op=.call c->c.callee=.value f->aC tm (aS H f)=.fn (.f g) first cap->
   kN O.prog O.a8 self hp ct g (first++(dU tm (jy H c.args.toList)++cap))=Ix (v,aq,bc)->o.wpIn (WF ro) 0 O.P a w next Q:=by
  intro c f g first cap ho kH hx he;obtain⟨fi,ca,h1,h2⟩:=RW hH ht (args:=c.args) hx;refine Ro ho kH h1 (hC.heap _ _ _ _ _ _ _ he m S w _ hh h2) ?_;rintro e w' ⟨u,m',S',rfl,k1,k2,k3,k4⟩;exact⟨u,rfl,hn u m' S' w' k1 k2 k3 k4⟩
 have round:∀{c:yaG} {f:xN} {l:Nat} {x y:List AV},o.op=.call c->c.callee=.value f->aC tm (aS H f)=.fn (.y l) x y->
   se self hp ct l (dU tm (jy H c.args.toList))=Ix (v,aq,bc)->o.wpIn (WF ro) 0 O.P a w next Q:=by
  intro c f l x y ho kH hx he;have rf:=cO hH ht f;rw[hx] at rf;simp only[ak] at rf;obtain⟨p,hm,hf⟩:=rf;have jt:=Gw hH ht c.args.toList;obtain⟨g,tmps,cX,body,h1,h2⟩:=hC.round _ _ _ _ _ _ _ he m S w (c.args.map a.eval) p hh hm (by simpa using jt);refine atv ho kH hf h1 h2 ?_;rintro e w' ⟨u,m',S',rfl,k1,k2,k3,k4⟩;exact⟨u,rfl,hn u m' S' w' k1 k2 k3 k4⟩
 have dyn:∀{c:yaG} {f:xN},o.op=.call c->c.callee=.value f->fP O.prog O.a8 self hp ct .dyn (aC tm (aS H f)) (dU tm (jy H c.args.toList))=Ix (v,aq,bc)->o.wpIn (WF ro) 0 O.P a w next Q:=by
  intro c f ho kH he;unfold fP at he
  split at he
  .rename_i g first cap hx
   (try simp only at he)
   cases hp0:aD (first++(dU tm (jy H c.args.toList)++cap)) with
   | true=>
    rw[hp0] at he;simp only[yN] at he
    cases hr:bM O.prog O.a8 self g (first++(dU tm (jy H c.args.toList)++cap)) with
    | none=>simp[hr] at he
    | some r=>
     simp only[hr,yc,yD] at he;obtain⟨rfl,rfl,rfl⟩:=he;obtain⟨fi,ca,h1,h2⟩:=RW hH ht (args:=c.args) hx;refine Ro ho kH h1 (hC.pure g _ r hr w S _ (YO hh) hh.slt (Cz (fun _ h=>h) (fun _ _=>rfl) _ _ hp0 h2) hp0) ?_;rintro e w' ⟨u,S',rfl,hw,g1,g2,g3,g4⟩;obtain⟨S2,k1,k2,k3⟩:=afU g4 m;have hS:∀b,S b->S2 b:=fun b hb=>k1 b (g1 b hb)
     have PR:∀b,S2 b->S b\/w.heap.size<=b:=fun b hb=>(k2 b hb).elim (g2 b) (fun h=>.inr h.1)
     have hl:∀b,S2 b->b<w'.heap.size:=fun b hb=>(k2 b hb).elim (g3 b) (fun h=>h.2)
     exact⟨u,rfl,hn u m S2 w' (IM hh hw hS PR hl) (ym _) k3 (Ge hh hw hS PR)⟩
   | false=>
    rw[hp0] at he;simp only[y5] at he;exact heap ho kH hx he
  .rename_i l x y hx;exact round ho kH hx he
  .cases he
 cases bO:q with
 | lY rs x xs=>
  subst bO;simp only[bq] at hv;have key:=Yd hq;obtain⟨c,f,ho,kH,rfl,rfl⟩:=key
  cases hc:fP O.prog O.a8 self hp ct .dyn (aC tm (aS H f)) (dU tm (jy H c.args.toList)) with
  | none=>simp[hc] at hv
  | some r=>
   obtain⟨v1,bm,Ch⟩:=r;simp only[hc] at hv
   cases hs:Ee tm hp bm rs with
   | false=>rw[hs] at hv;cases hv
   | true=>
    rw[hs] at hv;simp only[yN,yc,yD] at hv;obtain⟨rfl,rfl,rfl⟩:=hv;exact dyn ho kH hc
 | call md x xs=>
  subst bO;have mM:∃k,Op.call md x xs=bn O.P H k o:=by
   rcases hq with h | ⟨c,f,rs,_,_,h⟩ | ⟨_,_,_,_,_,_,_,h⟩
   .exact h
   .cases h
   .cases h
  obtain⟨k,hk⟩:=mM
  cases md with
  | pure=>exact quiet (by simp[bG])
  | own=>exact quiet (by simp[bG])
  | heap=>
   simp only[bq] at hv;obtain⟨c,f,ho,kH,rfl,rfl⟩:=Sz hk.symm (by rintro rfl;simp[aC,fP] at hv);unfold fP at hv
   split at hv
   .rename_i g first cap hx;exact heap ho kH hx hv
   .rename_i l x y hx;exact round ho kH hx hv
   .cases hv
  | dyn=>
   simp only[bq] at hv;obtain⟨c,f,ho,kH,rfl,rfl⟩:=Sz hk.symm (by rintro rfl;simp[aC,fP] at hv);exact dyn ho kH hv
 | oA rs s x y=>
  subst bO;obtain⟨t,x',y',g1,g2,g3,g4⟩:=ajn hq;simp only[bq] at hv
  split at hv
  .rename_i id off hx
   cases hf:zH tm id rs with
   | false=>rw[hf] at hv;cases hv
   | true=>
    rw[hf] at hv;simp only[yN] at hv
    exact ajo (q':=.st s x y) ⟨0,by simp only[bn,g1,g2,g3,g4]⟩ hv
  .cases hv
 | st s x y=>subst bO;exact write (by simpa only[bq] using hv)
 | sN kk x y z=>subst bO;exact write (by simpa only[bq] using hv)
 | Ac x=>subst bO;exact write (by simpa only[bq] using hv)
 | kD s b x y=>subst bO;exact write (by simpa only[bq] using hv)
 | rK s x y=>subst bO;exact write (by simpa only[bq] using hv)
 | Aa k x lo hi=>subst bO;exact quiet (by cases k<;>simp[bG])
 | len k x=>subst bO;exact quiet (by rcases k with _ | _ | k<;>simp[bG])
 | _=>subst bO;exact quiet (by simp[bG])
end
end
end
section
open Go
section
variable {v:AV}{d:Option Nat}
def zN(tm:Env)(g:Option (Nat×Bool)):Option Bool:=
 match g with
 | none=>Ix ycO
 | some (t,b)=>match ab tm t with | .bool c=>Ix (c==b) | .ax []=>Ix ycP | _=>Iy
def fT(P:aJ)(L:Lib)(self:cG)(tm:Env)(hp:Hp)(ct:Nat)(r:bk):iS:=
 match zN tm r.guard with
 | some ycO=>bq P L self tm hp ct r.op
 | some ycP=>Ix (.ax [],hp,ct)
 | none=>Iy
def ae6{r:bk}{rs:List bk}{s:St}:
  eC P L self (r::rs) s=match fT P L self s.tm s.hp s.ct r with | some (v,hp,ct)=>eC P L self rs {s with tm:=put r.dst v s.tm,hp:=hp,ct:=ct} | none=>Iy:=by
 have⟨d,g,o⟩:=r;simp only[eC,fT]
 cases g with
 | none=>rfl
 | some q=>
  have⟨t,b⟩:=q;simp only[zN];generalize ab s.tm t=x
  cases x with
  | bool c=>
   simp only;cases (c==b)<;>rfl
  | ax vs=>cases vs<;>rfl
  | _=>rfl
def aif(ops:Array xk)(g:Option (Nat×Bool))(g':Option (Nat×Bool)):Prop:=
 (g=Iy/\g'=Iy)\/∃t b j,g=Ix (t,b)/\g'=Ix (j,b)/\(ops[j]?).bind (·.dst)=Ix t
structure To(P:xM)(H:Hint)(ops:Array xk)(r:bk)(o:xk):Prop where
 op:Db P H r.op o
 dst:r.dst=o.dst
 ok:Ob H o.dst=ycO
 guard:aif ops r.guard o.guard
def re(P:xM)(H:Hint)(ops:Array xk):List bk->List xk->Prop
 | [],[]=>True
 | r::rs,o::l=>(To P H ops r o\/(r.guard=Iy/\r.op=bad))/\re P H ops rs l
 | _,_=>False
def ae7{P:xM}{H:Hint}{ops:Array xk}:∀(l:List xk) (k:Nat),re P H ops (Gm P H ops l k).1 l
 | [],k=>by simp[Gm,re]
 | o::l,k=>by
  have ih:=ae7 (P:=P) (H:=H) (ops:=ops) l (k+(bif Zl o then 1 else 0));simp only[Gm];generalize hq:Gm P H ops l (k+(bif Zl o then 1 else 0))=q at ih;have⟨l',k'⟩:=q;simp only;have aaE:re P H ops (⟨o.dst,Iy,bad⟩::l') (o::l):=⟨.inr ⟨rfl,rfl⟩,ih⟩
  cases hg:o.guard with
  | none=>
   simp only
   cases hd:Ob H o.dst with
   | false=>exact aaE
   | true=>exact⟨.inl ⟨.inl ⟨k,rfl⟩,rfl,hd,.inl ⟨rfl,hg⟩⟩,ih⟩
  | some p=>
   have⟨j,b⟩:=p;simp only
   cases ht:(ops[j]?).bind (·.dst) with
   | none=>exact aaE
   | some t=>
    simp only
    cases hd:Ob H o.dst with
    | false=>exact aaE
    | true=>exact⟨.inl ⟨.inl ⟨k,rfl⟩,rfl,hd,.inr ⟨t,b,j,rfl,hg,ht⟩⟩,ih⟩
section
variable {O:bC}{H:Hint}{m:Mp}{S:Nat->Prop}{w:yt}{tm:Env}{a:Act}{hp aq:Hp}{ct bc:Nat}{self:cG}{ro:Option Nat}{Q:td->Act->yt->Prop}{ops:Array xk}
def Ye{tm:Env}{t:Nat}:ab (put d v tm) t=if d=Ix t then v else ab tm t:=by
 cases d with
 | none=>simp[put]
 | some i=>
  simp only[put,ab];by_cases h:i=t
  .subst h;simp
  .have:yG i t=ycP:=by
    cases hq:yG i t with
    | false=>rfl
    | true=>exact absurd (yz hq) h
   simp[this,h]
def RY(a:Act)(d:Option Nat)(u:yr):(a.put d u).tmps.size=a.tmps.size:=by
 cases d with
 | none=>rfl
 | some i=>simp[Act.put]
def Xr(a:Act)(d:Option Nat)(u:yr):(a.put d u).defers=a.defers:=by
 cases d with
 | none=>rfl
 | some i=>rfl
def Yf{a:Act}{u:yr}{t:Nat}(hd:∀i,d=Ix i->i<a.tmps.size):(a.put d u).tmps.getD t undef=if d=Ix t then u else a.tmps.getD t undef:=by
 cases d with
 | none=>simp[Act.put]
 | some i=>
  have hi:=hd i rfl;by_cases h:i=t
  .subst h;simp[Act.put,hi]
  .simp only [Act.put,yc,h,xr];simp[Array.getElem?_setIfInBounds_ne h]
def agW{n:Nat}(h:Ob H d=ycO)(hn:H.n<=n):∀i,d=Ix i->i<n:=by
 rintro i rfl
 have:=CJ.1 h
 lia
def Yg{u:yr}(ht:cp O m S w tm a.tmps)(hd:∀i,d=Ix i->i<a.tmps.size)(hv:ak O.ai m S w v u):cp O m S w (put d v tm) (a.put d u).tmps:=fun t=>by
 rw[Ye,Yf hd]
 split
 .exact hv
 .exact ht t
def afZ{o:xk}{g:Option (Nat×Bool)}{b:Bool}(hg:aif ops g o.guard)(ht:∀t,t∈ZU g->ak O.ai m S w (ab tm t) (a.tmps.getD t undef))(hw:zN tm g=Ix b):Region.wanted o (yielded ops a.tmps)=b:=by
 rcases hg with ⟨rfl,h2⟩ | ⟨t,c,j,rfl,h2,h3⟩
 .simp only [zN,yc] at hw;subst hw;simp[Region.wanted,h2]
 .simp only [zN] at hw;have h4:=ht t (by simp[ZU]);simp only[Region.wanted,h2]
  split at hw
  .rename_i d hd;rw[hd] at h4;simp only[ak] at h4;simp only[yc] at hw
   have:yielded ops a.tmps j=Ix d:=by
    simp only[yielded,h3,wR];have h5:a.tmps[t]? =Ix (.bool d):=by
     simp only[vB] at h4
     cases hq:a.tmps[t]? with
     | none=>rw[hq] at h4;simp[undef] at h4
     | some x=>rw[hq] at h4;simp at h4;rw[h4]
    rw[h5]
   rw[this,<-hw];cases d<;>cases c<;>rfl
  .rename_i hd;rw[hd] at h4;simp only[ak,aE] at h4;have⟨xs,h4,h5⟩:=h4;simp only[yc] at hw;subst hw
   have:yielded ops a.tmps j=Iy:=by
    simp only[yielded,h3,wR];simp only[vB] at h4
    cases hq:a.tmps[t]? with
    | none=>rfl
    | some x=>rw[hq] at h4;simp at h4;rw[h4]
   rw[this];rfl
  .cases hw
def aeI{o:xk}{q:Op}(hq:Db O.P H q o){r:AV×Hp×Nat}(hv:bq O.prog O.a8 self tm hp ct q=Ix r):∀c,o.op≠.defer c:=by
 rcases hq with ⟨k,rfl⟩ | ⟨c,f,rs,h1,_,_⟩ | ⟨_,_,_,_,_,h1,_,_⟩
 .exact aqz hv
 .intro c' h;rw[h1] at h;cases h
 .intro c' h;rw[h1] at h;cases h
def avV(hC:sf O self)(hH:im O H){i:Nat}{r:bk}{o:xk}(hi:ops[i]? =Ix o)(hr:To O.P H ops r o\/(r.guard=Iy/\r.op=bad))(hv:fT O.prog O.a8 self tm hp ct r=Ix (v,aq,bc))(ht:cp O m S w tm a.tmps)(hh:aW O m S w hp ct)(hn:H.n<=a.tmps.size){K:Act->yt->Prop}(hK:∀u m' S' w',aW O m' S' w' aq bc->ct<=bc->cp O m' S' w' (put r.dst v tm) (a.put o.dst u).tmps->cE m S w hp m' S' w' aq ct->K (a.put o.dst u) w'):wpOpIn (WF ro) 0 O.P ops Q i K a w:=by
 rcases hr with hr | ⟨h1,h2⟩
 case inr=>
  simp only[fT,h1,zN,h2,bad,bq,fP,aC] at hv;cases hv
 unfold wpOpIn;simp only[hi];unfold fT at hv
 cases hw:zN tm r.guard with
 | none=>simp[hw] at hv
 | some b=>
  have hwn:=afZ hr.guard (fun t _=>ht t) hw;have hd:=agW hr.ok hn;rw[hwn]
  cases b with
  | true=>
   simp only[hw] at hv;simp only[xL];refine agV hC hH hr.op (aeI hr.op hv) hv ht hh (fun u m' S' w' k1 k2 k3 k4=>hK u m' S' w' k1 k2 ?_ k4);rw[hr.dst];exact Yg (D5 (fun id p h=>k4.old id p (hh.lt id p h) h) k4.sub (fun b hb=>k4.still b hb) ht) hd k3
  | false=>
   simp only[hw,yc,yD] at hv;obtain⟨rfl,rfl,rfl⟩:=hv;simp only[yH,xr];refine⟨fun _ _=>trivial,hK undef m S w hh (ym _) ?_ cE.refl⟩;rw[hr.dst];exact Yg ht hd (by simp[ak,aE,undef])
def aih(hC:sf O self)(hH:im O H):∀(l:List xk) (rs:List bk) (i:Nat) (s s':St) (a:Act) (m:Mp) (S:Nat->Prop) (w:yt),(∀j,l[j]? =ops[i+j]?)->re O.P H ops rs l->
  eC O.prog O.a8 self rs s=Ix s'->cp O m S w s.tm a.tmps->aW O m S w s.hp s.ct->H.n<=a.tmps.size->
  (∀a' m' S' w',aW O m' S' w' s'.hp s'.ct->s.ct<=s'.ct->cp O m' S' w' s'.tm a'.tmps->cE m S w s.hp m' S' w' s'.hp s.ct->a'.tmps.size=a.tmps.size->a'.defers=a.defers->s'.base=s.base->Q .normal a' w')->
  wpOpsIn (WF ro) 0 O.P ops Q (List.range' i l.length) a w
 | [],rs,i,s,s',a,m,S,w,hl,hr,hv,ht,hh,hn,hQ=>by
  cases rs with
  | cons _ _=>simp[re] at hr
  | nil=>
   simp only[eC,yc] at hv;subst hv;simp only[yI,List.range'_zero,wpOpsIn];exact hQ a m S w hh (ym _) ht cE.refl rfl rfl rfl
 | o::l,rs,i,s,s',a,m,S,w,hl,hr,hv,ht,hh,hn,hQ=>by
  cases rs with
  | nil=>simp[re] at hr
  | cons r rs=>
   simp only[re] at hr;rw[ae6] at hv
   cases h1:fT O.prog O.a8 self s.tm s.hp s.ct r with
   | none=>simp[h1] at hv
   | some q=>
    have⟨v,bm,Ch⟩:=q;simp only[h1] at hv;have hi:ops[i]? =Ix o:=by have:=hl 0;simpa using this.symm
    rw[yB,List.range'_succ,wpOpsIn_cons];refine avV hC hH hi hr.1 h1 ht hh hn (fun u m1 S1 w1 k1 k2 k3 k4=>?_)
    refine aih hC hH l rs (i+1) {s with tm:=put r.dst v s.tm,hp:=bm,ct:=Ch} s' _ m1 S1 w1 (fun j=>?_) hr.2 hv k3 k1 (by rw[RY];exact hn) (fun a' m' S' w' g1 g2 g3 g4 g5 g6 g7=>?_)
    .have:=hl (j+1)
     rw[List.getElem?_cons_succ] at this;rw[this];congr 1;lia
    .exact hQ a' m' S' w' g1 (xB k2 g2) g3 (k4.trans (g4.BT k2)) (by rw[g5,RY]) (by rw[g6,Xr]) g7
end
end
end
section
open Go
section
variable {ops:Array xk}
def Xe{acc:List Nat}{i:Nat}:∀{es:List Edge},tz (Em acc es) i=ycO->∃e,e∈es/\Region.binds .any e=ycO/\(i=e.on\/tz (acc.getD e.on 0) i=ycO)
 | [],h=>by simp[Em] at h
 | e::r,h=>by
  simp only[Em] at h
  cases hb:Region.binds .any e with
  | false=>
   rw[hb] at h;have⟨e',h1,h2⟩:=Xe h
   grind
  | true=>
   rw[hb] at h;simp only[yN,Nat.testBit_or,yah] at h;rcases h with (h | h) | h
   .grind
   .grind
   .have ⟨e',h1,h2⟩:=Xe h
    grind
def af0{l:List xk}{j:Nat}(hj:j<acc.length):(qc acc l)[j]? =acc[j]? :=by
 induction l generalizing acc with
 | nil=>rfl
 | cons o l ih=>
  simp only[qc]
  grind
def aqD{l:List xk}{j:Nat}{o:xk}(h:l[j]? =Ix o):∃Dc:List Nat,(qc acc l)[acc.length+j]? =Ix (Em Dc o.after.toList)/\Dc.length=acc.length+j/\∀k,k<Dc.length->Dc[k]? =(qc acc l)[k]? :=by
 induction l generalizing acc j with
 | nil=>simp at h
 | cons x l ih=>
  cases j with
  | zero=>
   simp only[uo,yc] at h;subst h;refine⟨acc,?_,by simp,fun k hk=>?_⟩
   .simp only [qc];rw[af0 (by simp)]
    simp
   .simp only [qc];rw[af0 (by rw[yE];lia),List.getElem?_append_left hk]
  | succ j=>
   have⟨Dc,h1,h2,h3⟩:=ih (acc:=acc++[Em acc x.after.toList]) h;simp only[yE,yB,yI] at h1 h2;refine⟨Dc,?_,by lia,fun k hk=>?_⟩
   .simp only [qc]
    grind
   .simp only [qc];exact h3 k hk
def Ord(ops:Array xk)(i j:Nat):Prop:=tz ((qc [] ops.toList).getD j 0) i=ycO
def Zo(ops:Array xk)(D:Nat->Prop):Prop:=∀j o,ops[j]? =Ix o->D j->∀e,e∈o.after->Region.binds .any e=ycO->D e.on
def af1{D:Nat->Prop}(hc:Zo ops D):∀(j:Nat) (o:xk),ops[j]? =Ix o->(∀e,e∈o.after->Region.binds .any e=ycO->D e.on)->∀i,Ord ops i j->D i:=by
 intro j
 induction j using vX with
 | _ j ih=>
  intro o ho hr i hi;have oD:ops.toList[j]? =Ix o:=by simp_all
  have⟨Dc,h1,h2,h3⟩:=aqD (acc:=[]) oD;simp only[yI,yd] at h1 h2;unfold Ord at hi;rw[yW,h1,vQ] at hi;have⟨e,g1,g2,g3⟩:=Xe hi;have he:D e.on:=hr e (by simpa using g1) g2;rcases g3 with rfl | g3
  .grind
  .rcases ua e.on j with aY | pC
   .have h4:=h3 e.on (by lia);have nL:e.on<ops.size:=by
     grind
    have ho2:ops[e.on]? =Ix ops[e.on]:=by simp_all
    refine ih e.on aY _ ho2 (fun e' he' dd=>hc e.on _ ho2 he e' he' dd) i ?_;unfold Ord
    grind
   .grind
def aty{D:Nat->Prop}(hc:Zo ops D){i j:Nat}{o:xk}(ho:ops[j]? =Ix o)(hj:D j)(hi:Ord ops i j):D i:=
 af1 hc j o ho (fun e he hb=>hc j o ho hj e he hb) i hi
def aep:∀{l:List xk} {k j:Nat} {o:xk},MN l k=ycO->l[j]? =Ix o->∀e,e∈o.after->Region.binds .any e=ycO->e.on<k+j
 | [],k,j,o,_,h=>by simp at h
 | x::l,k,j,o,hb,h=>by
  simp only[MN,yj] at hb
  cases j with
  | zero=>
   simp only[uo,yc] at h;subst h;intro e he Ce
   have:=List.all_eq_true.1 hb.1 e (by simpa using he)
   simp_all
  | succ j=>
   intro e he Ce
   have:=aep hb.2 h e he Ce
   lia
end
def Uk(a b:bk)(r:List bk):Prop:=RQ a b=ycP/\(MM a b=ycP\/Nb a b r=ycO)
def aer{m:Nat}{b:bk}:∀{l:List bk} {k i:Nat} {a:bk},RR m b l k=ycO->l[i]? =Ix a->tz m (k+i)=ycO\/Uk a b (l.drop (i+1))
 | [],k,i,a,_,h=>by simp at h
 | x::l,k,i,a,hp,h=>by
  simp only[RR,yj] at hp
  cases i with
  | zero=>
   simp only[uo,yc] at h;subst h;have h1:=hp.1;simp only[yah,tn,yaQ,Bool.and_eq_false_iff,Bool.not_eq_false'] at h1;rcases h1 with h1 | ⟨h1,h2⟩
   .grind
   .exact .inr ⟨h1,by simpa using h2⟩
  | succ i=>
   rcases aer hp.2 h with h1 | h1
   .grind
   .grind
def aeu:∀{l done:List bk} {ms:List Nat} {i j:Nat} {a b:bk},IW done l ms=ycO->(done++l)[i]? =Ix a->l[j]? =Ix b->i<done.length+j->
  ∃m,ms[j]? =Ix m/\(tz m i=ycO\/Uk a b (((done++l).take (done.length+j)).drop (i+1)))
 | [],done,ms,i,j,a,b,_,_,h,_=>by simp at h
 | x::l,done,[],i,j,a,b,hp,_,h,_=>by simp[IW] at hp
 | x::l,done,m::ms,i,j,a,b,hp,ha,h,HN=>by
  simp only[IW,yj] at hp
  cases j with
  | zero=>
   have HO:done[i]? =Ix a:=by grind
   have:=aer hp.1 HO
   grind
  | succ j=>
   have e:done++x::l=(done++[x])++l:=by simp
   have⟨m',h1,h2⟩:=aeu (i:=i) (a:=a) hp.2 (by rw[<-e];exact ha) h (by simp;lia)
   grind
def Q7{a b:bk}(h:RQ a b=ycP):(∀d,a.dst=Ix d->d∉Gv b/\b.dst≠Ix d)/\(∀d,b.dst=Ix d->d∉Gv a):=by
 have mem:∀{i:Nat} {l:List Nat},me i l=ycP->i∉l:=by
  intro i l
  induction l with
  | nil=>intro _ h;cases h
  | cons j r ih=>
   intro h hm;simp only[me] at h
   cases hb:yG j i with
   | true=>rw[hb] at h;cases h
   | false=>
    simp_all
 simp only[RQ,yaQ] at h;have⟨⟨h1,h2⟩,h3⟩:=h;refine⟨fun d hd=>⟨mem (by simpa[hd,JS] using h1),fun hb=>?_⟩,fun d hd=>mem (by simpa[hd,JS] using h2)⟩;rw[hd,hb] at h3;simp[aj4] at h3
def ae8{t:Nat}:∀{l:List bk},JC t l=ycO->∀r,r∈l->r.dst≠Ix t
 | [],_,r,h=>by cases h
 | x::l,h,r,hr=>by
  simp only[JC,yj,tn] at h;rcases wj.1 hr with rfl | hr
  .intro hd;rw[hd] at h;simp[JS,me] at h
  .exact ae8 h.2 r hr
def XL{sz t:Nat}{ag:Bool}:∀{l:List (Nat×Bool×Nat)},JT sz ag t l=ycO->(sz,ag,t)∈l
 | [],h=>by simp[JT] at h
 | (s,g,u)::r,h=>by
  simp only[JT,yah,yj] at h;rcases h with ⟨h1,h2,h3⟩ | h
  .simp_all
  .exact xi _ (XL h)
def Yh:∀{a b:List Nat},cU a b=ycO->a=b
 | [],[],_=>rfl
 | [],_::_,h=>by simp[cU] at h
 | _::_,[],h=>by simp[cU] at h
 | x::a,y::b,h=>by
  simp only[cU,yj] at h;rw[yz h.1,Yh h.2]
def arD{a b:AV}(h:aax a b=ycO):a=b:=by
 unfold aax at h
 split at h
 .grind
 .grind
 .rw [Yh h]
 .rfl
 .rfl
 .simp_all
 .simp_all
 .simp_all
 .cases h
def aev{tm:Env}{hp aq:Hp}{sz t:Nat}{ag:Bool}{v:AV}:∀{l:List (Nat×Bool×Nat)},Ee tm hp aq l=ycO->(sz,ag,t)∈l->jx hp sz ag (ab tm t)=Ix v->jx aq sz ag (ab tm t)=Ix v
 | [],_,h,_=>by cases h
 | (s,g,u)::r,h,hm,hv=>by
  simp only[Ee] at h
  cases h1:jx hp s g (ab tm u) with
  | none=>simp[h1] at h
  | some x=>
   cases h2:jx aq s g (ab tm u) with
   | none=>simp[h1,h2] at h
   | some y=>
    simp only[h1,h2,yj] at h;rcases wj.1 hm with e | hm
    .simp only [yD] at e;obtain⟨rfl,rfl,rfl⟩:=e;rw[h1] at hv;rw[h2,<-arD h.1,hv]
    .exact aev h.2 hm hv
structure Ul(P:aJ)(L:Lib)(run:cG)(rs:List bk)(cl:Nat->Env)(bS:Nat->Hp)(bK:Nat->Nat)(vF:Nat->AV):Prop where
 step:∀i r,rs[i]? =Ix r->fT P L run (cl i) (bS i) (bK i) r=Ix (vF i,bS (i+1),bK (i+1))
 tm:∀i r,rs[i]? =Ix r->cl (i+1)=put r.dst (vF i) (cl i)
def aii{P:aJ}{L:Lib}{self:cG}:∀{rs:List bk} {s s':St},eC P L self rs s=Ix s'->
  ∃cl bS bK vF,Ul P L self rs cl bS bK vF/\cl 0=s.tm/\bS 0=s.hp/\bK 0=s.ct/\cl rs.length=s'.tm/\bS rs.length=s'.hp/\bK rs.length=s'.ct/\s'.base=s.base
 | [],s,s',h=>by
  simp only[eC,yc] at h;subst h;exact⟨fun _=>s.tm,fun _=>s.hp,fun _=>s.ct,fun _=>.undef,⟨fun i r h=>by simp at h,fun i r h=>by simp at h⟩,rfl,rfl,rfl,rfl,rfl,rfl,rfl⟩
 | r::rs,s,s',h=>by
  rw[ae6] at h
  cases h1:fT P L self s.tm s.hp s.ct r with
  | none=>simp[h1] at h
  | some q=>
   have⟨v,bm,Ch⟩:=q;simp only[h1] at h;have⟨cl,bS,bK,vF,g1,g2,g3,g4,g5,g6,g7,g8⟩:=aii h;refine⟨fun i=>match i with | 0=>s.tm | i+1=>cl i,fun i=>match i with | 0=>s.hp | i+1=>bS i,fun i=>match i with | 0=>s.ct | i+1=>bK i,fun i=>match i with | 0=>v | i+1=>vF i,⟨?_,?_⟩,rfl,rfl,rfl,by simpa using g5,by simpa using g6,by simpa using g7,g8⟩
   .intro i r' hi
    cases i with
    | zero=>
     grind
    | succ i=>exact g1.step i r' (by simpa using hi)
   .intro i r' hi
    cases i with
    | zero=>
     grind
    | succ i=>exact g1.tm i r' (by simpa using hi)
section
variable {P:aJ}{L:Lib}{self:cG}{rs:List bk}{cl:Nat->Env}{bS:Nat->Hp}{bK:Nat->Nat}{vF:Nat->AV}
def MR(hR:Ul P L self rs cl bS bK vF){t i:Nat}:∀(k:Nat),i+k<=rs.length->(∀j r,i<=j->j<i+k->rs[j]? =Ix r->r.dst≠Ix t)->ab (cl (i+k)) t=ab (cl i) t
 | 0,_,_=>rfl
 | k+1,hk,h=>by
  have hr:rs[i+k]? =Ix rs[i+k]:=by simp_all
  rw[show i+(k+1)=i+k+1 by lia,hR.tm _ _ hr,Ye,yx (h (i+k) _ (by lia) (by lia) hr)];exact MR hR k (by lia) (fun j r h1 h2=>h j r h1 (by lia))
def af2{r:bk}(hk:bG r.op<=1)(hv:fT P L self tm hp ct r=Ix (v,aq,bc))(aY:∀id o,au hp id=Ix o->id<ct):jX hp ct aq bc:=by
 unfold fT at hv
 cases hw:zN tm r.guard with
 | none=>simp[hw] at hv
 | some b=>
  cases b with
  | true=>simp only[hw] at hv;exact aeH hk hv aY
  | false=>
   simp only[hw,yc,yD] at hv;obtain⟨rfl,rfl,rfl⟩:=hv;exact jX.refl aY
def RF(hR:Ul P L self rs cl bS bK vF){i:Nat}(aY:∀id o,au (bS i) id=Ix o->id<bK i):∀(k:Nat),i+k<=rs.length->(∀j r,i<=j->j<i+k->rs[j]? =Ix r->bG r.op<=1)->jX (bS i) (bK i) (bS (i+k)) (bK (i+k))
 | 0,_,_=>jX.refl aY
 | k+1,hk,h=>by
  have ih:=RF hR aY k (by lia) (fun j r h1 h2=>h j r h1 (by lia));have hr:rs[i+k]? =Ix rs[i+k]:=by simp_all
  exact ih.trans (af2 (h (i+k) _ (by lia) (by lia) hr) (hR.step _ _ hr) ih.lt)
end
end
section
open Go
section
variable {i:Nat}{r:bk}
def RZ{tm:Env}{t:Nat}:∀{l:List Nat},t∈l->ab (cT tm l) t=ab tm t
 | [],h=>by cases h
 | i::r,h=>by
  simp only[cT,ab]
  cases hb:yG i t with
  | true=>rw[yz hb];rfl
  | false=>
   rcases wj.1 h with e | h
   .simp_all
   .exact RZ h
def arE{tm':Env}{o:Op}{r:AV×Hp×Nat}(h:∀t,t∈nX o->ab tm' t=ab tm t)(hv:bq P L self tm hp ct o=Ix r):bq P L self tm' hp ct (ru o)=Ix r:=by
 cases o with
 | lY rs f xs=>
  simp only[nX,wm] at h;simp only[ru,bq] at hv ⊢
  rw[eQ (x:=f) fun t ht=>h t (.inl ht),F7 (xs:=xs) fun t ht=>h t (.inr ht)]
  cases hc:fP P L self hp ct .dyn (aC tm f) (dU tm xs) with
  | none=>simp[hc] at hv
  | some q=>
   obtain⟨v1,bm,Ch⟩:=q;simp only[hc] at hv
   cases hs:Ee tm hp bm rs with
   | false=>rw[hs] at hv;cases hv
   | true=>
    rw[hs] at hv;simpa only[Ee,yN] using hv
 | oA rs sz x v=>
  simp only[ru,bq] at hv ⊢
  rw[IB (o:=.st sz x v) (tm:=tm) h]
  grind
 | call md f xs=>
  rw[<-hv];simp only[nX,wm] at h;simp only[ru,bq]
  rw[eQ (x:=f) fun t ht=>h t (.inl ht),F7 (xs:=xs) fun t ht=>h t (.inr ht)]
 | st s x y=>rw[<-hv];exact IB h
 | sN kk x y z=>rw[<-hv];exact IB h
 | Ac x=>rw[<-hv];exact IB h
 | kD s b x y=>rw[<-hv];exact IB h
 | rK s x y=>rw[<-hv];exact IB h
 | box s x=>rw[<-hv];simp only[ru,bq];rw[MD (hp:=hp) h]
 | sD n s z ps=>rw[<-hv];simp only[ru,bq];rw[MD (hp:=hp) h]
 | sM s b z x y=>rw[<-hv];simp only[ru,bq];rw[MD (hp:=hp) h]
 | Du=>exact hv
 | Ab x=>rw[<-hv];simp only[ru,bq];rw[MD (hp:=hp) h]
 | _=>rw[<-hv];simp only[ru,bq];rw[ap6 h]
def agX{q:Op}(hk:bG q=0\/∃sz ag x,q=.ld sz ag x)(hv:bq P L self tm hp ct q=Ix (v,aq,bc)):bB tm hp q=Ix v/\aq=hp/\bc=ct:=by
 have pD:∀{q:Op},(match bB tm hp q with | some v=>Ix (v,hp,ct) | none=>(Iy:iS))=Ix (v,aq,bc)->bB tm hp q=Ix v/\aq=hp/\bc=ct:=by grind
 rcases hk with hk | ⟨sz,ag,x,rfl⟩
 .cases bO:q with
  | call md f xs=>subst bO;cases md<;>simp[bG] at hk
  | lY rs f xs=>subst bO;simp[bG] at hk
  | oA rs s x y=>subst bO;simp[bG] at hk
  | st s x y=>subst bO;simp[bG] at hk
  | sN kk x y z=>subst bO;simp[bG] at hk
  | Ac x=>subst bO;simp[bG] at hk
  | kD s b x y=>subst bO;simp[bG] at hk
  | rK s x y=>subst bO;simp[bG] at hk
  | box s x=>subst bO;simp[bG] at hk
  | sD n s z ps=>subst bO;simp[bG] at hk
  | sM s b z x y=>subst bO;simp[bG] at hk
  | Du=>subst bO;simp[bG] at hk
  | Ab x=>subst bO;simp[bG] at hk
  | _=>exact bO▸pD (q:=q) (by rw[bO] at hv ⊢;exact hv)
 .exact pD (q:=.ld sz ag x) (by simp only[bq] at hv;exact hv)
section
variable {O:bC}{H:Hint}{ops:Array xk}{rs:List bk}{cl:Nat->Env}{bS:Nat->Hp}{bK:Nat->Nat}{vF:Nat->AV}{self:cG}{ro:Option Nat}{Q:td->Act->yt->Prop}
structure BP(O:bC)(H:Hint)(slf:cG)(ops:Array xk)(rs:List bk)(cl:Nat->Env)(bS:Nat->Hp)(bK:Nat->Nat)(vF:Nat->AV):Prop where
 run:Ul O.prog O.a8 slf rs cl bS bK vF
 len:rs.length=ops.size
 of:∀(i:Nat) (r:bk) (o:xk),rs[i]? =Ix r->ops[i]? =Ix o->To O.P H ops r o
 pair:∀(i j:Nat) (a b:bk),i<j->rs[i]? =Ix a->rs[j]? =Ix b->Ord ops i j\/Uk a b ((rs.take j).drop (i+1))
 back:∀(i:Nat) (o:xk),ops[i]? =Ix o->∀e,e∈o.after->Region.binds .any e=ycO->e.on<i
def mQ(rs:List bk)(i:Nat):Prop:=∃r,rs[i]? =Ix r/\bG r.op=2
def Zp(rs:List bk):∀(k i:Nat),i+k=rs.length->∃c,i<=c/\c<=rs.length/\(∀j,i<=j->j<c->¬mQ rs j)/\(c=rs.length\/mQ rs c)
 | 0,i,h=>⟨i,ym _,by lia,fun j h1 h2=>by lia,.inl (by lia)⟩
 | k+1,i,h=>by
  rcases uX (mQ rs i) with hw | hw
  .grind
  .have ⟨c,h1,h2,h3,h4⟩:=Zp rs k (i+1) (by lia)
   grind
def Nf{rs:List bk}(hr:rs[i]? =Ix r)(hw:¬mQ rs i):bG r.op<=1:=by
 have h:bG r.op≠2:=fun e=>hw ⟨r,hr,e⟩
 have:bG r.op<=2:=by
  cases r.op with
  | Aa k x lo hi=>cases k<;>simp[bG]
  | len k x=>rcases k with _ | _ | k<;>simp[bG]
  | call md f xs=>cases md<;>simp[bG]
  | _=>simp[bG]
 lia
def VO(O:bC)(rs:List bk)(cl:Nat->Env)(D:Nat->Prop)(m:Mp)(S:Nat->Prop)(w:yt)(a:Act):Prop:=
 ∀t,∃j,j<=rs.length/\(∀(i:Nat) (r:bk),rs[i]? =Ix r->r.dst=Ix t->(D i↔i<j))/\ak O.ai m S w (ab (cl j) t) (a.tmps.getD t undef)
def avW{D:Nat->Prop}{m:Mp}{w:yt}{a:Act}(hG:BP O H self ops rs cl bS bK vF)(hT:VO O rs cl D m S w a)(hr:rs[i]? =Ix r)(hi:¬D i)(gm:∀j,Ord ops j i->D j)(ja:∀j,Ord ops i j->¬D j):∀t,t∈Gv r->ak O.ai m S w (ab (cl i) t) (a.tmps.getD t undef):=by
 intro t ht;have⟨j,h1,h2,h3⟩:=hT t;have KK:i<rs.length:=(vt.1 hr).1;have e:ab (cl j) t=ab (cl i) t:=by
  rcases Nat.le_total j i with Af | HN
  .obtain ⟨k,rfl⟩:∃k,i=j+k:=⟨i-j,by lia⟩;refine (MR hG.run k (by lia) (fun l rl g1 g2 hl hd=>?_)).symm;rcases hG.pair l (j+k) rl r (by lia) hl hr with ho | hf
   .grind
   .exact ((Q7 hf.1).1 t hd).1 ht
  .obtain ⟨k,rfl⟩:∃k,j=i+k:=⟨j-i,by lia⟩;refine MR hG.run k h1 (fun l rl g1 g2 hl hd=>?_);rcases vN g1 with rfl | g1
   .grind
   .rcases hG.pair i l r rl g1 hr hl with ho | hf
    .grind
    .exact (Q7 hf.1).2 t hd ht
 grind
def aij{D D':Nat->Prop}{m:Mp}{w w':yt}{a:Act}{u:yr}(hG:BP O H self ops rs cl bS bK vF)(hT:VO O rs cl D m S w a)(hr:rs[i]? =Ix r)(hi:¬D i)(gm:∀j,Ord ops j i->D j)(ja:∀j,Ord ops i j->¬D j)(hD:∀j,D' j↔D j\/j=i)(hm:dY m m')(hS:∀b,S b->S' b)(hw:iE S w w')(hd:∀d,r.dst=Ix d->d<a.tmps.size)(hv:ak O.ai m' S' w' (vF i) u):VO O rs cl D' m' S' w' (a.put r.dst u):=by
 intro t;have KK:i<rs.length:=(vt.1 hr).1;by_cases PS:r.dst=Ix t
 .refine ⟨i+1,KK,fun l rl hl hld=>?_,?_⟩
  .rw [hD];constructor
   .rintro (h | h)
    .rcases ua l (i+1) with g | g
     .grind
     .rcases hG.pair i l r rl (by lia) hr hl with ho | hf
      .grind
      .exact (((Q7 hf.1).1 t PS).2 hld).elim
    .lia
   .intro h;rcases vN (yay h) with h | h
    .grind
    .rcases hG.pair l i rl r h hl hr with ho | hf
     .grind
     .exact (((Q7 hf.1).1 t hld).2 PS).elim
  .rw [hG.run.tm i r hr,Ye,Yf hd,yK PS,yK PS];exact hv
 .have ⟨j,h1,h2,h3⟩:=hT t;refine⟨j,h1,fun l rl hl hld=>?_,?_⟩
  .grind
  .rw [Yf hd,yx PS];exact pN hm hS hw _ _ h3
def aeJ{tm:Env}{hp aq:Hp}{ct bc id off sz sz' t:Nat}{ag:Bool}{x y:X}{v v':AV}:∀{l:List (Nat×Bool×Nat)},zH tm id l=ycO->(sz,ag,t)∈l->aC tm x=.ptr id off->
  du tm hp ct (.st sz' x y)=Ix (v',aq,bc)->jx hp sz ag (ab tm t)=Ix v->jx aq sz ag (ab tm t)=Ix v
 | [],_,h,_,_,_=>by cases h
 | (s,g,u)::r,h,hm,hx,hw,hv=>by
  simp only[zH,yj] at h;rcases wj.1 hm with e | hm
  .simp only [yD] at e;obtain⟨rfl,rfl,rfl⟩:=e;have h1:=h.1
   split at h1
   .rename_i j o hj;have cu:j≠id:=by
     intro e
     simp_all
    rw[hj] at hv ⊢;simp only[du,hx] at hw;have key:∀ob,au (aV hp id ob) j=au hp j:=fun ob=>by rw[Bq,yx (ycA cu)]
    split at hw
    .rename_i pu ex z cs KL;generalize (yG _ _&&yO _ _&&bP _)=bb at hw
     cases bb with
     | false=>cases hw
     | true=>
      obtain⟨_,rfl,_⟩:=hw;simp only[jx,key] at hv ⊢;exact hv
    .cases hw
   .rename_i cs hj;rw[hj] at hv ⊢;simpa only[jx] using hv
   .cases h1
  .exact aeJ h.2 hm hx hw hv
def aew{D:Nat->Prop}{i c:Nat}{r:bk}{sz t:Nat}{ag:Bool}(hG:BP O H self ops rs cl bS bK vF)(hr:rs[i]? =Ix r)(hi:¬D i)(Fz:r.guard=Iy/\r.op=.ld sz ag (.t t))(hc:c<=rs.length)(hW:∀j,j<c->mQ rs j->D j)(ja:∀j,Ord ops i j->¬D j)(aY:∀j,j<=c->∀id o,au (bS j) id=Ix o->id<bK j):∀k,i+1+k<=c->jx (bS (i+1+k)) sz ag (ab (cl i) t)=Ix (vF i)
 | 0,hk=>by
  have h1:=hG.run.step i r hr;simp only[fT,Fz.1,zN,Fz.2] at h1;obtain⟨h2,h3,h4⟩:=agX (.inr ⟨_,_,_,rfl⟩) h1;simp only[bB,aC] at h2
  grind
 | k+1,hk=>by
  have ih:=aew hG hr hi Fz hc hW ja aY k (by omega);have hl:i+1+k<rs.length:=by omega
  have hj:rs[i+1+k]? =Ix rs[i+1+k]:=by simp[hl]
  have aK:=hG.run.step _ _ hj;rw[show i+1+(k+1)=i+1+k+1 by omega];rcases uX (mQ rs (i+1+k)) with hw | hw
  .have hD:=hW _ (by omega) hw;rcases hG.pair i (i+1+k) r _ (by omega) hr hj with ho | hf
   .grind
   .obtain ⟨KM,kI⟩:=hf;obtain⟨dn,h5,h6⟩:=hw;rw[hj] at h5;injection h5 with h5
    subst h5;rcases kI with kI | kI
    .have h1k:bG r.op=1:=by rw[Fz.2];rfl
     simp only[MM,h1k,h6] at kI;cases kI
    .unfold Nb at kI;simp only[Fz.1,Fz.2] at kI;generalize mM:(rs[i+1+k]).op=q at kI;have aka:JC t (r::(rs.take (i+1+k)).drop (i+1))=ycO->ab (cl (i+1+k)) t=ab (cl i) t:=by
      intro aDr;have nK:=ae8 aDr;rw[show i+1+k=i+(1+k) by omega];refine MR hG.run (1+k) (by omega) (fun l rl g1 g2 hl'=>nK rl ?_);rcases vN g1 with rfl | g1
      .grind
      .refine xi _ ?_
       have:((rs.take (i+1+k)).drop (i+1))[l-(i+1)]? =Ix rl:=by
        rw[List.getElem?_drop,List.getElem?_take_of_lt (by omega),show i+1+(l-(i+1))=l by omega];exact hl'
       exact List.mem_of_getElem? this
     unfold fT at aK
     cases hg:zN (cl (i+1+k)) (rs[i+1+k]).guard with
     | none=>simp[hg] at aK
     | some b=>
      cases b with
      | false=>
       simp only[hg,yc,yD] at aK;rw[<-aK.2.1];exact ih
      | true=>
       simp only[hg,mM] at aK;cases q<;>simp only[yH] at kI
       case lY VP fx xs=>
        simp only[yj] at kI;have AO:=XL kI.1;have PT:=aka kI.2;simp only[bq] at aK
        cases oE:fP O.prog O.a8 self (bS (i+1+k)) (bK (i+1+k)) .dyn (aC (cl (i+1+k)) fx) (dU (cl (i+1+k)) xs) with
        | none=>simp[oE] at aK
        | some z=>
         obtain⟨v1,bm,Ch⟩:=z;simp only[oE] at aK
         cases hs:Ee (cl (i+1+k)) (bS (i+1+k)) bm VP with
         | false=>rw[hs] at aK;cases aK
         | true=>
          rw[hs] at aK;simp only[yN,yc,yD] at aK;obtain⟨_,h8,_⟩:=aK;rw[<-h8,<-PT];exact aev hs AO (by rw[PT];exact ih)
       case oA VP sz' x v=>
        simp only[yj] at kI;have AO:=XL kI.1;have PT:=aka kI.2;simp only[bq] at aK
        split at aK
        .rename_i id off hx
         cases hs:zH (cl (i+1+k)) id VP with
         | false=>rw[hs] at aK;cases aK
         | true=>
          rw[hs] at aK;simp only[yN] at aK;rw[<-PT];exact aeJ hs AO hx aK (by rw[PT];exact ih)
        .cases aK
  .exact aia (af2 (Nf hj hw) aK (aY _ (by omega))).le ih
structure Inv(O:bC)(ops:Array xk)(rs:List bk)(cl:Nat->Env)(bS:Nat->Hp)(bK:Nat->Nat)(D:Nat->Prop)(m0:Mp)(S0:Nat->Prop)(w0:yt)(n0:Nat)(d0:List yai)(st c:Nat)(m:Mp)(S:Nat->Prop)(w:yt)(a:Act):Prop where
 stc:st<=c
 cn:c<=rs.length
 before:∀i,i<st->mQ rs i->D i
 KN:∀i,st<=i->i<c->¬mQ rs i
 cut:c=rs.length\/(mQ rs c/\¬D c)
 behind:∀(i:Nat) (r:bk),c<=i->rs[i]? =Ix r->1<=bG r.op->¬D i
 hp:aW O m S w (bS c) (bK c)
 dom:∀id p,m id=Ix p->id<bK st\/∃i,st<=i/\i<c/\D i/\bK i<=id/\id<bK (i+1)
 tm:VO O rs cl D m S w a
 VQ:cE m0 S0 w0 (bS 0) m S w (bS c) (bK 0)
 ge:bK 0<=bK c
 size:a.tmps.size=n0
 defers:a.defers=d0
 iV:st=0\/mQ rs (st-1)
 KO:∀j,j<=c->∀id o,au (bS j) id=Ix o->id<bK j
end
end
end
section
open Go
section
variable {O:bC}{H:Hint}{ops:Array xk}{rs:List bk}{cl:Nat->Env}{bS:Nat->Hp}{bK:Nat->Nat}{vF:Nat->AV}{self:cG}{ro:Option Nat}{Q:td->Act->yt->Prop}
variable {D D':Nat->Prop}{m0:Mp}{S0:Nat->Prop}{w0:yt}{n0:Nat}{d0:List yai}{st c i:Nat}{m:Mp}{S:Nat->Prop}{w:yt}{a:Act}{r:bk}{o:xk}
def RG(hG:BP O H self ops rs cl bS bK vF)(hI:Inv O ops rs cl bS bK D m0 S0 w0 n0 d0 st c m S w a){x y:Nat}(hx:st<=x)(hxy:x<=y)(hy:y<=c):jX (bS x) (bK x) (bS y) (bK y):=by
 obtain⟨k,rfl⟩:∃k,y=x+k:=⟨y-x,by lia⟩
 have:=hI.cn
 exact RF hG.run (hI.KO x (by lia)) k (by lia) (fun j r h1 h2 hr=>Nf hr (hI.KN j (by lia) (by lia)))
def Yi(hG:BP O H self ops rs cl bS bK vF)(hI:Inv O ops rs cl bS bK D m0 S0 w0 n0 d0 st c m S w a)(hr:rs[i]? =Ix r)(hi:¬D i)(gm:∀j,Ord ops j i->D j)(ja:∀j,Ord ops i j->¬D j)(hD:∀j,D' j↔D j\/j=i)(hd:∀d,r.dst=Ix d->d<a.tmps.size)(hw:¬mQ rs i)(mN:bG r.op=0\/i<c){w':yt}{u:yr}(k1:aW O m' S' w' (bS c) (bK c))(k2:dY m m')(k3:∀id p,m' id=Ix p->m id=Ix p\/(st<=i/\i<c/\bK i<=id/\id<bK (i+1)))(k4:ak O.ai m' S' w' (vF i) u)(k5:cE m S w (bS c) m' S' w' (bS c) (bK c)):
  Inv O ops rs cl bS bK D' m0 S0 w0 n0 d0 st c m' S' w' (a.put r.dst u) where
 stc:=hI.stc
 cn:=hI.cn
 before j hj HP:=(hD j).2 (.inl (hI.before j hj HP))
 KN:=hI.KN
 cut:=hI.cut.imp (fun h=>h) (fun h=>⟨h.1,fun hc=>((hD c).1 hc).elim h.2 (fun e=>hw (e▸h.1))⟩)
 behind j rj hj HQ hk PU:=((hD j).1 PU).elim (hI.behind j rj hj HQ hk) (fun e=>by
  subst e;rw[hr] at HQ;injection HQ with HQ
  subst HQ
  rcases mN with h | h<;>lia)
 hp:=k1
 dom id p hp:=by
  rcases k3 id p hp with h | ⟨h1,h2,h3,h4⟩
  .rcases hI.dom id p h with h | ⟨j,g1,g2,g3,g4,g5⟩
   .exact .inl h
   .exact .inr ⟨j,g1,g2,(hD j).2 (.inl g3),g4,g5⟩
  .exact .inr ⟨i,h1,h2,(hD i).2 (.inr rfl),h3,h4⟩
 tm:=aij hG hI.tm hr hi gm ja hD k2 k5.sub (fun b hb=>k5.still b hb) hd k4
 VQ:=hI.VQ.trans (k5.BT hI.ge)
 ge:=hI.ge
 size:=by rw[RY];exact hI.size
 defers:=by rw[Xr];exact hI.defers
 iV:=hI.iV
 KO:=hI.KO
def aik(hG:BP O H self ops rs cl bS bK vF)(hI:Inv O ops rs cl bS bK D m0 S0 w0 n0 d0 st c m S w a)(hr:rs[c]? =Ix r)(hi:¬D c)(gm:∀j,Ord ops j c->D j)(ja:∀j,Ord ops c j->¬D j)(hD:∀j,D' j↔D j\/j=c)(hd:∀d,r.dst=Ix d->d<a.tmps.size)(hw:mQ rs c){w':yt}{u:yr}(k1:aW O m' S' w' (bS (c+1)) (bK (c+1)))(k2:bK c<=bK (c+1))(k4:ak O.ai m' S' w' (vF c) u)(k5:cE m S w (bS c) m' S' w' (bS (c+1)) (bK c)):
  ∃c' Ft,Inv O ops rs cl bS bK D' m0 S0 w0 n0 d0 (c+1) c' m' Ft w' (a.put r.dst u):=by
 have oE:c<rs.length:=(vt.1 hr).1;have⟨c',h1,h2,h3,h4⟩:=Zp rs (rs.length-(c+1)) (c+1) (by lia);obtain⟨k,rfl⟩:∃k,c'=c+1+k:=⟨c'-(c+1),by lia⟩;have hg:∀k',k'<=k->jX (bS (c+1)) (bK (c+1)) (bS (c+1+k')) (bK (c+1+k')):=fun k' A2=>
  RF hG.run k1.aY k' (by lia) (fun j r g1 g2 hr=>Nf hr (h3 j g1 (by lia)))
 have⟨Ft,g1,g2,g3,g4⟩:=RX k1 (hg k (ym _));have hml:dY m m':=fun id p h=>k5.old id p (hI.hp.lt id p h) h
 refine⟨c+1+k,Ft,⟨by lia,h2,?_,h3,?_,?_,g1,fun id p h=>.inl (k1.lt id p h),?_,?_,?_,by rw[RY];exact hI.size,by rw[Xr];exact hI.defers,.inr (by simpa using hw),?_⟩⟩
 .intro j hj HP;rcases vN (yay hj) with e | hj
  .exact (hD j).2 (.inr e)
  .rcases ua j st with g | g
   .exact (hD j).2 (.inl (hI.before j g HP))
   .exact (hI.KN j g hj HP).elim
 .refine h4.imp (fun h=>h) (fun h=>⟨h,fun hc=>?_⟩);have⟨rc,hrc,mN⟩:=h;rcases (hD _).1 hc with g | g
  .exact hI.behind _ rc (by lia) hrc (by lia) g
  .lia
 .intro j rj hj HQ hk PU;rcases (hD j).1 PU with g | g
  .exact hI.behind j rj (by lia) HQ hk g
  .lia
 .exact aij hG hI.tm hr hi gm ja hD hml (fun b hb=>g2 b (k5.sub b hb)) (fun b hb=>k5.still b hb) hd (pN (fun _ _ h=>h) g2 (fun _ _=>rfl) _ _ k4)
 .exact (hI.VQ.trans (k5.BT hI.ge)).trans (g4 (bK 0))
 .have:=(hg k (ym _)).Ae
  have:=hI.ge
  lia
 .intro j hj;rcases ua c j with g | g
  .obtain ⟨k',rfl⟩:∃k',j=c+1+k':=⟨j-(c+1),by lia⟩;exact (hg k' (by lia)).lt
  .exact hI.KO j g
def atz{q:Op}(h:bG q≠2):ru q=q:=by
 cases q<;>first
  | rfl
  | exact absurd rfl h
def ae9{x y:bk}{l:List bk}(h:Uk x y l):¬(bG x.op=2/\1<=bG y.op)/\(1<=bG x.op->bG y.op=2->x.guard=Iy/\∃sz ag t,x.op=.ld sz ag (.t t)):=by
 obtain⟨_,h⟩:=h;have ex:Nb x y l=ycO->x.guard=Iy/\∃sz ag t,x.op=.ld sz ag (.t t):=by
  intro he;unfold Nb at he
  grind
 have k2:∀q:Op,bG q<=2:=fun q=>by
  cases q with
  | Aa k x lo hi=>cases k<;>simp[bG]
  | len k x=>rcases k with _ | _ | k<;>simp[bG]
  | call md f xs=>cases md<;>simp[bG]
  | _=>simp[bG]
 constructor
 .rintro ⟨h1,h2⟩;rcases h with h | h
  .have:bG y.op=1\/bG y.op=2:=by grind
   rcases this with e | e<;>(simp only[MM,h1,e] at h;cases h)
  .obtain ⟨_,sz,ag,t,e⟩:=ex h;rw[e] at h1;cases h1
 .intro h1 h2;rcases h with h | h
  .have:bG x.op=1\/bG x.op=2:=by grind
   rcases this with e | e<;>(simp only[MM,h2,e] at h;cases h)
  .exact ex h
def atA(hC:sf O self)(hH:im O H)(hG:BP O H self ops rs cl bS bK vF)(hn:H.n<=n0)(hI:Inv O ops rs cl bS bK D m0 S0 w0 n0 d0 st c m S w a)(hr:rs[i]? =Ix r)(ho:ops[i]? =Ix o)(hi:¬D i)(gm:∀j,Ord ops j i->D j)(ja:∀j,Ord ops i j->¬D j)(hD:∀j,D' j↔D j\/j=i){K:Act->yt->Prop}(hK:∀st' c' m' S' w' a',Inv O ops rs cl bS bK D' m0 S0 w0 n0 d0 st' c' m' S' w' a'->K a' w'):wpOpIn (WF ro) 0 O.P ops Q i K a w:=by
 have cR:=hG.of i r o hr ho;have aaF:=avW hG hI.tm hr hi gm ja;have aK:=hG.run.step i r hr;have hd:∀d,r.dst=Ix d->d<a.tmps.size:=by
  rw[cR.dst];exact agW cR.ok (by rw[hI.size];exact hn)
 have oG:=hI.stc;have pC:1<=bG r.op->i<=c:=by
  intro hk;rcases ua c i with hci | hci
  .have KK:i<rs.length:=(vt.1 hr).1;rcases hI.cut with h | ⟨⟨rc,hrc,mN⟩,PL⟩
   .omega
   .rcases hG.pair c i rc r hci hrc hr with h | h
    .exact (PL (gm c h)).elim
    .exact ((ae9 h).1 ⟨mN,hk⟩).elim
  .exact hci
 have hwc:mQ rs i->i=c:=by
  intro hw;obtain⟨dn,h1,h2⟩:=hw;rw[hr] at h1;injection h1 with h1
  subst h1;have h3:=pC (by omega);rcases vN h3 with e | h3
  .exact e
  .rcases ua i st with g | g
   .exact (hi (hI.before i g ⟨r,hr,h2⟩)).elim
   .exact (hI.KN i g h3 ⟨r,hr,h2⟩).elim
 have aY:1<=bG r.op->¬mQ rs i->i<c:=by
  intro hk hw;rcases vN (pC hk) with e | h
  .subst e;rcases hI.cut with h | h
   .have KK:i<rs.length:=(vt.1 hr).1;omega
   .exact (hw h.1).elim
  .exact h
 have mN:¬mQ rs i->bG r.op=0\/i<c:=fun hw=>by
  rcases xE (bG r.op) with h | h
  .exact .inl h
  .exact .inr (aY h hw)
 unfold wpOpIn;simp only[ho];unfold fT at aK
 cases FA:zN (cl i) r.guard with
 | none=>simp[FA] at aK
 | some b=>
  have hwn:=afZ cR.guard (fun t ht=>aaF t (by simp[Gv,ht])) FA;rw[hwn]
  cases b with
  | false=>
   simp only[FA,yc,yD] at aK;obtain⟨hv,hh,hc⟩:=aK;simp only[yH,xr];refine⟨fun _ _=>trivial,?_⟩;have fH:∀m S w,ak O.ai m S w (vF i) undef:=fun m S w=>by rw[<-hv];simp[ak,aE,undef]
   rw[<-cR.dst];rcases uX (mQ rs i) with hw | hw
   .have e:=hwc hw;subst e;obtain⟨c',Ft,h⟩:=aik hG hI hr hi gm ja hD hd hw (m':=m) (S':=S) (w':=w) (u:=undef) (by rw[<-hh,<-hc];exact hI.hp) (by omega) (fH _ _ _) (by rw[<-hh];exact cE.refl)
    exact hK _ _ _ _ _ _ h
   .exact hK _ _ _ _ _ _ (Yi hG hI hr hi gm ja hD hd hw (mN hw) (m':=m) (S':=S) (w':=w) (u:=undef) hI.hp dY.refl (fun _ _ h=>.inl h) (fH _ _ _) cE.refl)
  | true=>
   simp only[FA] at aK;simp only[xL];have nK:=aeI cR.op aK;have VR:cp O m S w (cT (cl i) (nX r.op)) a.tmps:=fun t=>by
    rcases uX (t∈nX r.op) with h | h
    .rw [RZ h];exact aaF t (by simp[Gv,h])
    .have:ab (cT (cl i) (nX r.op)) t=.undef:=by
      clear aaF aK;revert h;generalize nX r.op=l;intro h
      induction l with
      | nil=>rfl
      | cons x l ih=>
       simp only[cT,ab];have hx:yG x t=ycP:=by
        cases hq:yG x t with
        | false=>rfl
        | true=>exact absurd (by rw[yz hq];exact xA) h
       rw[hx];exact ih (fun h'=>h (xi _ h'))
     rw[this];simp only[ak]
   have FB:bq O.prog O.a8 self (cT (cl i) (nX r.op)) (bS i) (bK i) (ru r.op)=Ix (vF i,bS (i+1),bK (i+1)):=
    arE (fun t ht=>RZ ht) aK
   have ajp:¬mQ rs i->ru r.op=r.op:=fun hw=>atz (fun h=>hw ⟨r,hr,h⟩)
   have now:¬mQ rs i->bB (cT (cl i) (nX r.op)) (bS c) r.op=Ix (vF i)->Oper.wpIn (WF ro) 0 O.P o a w K Q:=by
    intro hw pD;have mM:∃k,r.op=bn O.P H k o:=by
     rcases cR.op with h | ⟨cc,f,rr,_,_,h⟩ | ⟨_,_,_,_,_,_,_,h⟩
     .exact h
     .rw [h] at pD;simp[bB] at pD
     .rw [h] at pD;simp[bB] at pD
    obtain⟨k,hk⟩:=mM;rw[hk] at pD;rw[hk] at VR;obtain⟨u,h1,h2⟩:=ah4 hH VR hI.hp pD;refine SX nK h1 (.inl rfl) ?_;rw[<-cR.dst];exact hK _ _ _ _ _ _ (Yi hG hI hr hi gm ja hD hd hw (mN hw) hI.hp dY.refl (fun _ _ h=>.inl h) h2 cE.refl)
   rcases uX (mQ rs i) with hw | hw
   .have e:=hwc hw;subst e;refine agV hC hH (aqC cR.op) nK FB VR hI.hp (fun u m' S' w' k1 k2 k3 k4=>?_);rw[<-cR.dst];obtain⟨c',Ft,h⟩:=aik hG hI hr hi gm ja hD hd hw k1 k2 k3 k4;exact hK _ _ _ _ _ _ h
   .rcases xE (bG r.op) with hk | hk
    .have FB:=ajp hw▸FB;obtain⟨h1,_,_⟩:=agX (.inl hk) FB;exact now hw (by rw[arv hk (bS c) (bS i)];exact h1)
    .have Fv:=aY hk hw;rcases ua i st with aaG | aaG
     .
      rcases hI.iV with h0 | h0
      .omega
      .have bm:D (st-1):=hI.before _ (by omega) h0;have cu:i≠st-1:=fun e=>hi (e▸bm)
       obtain⟨rp,hrp,hkp⟩:=h0;rcases hG.pair i (st-1) r rp (by omega) hr hrp with h | h
       .exact (ja _ h bm).elim
       .obtain ⟨hg,sz,ag,t,mM⟩:=(ae9 h).2 hk hkp;have hl:=aew (c:=c) hG hr hi ⟨hg,mM⟩ hI.cn (fun j hj HP=>by
         rcases ua j st with g | g
         .exact hI.before j g HP
         .exact (hI.KN j g hj HP).elim) ja hI.KO (c-(i+1)) (by omega)
        rw[show i+1+(c-(i+1))=c by omega] at hl;refine now hw ?_;rw[mM];simp only[bB,aC];rw[RZ (by simp[nX,mG])];exact hl
     .have jS:=RG hG hI (x:=i+1) (y:=c) (by omega) Fv (ym _);have PV:=RG hG hI (x:=st) (y:=i) (ym _) aaG (by omega)
      refine quiet_step (Hq:=bS c) (cH:=bK c) hC hH (Nf hr hw) cR.op nK (ajp hw▸FB) jS.le jS.Ae (hI.KO i (by omega)) ?_ VR hI.hp (fun u m' S' w' k1 k2 k3 k4 k5=>?_)
      .intro id h1 h2
       cases hm:m id with
       | none=>rfl
       | some p=>
        rcases hI.dom id p hm with h | ⟨j,q1,q2,q3,q4,q5⟩
        .have:=PV.Ae;omega
        .rcases Nat.lt_trichotomy j i with g | g | g
         .have:=(RG hG hI (x:=j+1) (y:=i) (by omega) g (by omega)).Ae;omega
         .subst g;exact (hi q3).elim
         .have:=(RG hG hI (x:=i+1) (y:=j) (by omega) g (by omega)).Ae;omega
      .rw [<-cR.dst];exact hK _ _ _ _ _ _ (Yi hG hI hr hi gm ja hD hd hw (.inr Fv) k1 k2 (fun id p h=>(k3 id p h).imp (fun h=>h) (fun h=>⟨aaG,Fv,h.1,h.2⟩)) k4 k5)
def left(n:Nat)(listed:Array Bool):Nat:=(List.range n).countP fun i=> !listed.getD i ycP
def atB{n:Nat}{i:Nat}(hi:i<n)(hs:listed.size=n)(hl:listed.getD i ycO=ycP):left n (listed.setIfInBounds i ycO)+1=left n listed:=by
 have key:∀(l:List Nat),l.Nodup->(i∈l->(l.countP fun j=> !(listed.setIfInBounds i ycO).getD j ycP)+1=l.countP fun j=> !listed.getD j ycP)/\(i∉l->(l.countP fun j=> !(listed.setIfInBounds i ycO).getD j ycP)=l.countP fun j=> !listed.getD j ycP):=by
  intro l
  induction l with
  | nil=>intro _;exact⟨fun h=>(by cases h),fun _=>rfl⟩
  | cons x l ih=>
   intro nK;have hx:x≠i->(listed.setIfInBounds i ycO).getD x ycP=listed.getD x ycP:=fun h=>getD_set_ne ycP (ycA h)
   refine⟨fun hm=>?_,fun hm=>?_⟩
   .rw [ybA,ybA];by_cases e:x=i
    .simp_all
    .grind
   .grind
 exact (key _ List.nodup_range).1 (List.mem_range.2 hi)
def arF{n:Nat}(h:left n listed=0):∀i,i<n->listed.getD i ycP=ycO:=by
 unfold left at h
 simp_all
def arG(hs:listed.size=ops.size)(hb:∀(i:Nat) (o:xk),ops[i]? =Ix o->∀e,e∈o.after->Region.binds .any e=ycO->e.on<i)(h:Region.ready .any ops listed=[]):∀i,i<ops.size->listed.getD i ycP=ycO:=by
 intro i
 induction i using vX with
 | _ i ih=>
  intro hi
  cases hq:listed.getD i ycP with
  | true=>rfl
  | false=>
   have:i∈Region.ready .any ops listed:=by
    refine mem_ready.2 ⟨?_,ops[i],by simp[hi],fun e he Ce=>?_⟩
    .have aY:i<listed.size:=by lia
     simp only[vB,aY,Array.getElem?_eq_getElem,vQ] at hq ⊢;exact hq
    .have:=hb i ops[i] (by simp[hi]) e he Ce
     exact ih e.on this (by lia)
   rw[h] at this;cases this
def avX(hG:BP O H self ops rs cl bS bK vF)(hI:Inv O ops rs cl bS bK D m0 S0 w0 n0 d0 st c m S w a)(qh:∀i,i<rs.length->D i):
  aW O m S w (bS rs.length) (bK rs.length)/\cp O m S w (cl rs.length) a.tmps/\cE m0 S0 w0 (bS 0) m S w (bS rs.length) (bK 0)/\bK 0<=bK rs.length:=by
 have hc:c=rs.length:=by
  rcases hI.cut with h | ⟨⟨r,h1,_⟩,h2⟩
  .grind
  .grind
 subst hc;refine⟨hI.hp,fun t=>?_,hI.VQ,hI.ge⟩;have⟨j,h1,h2,h3⟩:=hI.tm t;obtain⟨k,hk⟩:∃k,rs.length=j+k:=⟨rs.length-j,by lia⟩
 have:=MR (t:=t) (i:=j) hG.run k (by lia) (fun l r g1 g2 hl hd=>by
  have:=(h2 l r hl hd).1 (qh l (vt.1 hl).1)
  lia)
 grind
def ayy(hC:sf O self)(hH:im O H)(hG:BP O H self ops rs cl bS bK vF)(hn:H.n<=n0)(hQ:∀a' m' S' w',aW O m' S' w' (bS rs.length) (bK rs.length)->bK 0<=bK rs.length->cp O m' S' w' (cl rs.length) a'.tmps->cE m0 S0 w0 (bS 0) m' S' w' (bS rs.length) (bK 0)->a'.tmps.size=n0->a'.defers=d0->Q .normal a' w'):
  ∀(bA:Nat) (listed:Array Bool) (st c:Nat) (m:Mp) (S:Nat->Prop) (w:yt) (a:Act),listed.size=ops.size->left ops.size listed=bA->Zo ops (fun i=>listed.getD i ycP=ycO)->
   Inv O ops rs cl bS bK (fun i=>listed.getD i ycP=ycO) m0 S0 w0 n0 d0 st c m S w a->wpAnyIn (WF ro) 0 O.P .any ops Q bA listed a w:=by
 have fin:∀(listed:Array Bool) (st c:Nat) (m:Mp) (S:Nat->Prop) (w:yt) (a:Act),Inv O ops rs cl bS bK (fun i=>listed.getD i ycP=ycO) m0 S0 w0 n0 d0 st c m S w a->(∀i,i<ops.size->listed.getD i ycP=ycO)->Q .normal a w:=by
  intro listed st c m S w a hI qh;have⟨h1,h2,h3,h4⟩:=avX hG hI (fun i hi=>qh i (by rw[<-hG.len];exact hi))
  exact hQ a m S w h1 h4 h2 h3 hI.size hI.defers
 intro bA
 induction bA with
 | zero=>
  intro listed st c m S w a hs hl hc hI;have qh:=arF hl;refine⟨?_,fin listed st c m S w a hI qh⟩;rw[List.eq_nil_iff_forall_not_mem];intro i hm;have⟨h1,o,ho,_⟩:=mem_ready.1 hm
  grind
 | succ bA ih=>
  intro listed st c m S w a hs hl hc hI;refine⟨fun h=>fin listed st c m S w a hI (arG hs hG.back h),fun i hm=>?_⟩;have⟨h1,o,ho,h2⟩:=mem_ready.1 hm;have hi:i<ops.size:=(xT.1 ho).1;have hr:rs[i]? =Ix (rs[i]'(by rw[hG.len];exact hi)):=by simp[hG.len,hi]
  have aY:i<listed.size:=by lia
  have hni:¬listed.getD i ycP=ycO:=by
   grind
  have hD:∀j,(listed.setIfInBounds i ycO).getD j ycP=ycO↔listed.getD j ycP=ycO\/j=i:=by
   intro j;by_cases e:j=i
   .simp_all
   .rw [getD_set_ne ycP (ycA e)];simp[e]
  refine atA hC hH hG hn hI hr ho hni (af1 hc i o ho h2) (fun j hj PU=>?_) hD (fun st' c' m' S' w' a' hI'=>ih (listed.setIfInBounds i ycO) st' c' m' S' w' a' (by simp[hs]) ?_ ?_ hI')
  .have hjl:j<ops.size:=by
    grind
   exact hni (aty hc (show ops[j]? =Ix ops[j] by simp[hjl]) PU hj)
  .have:=atB hi hs h1
   lia
  .intro j oj hoj hj e he hb;rw[hD];rcases (hD j).1 hj with g | g
   .exact .inl (hc j oj hoj g e he hb)
   .grind
end
end
section
open Go
def aqE{F:Fence}{n:Nat}{P:xM}{Q:td->Act->yt->Prop}{a:Act}{w:yt}{c:vG}(h:c.wpIn F n P Q a w)(hg:∀l a w,¬Q (.goto l) a w):(Code.scope c).wpIn F n P Q a w:=by
 intro b k cs cR hb hr;have h0:(lone (b.atR a (.code (.scope c)::k)) cs w).fenced P F:=fenced_calm hb hr rfl;have s0:step P (lone (b.atR a (.code (.scope c)::k)) cs w)=.next (lone (b.atR a (.code c:: .inScope c::k)) cs w):=step_lone_go (by simp[stepG,stepG.exec,Frame.atR]);have⟨e,a₁,w₁,hq,He⟩:=h b (.inScope c::k) cs cR hb hr;have hx:∀id,exitTo id (.inScope c::k)=exitTo id k:=fun id=>by simp[exitTo]
 cases e with
 | normal=>
  have s1:step P (lone (b.atR a₁ (.inScope c::k)) cs w₁)=.next (lone (b.atR a₁ k) cs w₁):=step_lone_go (by simp[stepG,stepG.exec,Frame.atR]);exact⟨.normal,a₁,w₁,hq,.head h0 s0 (StepsIn.trans He (.one (fenced_calm hb hr rfl) s1))⟩
 | exit id=>
  exact⟨.exit id,a₁,w₁,hq,fun k' hk=>.head h0 s0 (He.1 k' (by rw[hx];exact hk)),fun bt hk=>let ⟨k₁,h1,h2⟩:=He.2 bt (by rw[hx];exact hk);⟨k₁,h1,.head h0 s0 h2⟩⟩
 | goto l=>exact (hg _ _ _ hq).elim
 | ret=>exact⟨_,a₁,w₁,hq,.of_steps (.one h0 s0) He⟩
 | panic ch=>exact⟨_,a₁,w₁,hq,.of_steps (.one h0 s0) He⟩
 | outgrown=>exact⟨_,a₁,w₁,hq,.of_steps (.one h0 s0) He⟩
def AP:Ex->td
 | .normal=>.normal
 | .ret=>.ret
 | .exit id=>.exit id
def Marks(lo:Nat)(S:Nat->Prop)(w:yt)(ds:List yai):Prop:=∃rs:List Nat,ds=rs.map (fun r=>{target:=.collected r,args:=#[]})/\rs.Nodup/\
 ∀r,r∈rs->w.heap[r]? =Ix (.deferred (Ix []))/\¬S r/\lo<=r
def CS(ro:Option Nat)(w:yt):Prop:=∀l,ro=Ix l->∃r:uW,w.heap[l]? =Ix (.loop r)
section
variable {O:bC}{m:Mp}{S:Nat->Prop}{w:yt}{hp:Hp}{ct:Nat}
def agY(hh:aW O m S w hp ct){b:Nat}(h:fe m hp b):∀x,w.heap[b]?≠Ix (.deferred x):=by
 intro x hx;obtain⟨id,o,p,h1,h2,rfl⟩:=h;have h3:=hh.obj id o p h1 h2
 cases o with
 | cells rw pu ex sz cs=>have⟨q,arr,t,g1,g2,_⟩:=h3;rw[h2] at g1;injection g1 with g1;subst g1;rw[hx] at g2;cases g2
 | mp rw ks vs=>have⟨q,es,clock,g1,g2,_⟩:=h3;rw[h2] at g1;injection g1 with g1;subst g1;rw[hx] at g2;cases g2
 | si s pos=>have⟨q,t,g1,g2,_⟩:=h3;rw[h2] at g1;injection g1 with g1;subst g1;rw[hx] at g2;cases g2
 | lp tm ps cX body st pe=>have⟨q,l,hi,g1,g2,_⟩:=h3;rw[h2] at g1;injection g1 with g1;subst g1;rw[hx] at g2;cases g2
def D6(hh:aW O m S w hp ct){w':yt}{lo:Nat}(hf:cE m S w hp m' S' w' aq base){ds:List yai}(h:Marks lo S w ds):Marks lo S' w' ds:=by
 have⟨rs,h1,h2,h3⟩:=h;refine⟨rs,h1,h2,fun r hr=>?_⟩;have⟨this,h4,h5⟩:=h3 r hr;have aY:=(xT.1 this).1;have sR:¬fe m hp r:=fun ho=>agY hh ho _ this
 refine⟨(hf.same r aY sR).trans this,fun hs=>?_,h5⟩;rcases hf.new r hs with h | h | h
 .grind
 .grind
 .lia
def RH{w':yt}(hf:cE m S w hp m' S' w' aq base)(h:CS ro w):CS ro w':=fun l hl=>
 let ⟨r,hr⟩:=h l hl
 hf.loops l r hr
def fI(O:bC)(m:Mp)(S:Nat->Prop)(w:yt)(s:St)(ex:Ex)(s':St)(n lo:Nat)(e:td)(a':Act)(w':yt):Prop:=
 e=AP ex/\∃m' S',cp O m' S' w' s'.tm a'.tmps/\aW O m' S' w' s'.hp s'.ct/\s'.base=s.base/\s.base<=s'.ct/\cE m S w s.hp m' S' w' s'.hp s.base/\a'.tmps.size=n/\Marks lo S' w' a'.defers
def EE(O:bC)(h:Nat)(c:vG)(s:St)(ex:Ex)(s':St):Prop:=
 ∀(ro:Option Nat) (lo:Nat) (m:Mp) (S:Nat->Prop) (w:yt) (a:Act),CS ro w->cp O m S w s.tm a.tmps->aW O m S w s.hp s.ct->s.base<=s.ct->(O.hint h).n<=a.tmps.size->O.w0.heap.size<=lo->lo<=w.heap.size->Marks lo S w a.defers->
  c.wpIn (WF ro) 0 O.P (fI O m S w s ex s' a.tmps.size lo) a w
structure jq(O:bC):Prop where
 hint:∀h,im O (O.hint h)
 mixed:O.P.follows .mixedOrders=ycO
 prog:∀n F,O.prog n=Ix F->∃fn,O.P.funcs[O.ai n]? =Ix fn/\I8 O.P (O.hint n) fn=Ix F/\fn.name≠ "runtime.NumGoroutine"
 a8:∀n sp az r,O.a8.pure n=Ix sp->sp az=Ix r->fF O n az r
 JU:∀n sp hp ct az v aq bc,O.a8.heap n=Ix sp->sp hp ct az=Ix (v,aq,bc)->ED O n hp ct az v aq bc
def R0{P:xM}{H:Hint}{ops:Array xk}:∀(rs:List bk) (l:List xk) (done:List bk) (ms:List Nat),re P H ops rs l->re P H ops (CY done rs ms) l
 | [],l,done,ms,h=>by
  cases ms<;>simpa only[CY] using h
 | r::rs,[],done,ms,h=>by simp[re] at h
 | r::rs,o::l,done,[],h=>by
  obtain⟨d,g,op⟩:=r;cases op<;>simpa only[CY] using h
 | r::rs,o::l,done,m::ms,h=>by
  obtain⟨h1,h2⟩:=h;obtain⟨d,g,op⟩:=r
  cases op with
  | lY VP f xs=>
   refine⟨?_,R0 rs l _ ms h2⟩;rcases h1 with h1 | ⟨_,h1⟩
   .refine .inl ⟨?_,h1.dst,h1.ok,h1.guard⟩;obtain⟨c,f',g1,g2,g3,g4⟩:=Yd h1.op;rw[g3,g4];exact .inr (.inl ⟨c,f',_,g1,g2,rfl⟩)
   .simp [bad] at h1
  | st sz x y=>
   refine⟨?_,R0 rs l _ ms h2⟩;rcases h1 with h1 | ⟨_,h1⟩
   .refine .inl ⟨?_,h1.dst,h1.ok,h1.guard⟩;unfold stOp
    split
    .exact h1.op
    .obtain ⟨t,x',y',g1,g2,g3,g4⟩:=aBf h1.op;exact .inr (.inr ⟨t,x',y',sz,_,g1,g2,by rw[g3,g4]⟩)
   .simp [bad] at h1
  | _=>
   exact⟨h1,R0 rs l _ ms h2⟩
end
section
variable {O:bC}{self:cG}
def agZ{P:xM}{H:Hint}{ops:Array xk}:∀{rs:List bk} {l:List xk},re P H ops rs l->rs.length=l.length/\∀(i:Nat) (r:bk) (o:xk),rs[i]? =Ix r->l[i]? =Ix o->To P H ops r o\/(r.guard=Iy/\r.op=bad)
 | [],[],_=>⟨rfl,fun i r o h=>by simp at h⟩
 | [],_::_,h=>by simp[re] at h
 | _::_,[],h=>by simp[re] at h
 | r::rs,o::l,h=>by
  have⟨h1,h2⟩:=agZ h.2;refine⟨by simp[h1],fun i r' o' hr ho=>?_⟩
  cases i with
  | zero=>simp at hr ho;subst hr;subst ho;exact h.1
  | succ i=>exact h2 i r' o' (by simpa using hr) (by simpa using ho)
def arH{m:Mp}{w:yt}(hh:aW O m S w hp ct):Calm w {w with drawn:=w.drawn+1}:=⟨rfl,rfl,rfl,ym _,fun _ _=>rfl⟩
def ayz(hO:jq O)(hC:sf O self)(h:Nat)(id:Nat)(ops:Array xk)(draw:Bool)(k:Nat){s:St}(hv:eC O.prog O.a8 self (Sr O.P (O.hint h) ops draw k).1 s=Ix s'):EE O h (.region id ops draw) s .normal s':=by
 intro ro lo m S w a cR ht hh hb hn bj fy ck;unfold Sr at hv;have VS:=ae7 (P:=O.P) (H:=O.hint h) (ops:=ops) ops.toList k;generalize hq:Gm O.P (O.hint h) ops ops.toList k=q at hv VS;obtain⟨l,k'⟩:=q;simp only at hv VS;have post:∀{a':Act} {m':Mp} {S':Nat->Prop} {w':yt},aW O m' S' w' s'.hp s'.ct->s.ct<=s'.ct->cp O m' S' w' s'.tm a'.tmps->cE m S w s.hp m' S' w' s'.hp s.ct->a'.tmps.size=a.tmps.size->a'.defers=a.defers->s'.base=s.base->fI O m S w s .normal s' a.tmps.size lo .normal a' w':=by
  intro a' m' S' w' h1 h2 h3 h4 h5 h6 h7;exact⟨rfl,m',S',h3,h1,h7,by omega,h4.BT hb,h5,by rw[h6];exact D6 hh h4 ck⟩
 cases draw with
 | false=>
  simp only[y5] at hv;refine wpIn_region ?_;rw[List.range_eq_range'];have hl:ops.size=ops.toList.length:=by simp
  rw[hl];exact aih hC (hO.hint h) ops.toList l 0 s s' a m S w (fun j=>by simp) VS hv ht hh hn (fun a' m' S' w' h1 h2 h3 h4 h5 h6 h7=>post h1 h2 h3 h4 h5 h6 h7)
 | true=>
  simp only[yN] at hv
  cases qI:(MN ops.toList 0&&IW [] (CY [] l (qc [] ops.toList)) (qc [] ops.toList)) with
  | false=>
   rw[qI] at hv;simp[eC,bad,bq,fP,aC] at hv
  | true=>
   rw[qI] at hv;simp only[yN] at hv;simp only[yj] at qI;have alH:=R0 l ops.toList [] (qc [] ops.toList) VS;generalize CY [] l (qc [] ops.toList)=rs at hv qI alH;obtain⟨hlen,au⟩:=agZ alH;obtain⟨cl,bS,bK,vF,hR,e1,e2,e3,e4,e5,e6,e7⟩:=aii hv;have hG:BP O (O.hint h) self ops rs cl bS bK vF:=by
    refine⟨hR,by rw[hlen];simp,fun i r o hr ho=>?_,fun i j x y HN hx hy=>?_,fun i o ho e he hbd=>?_⟩
    .rcases au i r o hr (by simpa using ho) with g | ⟨g1,g2⟩
     .grind
     .have:=hR.step i r hr
      simp[fT,g1,zN,g2,bad,bq,fP,aC] at this
    .obtain ⟨mm,g1,g2⟩:=aeu (done:=[]) (i:=i) (j:=j) (a:=x) (b:=y) qI.2 (by simpa using hx) hy (by simpa using HN);refine g2.imp (fun g=>?_) (fun g=>by simpa using g);unfold Ord
     grind
    .have:=aep qI.1 (j:=i) (o:=o) (by simpa using ho) e he hbd
     omega
   refine wpIn_region_any hO.mixed ?_;have Od:=arH hh;have lC:=IM hh Od (S':=S) (fun _ h=>h) (fun _ h=>.inl h) hh.slt
   have KM:cE m S w s.hp m S {w with drawn:=w.drawn+1} s.hp (bK 0):=Ge hh Od (fun _ h=>h) (fun _ h=>.inl h);obtain⟨c,c1,c2,c3,c4⟩:=Zp rs rs.length 0 (by omega);have hg:∀k',k'<=c->jX (bS 0) (bK 0) (bS (0+k')) (bK (0+k')):=fun k' A2=>
    RF hR (by rw[e2,e3];exact hh.aY) k' (by omega) (fun j r g1 g2 hr=>Nf hr (c3 j g1 (by omega)))
   have jS:=hg c (ym _);rw[yd] at jS;obtain⟨S1,g1,g2,g3,g4⟩:=RX (by rw[e2,e3];exact lC:aW O m S {w with drawn:=w.drawn+1} (bS 0) (bK 0)) jS
   have BO:∀i,(uH ops.size ycP).getD i ycP=ycO->False:=fun i hi=>by
    simp only[vB] at hi
    grind
   refine ayy (m0:=m) (S0:=S) (w0:=w) (n0:=a.tmps.size) (d0:=a.defers) hC (hO.hint h) hG hn (fun a' m' S' w' h1 h2 h3 h4 h5 h6=>?_) ops.size _ 0 c m S1 _ a (by simp) ?_ (fun j o _ hj=>(BO j hj).elim) ?_
   .rw [e5,e6] at h1;rw[e3,e6] at h2;rw[e4] at h3;rw[e2,e3,e5] at h4;exact post h1 h2 h3 h4 h5 h6 e7
   .unfold left;rw[List.countP_eq_length.2]
    .simp
    .intro i hi;simp only[tn]
     cases hq:(uH ops.size ycP).getD i ycP with
     | false=>rfl
     | true=>exact (BO i hq).elim
   .refine ⟨uO _,c2,fun i hi=>by omega,c3,c4.imp (fun h=>h) (fun h=>⟨h,fun hd=>BO c hd⟩),fun i r _ _ _ hd=>BO i hd,g1,fun id p hp=>.inl (by rw[e3];exact hh.lt id p hp),fun t=>⟨0,uO _,fun i r _ _=>⟨fun hd=>(BO i hd).elim,fun h=>by omega⟩,?_⟩,?_,jS.Ae,rfl,rfl,.inl rfl,fun j hj=>?_⟩
    .rw [e1];exact pN (fun _ _ h=>h) (fun b hb=>g2 b hb) (fun b hb=>Od.same b (hh.slt b hb)) _ _ (ht t)
    .rw [e2];have g5:=g4 (bK 0);rw[e2] at g5;exact KM.trans g5
    .have:=(hg j hj).lt
     rw[yd] at this;exact this
end
end
section
open Go
section
variable {ps:List Nat}{b l:Nat}{P:xM}
section
variable {O:bC}{m:Mp}{S:Nat->Prop}{w:yt}{hp:Hp}{ct:Nat}
def afa(hh:aW O m S w hp ct){g:Nat}{w':yt}(hw:One w w' g)(hg:¬S g)(ho:¬fe m hp g)(bj:O.w0.heap.size<=g):aW O m S w' hp ct:=by
 have aK:iE S w w':=fun b hb=>hw.other b (fun e=>hg (e▸hb))
 refine⟨fun id o p h1 h2=>?_,hh.lt,hh.inj,fun b hb=>by rw[hw.size];exact hh.slt b hb,fun id p h=>by rw[hw.size];exact hh.blt id p h,hh.low,fun b hb=>?_,by rw[hw.size];exact hh.iG,hh.aY⟩
 .exact Bp (fun _ _ h=>h) (fun _ h=>h) aK (fun q hq=>hw.other _ (fun e=>ho ⟨id,o,q,h1,hq,e⟩)) (fun _ _ h=>h) (hh.obj id o p h1 h2)
 .rw [hw.other b (by lia)];exact hh.nF b hb
def afb{o:yaf}(h:w.heap[b]? =Ix o)(hc:∀c t f,o≠.cells c t f):(getObj b).run P w=.ok o w:=by
 simp only[getObj,Sem.run,h]
def Ru{o x:yaf}(h:w.heap[b]? =Ix o)(hc:∀c t f,o≠.cells c t f):(setObj b x).run P w=.ok () {w with heap:=w.heap.setIfInBounds b x}:=by
 simp only[setObj,Sem.run,h]
def ME{r:uW}(h:w.heap[b]? =Ix (.loop r)):(Instr.getLoop b).run P w=.ok r w:=by
 simp only[Instr.getLoop,Sem.run_bind,afb (P:=P) h (fun _ _ _=>by simp),Result.andThen_ok,Sem.run_pure]
def Ng(hh:aW O m S w hp ct){st:Nat}(hg:au hp l=Ix (.lp tm ps cX body st pe))(hm:m l=Ix p):
  ∃(r:uW) (h:Nat),w.heap[p.b]? =Ix (.loop r)/\¬S p.b/\r.state=EW st/\st<=2/\r.pending=CR pe/\cp O m S w tm r.tmps/\r.params.toList=ps/\Fs O.P (O.hint h) cX r.assign/\Fs O.P (O.hint h) body r.body/\
   (O.hint h).n<=r.tmps.size/\CZ (O.hint h).n ps=ycO:=by
 have⟨q,r,h,g1,g2,g3⟩:=hh.obj l _ p hg hm
 grind
def af3(hh:aW O m S w hp ct){st:Nat}(hg:au hp l=Ix (.lp tm ps cX body st pe))(hm:m l=Ix p){r:uW}(hr:w.heap[p.b]? =Ix (.loop r)){st':Nat}{pe':C9}(h2:st'<=2):
  aW O m S {w with heap:=w.heap.setIfInBounds p.b (.loop {r with state:=EW st',pending:=CR pe'})} (aV hp l (.lp tm ps cX body st' pe')) ct/\
  cE m S w hp m S {w with heap:=w.heap.setIfInBounds p.b (.loop {r with state:=EW st',pending:=CR pe'})} (aV hp l (.lp tm ps cX body st' pe')) ct:=by
 have⟨r',h,g1,g2,g3,g4,g5,g6,g7,g8,g9,g10,g11⟩:=Ng hh hg hm;rw[hr] at g1;injection g1 with g1
 injection g1 with g1
 subst g1;have ia:=IE w p.b (.loop {r with state:=EW st',pending:=CR pe'})
 refine MW hh hg hm g2 ia ⟨p,{r with state:=EW st',pending:=CR pe'},h,hm,Rj hr,g2,rfl,h2,rfl,?_,g7,g8,g9,g10,g11⟩ (fun _ _=>⟨_,Rj hr⟩);exact D5 (fun _ _ h=>h) (fun _ h=>h) (fun b hb=>ia.other b (fun e=>g2 (e▸hb))) g6
def af4{n:Nat}:∀{ps:List Nat} {vs:List AV} {us:List yr} {tm tm':Env} {tmps:Array yr},BA tm ps vs=Ix tm'->aE O.ai m S w vs us->cp O m S w tm tmps->n<=tmps.size->CZ n ps=ycO->
  ps.length=us.length/\cp O m S w tm' ((ps.zip us).foldl (fun t (x:Nat×yr)=>t.setIfInBounds x.1 x.2) tmps)/\((ps.zip us).foldl (fun t (x:Nat×yr)=>t.setIfInBounds x.1 x.2) tmps).size=tmps.size
 | [],[],us,tm,tm',tmps,h,hr,ht,hn,ha=>by
  simp only[BA,yc] at h;simp only[aE] at hr
  simp_all
 | [],_::_,us,tm,tm',tmps,h,hr,ht,hn,ha=>by simp[BA] at h
 | _::_,[],us,tm,tm',tmps,h,hr,ht,hn,ha=>by simp[BA] at h
 | p::ps,v::vs,us,tm,tm',tmps,h,hr,ht,hn,ha=>by
  simp only[BA] at h;obtain⟨u,t,rfl,h1,h2⟩:=hr;simp only[CZ,yj] at ha;have hp:=CJ.1 ha.1;have ht1:cp O m S w ((p,v)::tm) (tmps.setIfInBounds p u):=Yg (a:=⟨tmps,[]⟩) (d:=Ix p) ht (fun i hi=>by injection hi with hi;show i<tmps.size;lia) h1
  have⟨g1,g2,g3⟩:=af4 (n:=n) h h2 ht1 (by simpa using hn) ha.2
  simp_all
def atD(ps:Array Tmp)(args:Array yr)(tmps:Array yr):(ps.zip args).foldl (fun tmps (x:Tmp×yr)=>tmps.setIfInBounds x.1 x.2) tmps=(ps.toList.zip args.toList).foldl (fun t (x:Nat×yr)=>t.setIfInBounds x.1 x.2) tmps:=by
 rw[<-Array.foldl_toList,Array.toList_zip]
def apS{r:uW}(h:w.heap[b]? =Ix (.loop r))(jump:Option vG):
  (Instr.endRound b jump).run P w=.ok (.bool jump.isNone) {w with heap:=w.heap.setIfInBounds b (.loop {r with state:=if jump.isNone then .ready else .done,pending:=jump})}:=by
 simp only[Instr.endRound,Sem.run_bind,ME h,Result.andThen_ok,Ru (P:=P) h (fun _ _ _=>by simp),Sem.run_pure]
def apG{r:uW}(h:w.heap[b]? =Ix (.loop r))(hs:r.state=.ready):
  (Instr.beginRound b).run P w=.ok () {w with heap:=w.heap.setIfInBounds b (.loop {r with state:=.busy})}:=by
 simp only[Instr.beginRound,Sem.run_bind,ME h,Result.andThen_ok,Ru (P:=P) h (fun _ _ _=>by simp),hs,Sem.run_pure]
def atE(hS:∀v s ex s',self v s=Ix (ex,s')->∀c h l k,(comp O.P (O.hint h) c l k).1=v->EE O h c s ex s'){xs:List AV}(hv:se self hp ct l xs=Ix (v,aq,bc)):ajm O hp ct l xs v aq bc:=by
 intro m S w args p hh hm jt;unfold se at hv
 split at hv
 case h_2=>cases hv
 rename_i tm ps cX body pe hg;have⟨r,h,g1,g2,g3,g4,g5,g6,g7,⟨ca,ka,g8⟩,⟨cb,kb,g9⟩,g10,g11⟩:=Ng hh hg hm
 cases hb:BA tm ps xs with
 | none=>simp[hb] at hv
 | some tm'=>
  simp only[hb] at hv;have⟨b1,b2,b3⟩:=af4 hb jt g6 g10 g11;rw[<-g7] at b1 b2 b3;have fL:args.size=r.params.size:=by
   grind
  let tmps:Array yr:=(r.params.zip args).foldl (fun tmps (x:Tmp×yr)=>tmps.setIfInBounds x.1 x.2) r.tmps
  have alI:tmps=(r.params.toList.zip args.toList).foldl (fun t (x:Nat×yr)=>t.setIfInBounds x.1 x.2) r.tmps:=atD _ _ _;refine⟨r.fn,tmps,r.assign,r.body,?_,?_⟩
  .simp only [Instr.yield,Sem.run_bind,ME g1,Result.andThen_ok,fL,ybY,tB,xr,Sem.run_pure];rfl
  refine roundIn_of_wpIn (F:=Fence.wide) trivial ?_
  cases h1:self cX ⟨tm',hp,ct,ct⟩ with
  | none=>simp[h1] at hv
  | some q=>
   have⟨ex1,s1⟩:=q
   cases ex1 with
   | ret=>simp[h1] at hv
   | exit id=>simp[h1] at hv
   | normal=>
    simp only[h1] at hv;have fh:=hS _ _ _ _ h1 r.assign h ca ka g8;have cR:∀w',cE m S w hp m S w' hp ct->CS (Ix p.b) w':=fun w' hf=>RH hf (fun l hl=>⟨r,by injection hl with hl;subst hl;exact g1⟩)
    refine wpIn_mono (fh (Ix p.b) w.heap.size m S w ⟨tmps,[]⟩ (cR w cE.refl) (by rw[alI];exact b2) hh (ym _) (by show _<=tmps.size;rw[alI,b3];exact g10) hh.iG (ym _) ⟨[],rfl,by simp,by simp⟩) ?_
    rintro e a1 w1 ⟨rfl,m1,S1,k1,k2,k3,k4,k5,k6,k7⟩;simp only[AP,Exit.then];have Ag:m1 l=Ix p:=k5.old l p (hh.lt l p hm) hm
    split at hv
    case h_2=>cases hv
    rename_i mi HJ Fp G1 Dw jS;have⟨r1,lC,f1,f2,f3,f4,f5,f6,f7,f8,f9,f10,f11⟩:=Ng k2 jS Ag;have hbr:=apG (P:=O.P) f1 f3;have⟨q1,q2⟩:=af3 k2 jS Ag f1 (st':=1) (pe':=Dw) (by lia)
    have bQ:({r1 with state:=EW 1,pending:=CR Dw}:uW)={r1 with state:=.busy}:=by rw[<-f5];rfl
    rw[bQ] at q1 q2;refine⟨_,hbr,?_⟩
    cases h2:self body ⟨s1.tm,aV s1.hp l (.lp mi HJ Fp G1 1 Dw),s1.ct,s1.ct⟩ with
    | none=>simp[h2] at hv
    | some q=>
     have⟨ex,s2⟩:=q;simp only[h2] at hv;have Cg:=hS _ _ _ _ h2 r.body h cb kb g9
     have Um:CS (Ix p.b) {w1 with heap:=w1.heap.setIfInBounds p.b (.loop {r1 with state:=.busy})}:=fun l hl=>by
      grind
     have ht2:cp O m1 S1 {w1 with heap:=w1.heap.setIfInBounds p.b (.loop {r1 with state:=.busy})} s1.tm a1.tmps:=
      D5 (fun _ _ h=>h) (fun _ h=>h) (fun b hb=>q2.still b hb) k1
     have aDs:(O.hint h).n<=a1.tmps.size:=by
      grind
     refine wpIn_mono (Cg (Ix p.b) w.heap.size m1 S1 _ a1 Um ht2 q1 (ym _) aDs hh.iG (xB k5.size q2.size) (D6 k2 q2 k7)) ?_;rintro e a2 w2 ⟨rfl,m2,S2,j1,j2,j3,j4,j5,j6,j7⟩;have VT:m2 l=Ix p:=j5.old l p (k2.lt l p Ag) Ag
     split at hv
     case h_2=>cases hv
     rename_i A1 PI PJ Oa pe2 KP;have⟨r2,PW,d1,d2,d3,d4,d5,d6,d7,d8,d9,d10,d11⟩:=Ng j2 KP VT;have aDt:cE m S w hp m2 S2 w2 s2.hp ct:=(k5.trans (q2.BT k4)).trans (j5.BT k4);have alJ:ct<=s2.ct:=xB k4 j4;have fin:∀(jump:Option vG) (st':Nat) (pe':C9),CR pe'=jump->EW st'=(if jump.isNone then .ready else .done)->st'<=2->
       ∃v' w',(Instr.endRound p.b jump).run O.P w2=.ok v' w'/\CB O m S w hp ct (.bool jump.isNone) (aV s2.hp l (.lp A1 PI PJ Oa st' pe')) s2.ct (.returned v') w':=by
      intro jump st' pe' e1 e2 e3;have⟨z1,z2⟩:=af3 j2 KP VT d1 (st':=st') (pe':=pe') e3;rw[e1,e2] at z1 z2;exact⟨_,_,apS d1 jump,_,m2,S2,rfl,z1,alJ,by simp[ak],aDt.trans (z2.BT alJ)⟩
     cases ex with
     | normal=>
      simp only[yc,yD] at hv;obtain⟨rfl,rfl,rfl⟩:=hv;simp only[AP,roundPost];exact fin Iy 0 .none rfl rfl (by lia)
     | ret=>
      simp only[Zk,yc,yD] at hv;obtain⟨rfl,rfl,rfl⟩:=hv;simp only[AP,roundPost];exact fin (Ix .ret) 2 .ret rfl rfl (by lia)
     | exit id=>
      simp only[Zk,yc,yD] at hv;obtain⟨rfl,rfl,rfl⟩:=hv;simp only[AP,roundPost];exact fin (Ix (.exit id)) 2 (.exit id) rfl rfl (by lia)
end
end
end
section
open Go
section
variable {O:bC}{self:cG}
def R1{P:xM}{f:tL}{fn:yaF}{args:Array yr}{w:yt}(hf:P.funcs[f]? =Ix fn)(hb:fn.body.isSome=ycO)(hn:fn.name≠ "runtime.NumGoroutine"):(callFunc f args).run P w=.ok (.enter f args) w:=by
 have h1:fn.body≠Iy:=fun e=>by rw[e] at hb;cases hb
 simp[callFunc,program,Sem.run,hf,h1,hn]
def Xf{P:xM}{H:Hint}{fn:yaF}{F:aw}(h:I8 P H fn=Ix F):∃c,fn.body=Ix c/\F.body=(comp P H c 0 0).1/\zC P fn.results.toList=Ix F.eG/\H.n<=fn.ntmps:=by
 unfold I8 at h
 split at h
 .rename_i c rs h1 h2
  cases hb:yO H.n fn.ntmps with
  | false=>rw[hb] at h;cases h
  | true=>
   rw[hb] at h;simp only[yN,yc] at h;subst h
   simp_all
 .cases h
def atF{m:Mp}{w:yt}{a:Act}(fn:tL)(ps:Array Tmp)(assign body:vG){h:Nat}(hh:aW O m S w hp ct)(ht:cp O m S w tm a.tmps)(cR:CS ro w)(PX:Fs O.P (O.hint h) cX assign)(hcb:Fs O.P (O.hint h) b' body)(hn:(O.hint h).n<=a.tmps.size)(dX:CZ (O.hint h).n ps.toList=ycO){lo:Nat}(fy:lo<=w.heap.size)(ck:Marks lo S w a.defers):
  ∃l mark w1,(Instr.enterLoop fn a.tmps ps assign body ro).run O.P w=.ok (l,mark) w1/\aW O (hZ m ct ⟨l,0,0,0⟩) S w1 ((ct,.lp tm ps.toList cX b' 0 .none)::hp) (ct+1)/\
   cE m S w hp (hZ m ct ⟨l,0,0,0⟩) S w1 ((ct,.lp tm ps.toList cX b' 0 .none)::hp) ct/\m ct=Iy/\Marks lo S w1 (mark++a.defers)/\w.heap.size<=l:=by
 have bN:m ct=Iy:=by
  cases hq:m ct with
  | none=>rfl
  | some p=>have:=hh.lt ct p hq;omega
 have lay:∀(w':yt) (d:Nat),Calm w w'->Marks lo S w' a.defers->
   aW O (hZ m ct ⟨w'.heap.size,0,0,0⟩) S (w'.alloc (.loop {state:=.ready,pending:=Iy,fn:=fn,tmps:=a.tmps,params:=ps,assign:=assign,body:=body,defers:=d})) ((ct,.lp tm ps.toList cX b' 0 .none)::hp) (ct+1)/\
   cE m S w hp (hZ m ct ⟨w'.heap.size,0,0,0⟩) S (w'.alloc (.loop {state:=.ready,pending:=Iy,fn:=fn,tmps:=a.tmps,params:=ps,assign:=assign,body:=body,defers:=d})) ((ct,.lp tm ps.toList cX b' 0 .none)::hp) ct:=by
  intro w' d hw alK;have lC:aW O m S w' hp ct:=IM hh hw (fun _ h=>h) (fun _ h=>.inl h) (fun b hb=>yT (hh.slt b hb) hw.size);have KM:cE m S w hp m S w' hp ct:=Ge hh hw (fun _ h=>h) (fun _ h=>.inl h);have hg:jX hp ct ((ct,.lp tm ps.toList cX b' 0 .none)::hp) (ct+1):=by
   refine⟨fun id o ho=>⟨o,?_,mj.refl o⟩,by omega,fun id o ho=>?_,fun id o ho hi=>?_⟩
   .rw [jK,yx (by have:=hh.aY id o ho;omega)];exact ho
   .rw [jK] at ho;by_cases hc:ct=id
    .omega
    .simp only [hc,xr] at ho;have:=hh.aY id o ho;omega
   .rw [jK,yx (by omega)] at ho;exact⟨o,ho⟩
  have fM:∀i q,au ((ct,Obj.lp tm ps.toList cX b' 0 .none)::hp) i=Ix q->i≠ct->au hp i=Ix q:=fun i q h hi=>by
   rw[jK,yx (fun e=>hi e.symm)] at h;exact h
  have PW:aW O m S w' ((ct,.lp tm ps.toList cX b' 0 .none)::hp) (ct+1):=by
   have cu:∀id p,m id=Ix p->id≠ct:=fun id p hm e=>by have:=hh.lt id p hm;omega
   exact⟨fun id o p ho hm=>lC.obj id o p (fM id o ho (cu id p hm)) hm,fun id p hm=>by have:=hh.lt id p hm;omega,
    fun i j oi oj pi pj hi hj bN iU e=>lC.inj i j oi oj pi pj (fM i oi hi (cu i pi bN)) (fM j oj hj (cu j pj iU)) bN iU e,lC.slt,lC.blt,lC.low,lC.nF,lC.iG,hg.lt⟩
  have sO:gZ O (hZ m ct ⟨w'.heap.size,0,0,0⟩) S (w'.alloc (.loop {state:=.ready,pending:=Iy,fn:=fn,tmps:=a.tmps,params:=ps,assign:=assign,body:=body,defers:=d})) ct (.lp tm ps.toList cX b' 0 .none):=by
   refine⟨⟨w'.heap.size,0,0,0⟩,_,h,fk,heap_alloc_new w' _,?_,rfl,by omega,rfl,?_,rfl,PX,hcb,hn,dX⟩
   .intro hS
    have:=lC.slt _ hS
    simp at this
   .exact D5 (nU bN) (fun _ h=>h) (fun b hb=>(MI lC _ b hb).trans (hw.same b (hh.slt b hb))) ht
  obtain⟨S',k1,k2,k3⟩:=agM (i:=ct) (p:=⟨w'.heap.size,0,0,0⟩) PW bN (by omega) rfl (fun o ho=>by
   rw[jK] at ho;simp only[xL,yc] at ho;subst ho
   exact .inl ⟨sO,by simp[lL]⟩)
  have k1':aW O (hZ m ct ⟨w'.heap.size,0,0,0⟩) S (w'.alloc (.loop {state:=.ready,pending:=Iy,fn:=fn,tmps:=a.tmps,params:=ps,assign:=assign,body:=body,defers:=d})) ((ct,.lp tm ps.toList cX b' 0 .none)::hp) (ct+1):=by
   have PO:∀id q,m id=Ix q->q.b≠w'.heap.size:=fun id q hq=>by have:=lC.blt id q hq;lia
   refine⟨?_,k1.lt,k1.inj,fun b hb=>k1.slt b (k2 b hb),k1.blt,k1.low,k1.nF,k1.iG,k1.aY⟩;intro id o q ho hm;by_cases hc:id=ct
   .subst hc;rw[jK] at ho
    grind
   .rw [fj hc] at hm;exact Bp (nU bN) (fun _ h=>h) (MI lC _) (fun q' bO=>alloc_old (lC.blt id q' bO)) (fun _ _ h=>h) (lC.obj id o q (fM id o ho hc) hm)
  refine⟨k1',KM.trans ⟨rfl,rfl,rfl,by simp,fun b hb _=>alloc_old hb,fun _ h=>h,fun b hb=>MI lC _ b hb,fun b hb=>.inl hb,?_,fun i q _ hq=>nU bN i q hq,fun b r hb=>⟨r,(alloc_old (xT.1 hb).1).trans hb⟩⟩⟩;rintro b ⟨i,o,q,g1,g2,g3⟩;by_cases hc:i=ct
  .subst hc;rw[fk] at g2
   grind
  .rw [fj hc] at g2;exact .inl ⟨i,o,q,fM i o g1 hc,g2,g3⟩
 cases ro with
 | none=>
  have Od:Calm w (w.alloc (.deferred (Ix []))):=⟨rfl,rfl,rfl,by simp,fun b hb=>alloc_old hb⟩;have⟨rs,r1,r2,r3⟩:=ck;have aDu:Marks lo S (w.alloc (.deferred (Ix []))) a.defers:=⟨rs,r1,r2,fun r hr=>⟨(alloc_old (xT.1 (r3 r hr).1).1).trans (r3 r hr).1,(r3 r hr).2⟩⟩;have⟨k1,k2⟩:=lay (w.alloc (.deferred (Ix []))) w.heap.size Od aDu
  refine⟨(w.alloc (.deferred (Ix []))).heap.size,[{target:=.collected w.heap.size,args:=#[]}],_,?_,k1,k2,bN,?_,by simp⟩
  .simp [Instr.enterLoop,newObj,Sem.run]
  .have hold:∀(b:Nat) (x:yaf),(w.alloc (.deferred (Ix []))).heap[b]? =Ix x->((w.alloc (.deferred (Ix []))).alloc (.loop {state:=.ready,pending:=Iy,fn:=fn,tmps:=a.tmps,params:=ps,assign:=assign,body:=body,defers:=w.heap.size})).heap[b]? =Ix x:=fun b x hb=>
    (alloc_old (xT.1 hb).1).trans hb
   refine⟨w.heap.size::rs,by rw[r1];rfl,?_,?_⟩
   .grind
   .intro r hr;rcases wj.1 hr with rfl | hr
    .exact ⟨hold _ _ (heap_alloc_new w _),fun hs=>by have:=hh.slt _ hs;lia,fy⟩
    .exact ⟨hold _ _ ((alloc_old (xT.1 (r3 r hr).1).1).trans (r3 r hr).1),(r3 r hr).2⟩
 | some l0=>
  have⟨r0,gK⟩:=cR l0 rfl;have⟨k1,k2⟩:=lay w r0.defers Calm.refl ck;refine⟨w.heap.size,[],_,?_,k1,k2,bN,?_,ym _⟩
  .simp [Instr.enterLoop,ME gK,newObj,Sem.run]
  .exact D6 hh k2 ck
def aBg(hO:jq O)(hC:sf O self){h:Nat}{f:xN}{ps:Array Tmp}{assign body:vG}(PX:Fs O.P (O.hint h) cX assign)(hcb:Fs O.P (O.hint h) b' body)(dX:CZ (O.hint h).n ps.toList=ycO){s:St}(hv:bH O.prog O.a8 self (.rf (aS (O.hint h) f) ps.toList cX b') s=Ix (ex,s')):EE O h (.rangeFunc f ps assign body) s ex s':=by
 intro ro lo m S w a cR ht hh hb hn bj fy ck;simp only[bH] at hv
 split at hv
 case h_2=>cases hv
 rename_i n first cap hx
 split at hv
 case h_1=>cases hv
 rename_i hL
 cases he:kN O.prog O.a8 self ((s.ct,.lp s.tm ps.toList cX b' 0 .none)::s.hp) (s.ct+1) n (first++(.fn (.y s.ct) [] []::cap)) with
 | none=>simp[he] at hv
 | some q=>
  have⟨v,bm,Ch⟩:=q;simp only[he] at hv
  split at hv
  case h_2=>cases hv
  rename_i A1 PI PJ Oa st pe KP
  cases aK:yG st 1 with
  | true=>rw[aK] at hv;cases hv
  | false=>
   rw[aK] at hv;simp only[y5] at hv;refine wpIn_rangeFunc (fun fn _=>?_);have⟨l,mark,w1,e1,e2,e3,e4,e5,e6⟩:=atF (ro:=ro) fn ps assign body hh ht cR PX hcb hn dX fy ck;have rf:=cO (hO.hint h) ht f;rw[hx] at rf;simp only[ak] at rf;have⟨fi,ca,hf,r2,r3⟩:=rf;have hle:=nU e4 (p:=⟨l,0,0,0⟩);have JV:iE S w w1:=fun b hb=>e3.still b hb
   have jt:aE O.ai (hZ m s.ct ⟨l,0,0,0⟩) S w1 (first++(.fn (.y s.ct) [] []::cap)) (fi++#[Value.func (.yield l) #[] #[]]++ca).toList:=by
    have:=pL (jJ hle (fun _ h=>h) JV _ _ r2) (pL (a:=[.fn (.y s.ct) [] []]) (x:=[Value.func (.yield l) #[] #[]]) (by
     simp only[aE]
     exact⟨_,[],rfl,by simp only[ak];exact⟨_,fk,rfl⟩,rfl⟩) (jJ hle (fun _ h=>h) JV _ _ r3))
    grind
   have ZZ:=hC.heap _ _ _ _ _ _ _ he _ S w1 _ e2 jt;have hP:∃F,O.prog n=Ix F:=by
    unfold kN at he;rw[hL] at he
    cases hq:O.prog n with
    | none=>simp[hq] at he
    | some F=>exact⟨F,rfl⟩
   have⟨F,hF⟩:=hP;have⟨fn',q1,q2,q3⟩:=hO.prog n F hF;have⟨cb,q4,_⟩:=Xf q2;have ir:(callFunc (O.ai n) (fi++#[Value.func (.yield l) #[] #[]]++ca)).run O.P w1=.ok (.enter (O.ai n) (fi++#[Value.func (.yield l) #[] #[]]++ca)) w1:=R1 q1 (by rw[q4];rfl) q3
   refine⟨l,mark,w1,{target:=.fn (.func (O.ai n)) ca,args:=fi++#[Value.func (.yield l) #[] #[]]},w1,O.ai n,fi++#[Value.func (.yield l) #[] #[]]++ca,w1,e1,?_,fun _ _=>trivial,?_,fun hd=>by simp[WF,Fence.wide] at hd,?_⟩
   .show Sem.run O.P (Deferred.ofValue (a.eval f) _) w1=_
    rw[hf];simp[Deferred.ofValue,Act.eval]
   .simp only [invoke];exact ir
   .rcases ZZ with ⟨_,ZZ⟩ | ⟨u,w',h1,_⟩
    case inr=>rw[ir] at h1;cases h1
    have ayA:CallsIn (WF ro) 0 O.P (O.ai n) (fi++#[Value.func (.yield l) #[] #[]]++ca) w1 (CB O (hZ m s.ct ⟨l,0,0,0⟩) S w1 ((s.ct,.lp s.tm ps.toList cX b' 0 .none)::s.hp) (s.ct+1) v bm Ch):=ZZ;refine CallsIn.mono ayA ?_;rintro e w3 ⟨u,m',S',rfl,k1,k2,k3,k4⟩;have iT:m' s.ct=Ix ⟨l,0,0,0⟩:=k4.old s.ct _ (Nat.lt_succ_self _) fk;have⟨r,PW,d1,d2,d3,d4,d5,d6,_⟩:=Ng k1 KP iT;have Ah:(r.state==LoopState.busy)=ycP:=by
     rw[d3];rcases st with _ | _ | st
     .rfl
     .simp_all
     .have:st=0:=by lia
      subst this;rfl
    have ia:=IE w3 l (.loop {r with state:=.exhausted});have hdl:=agU k1 s.ct;have sR:¬fe m' (eJ bm s.ct) l:=aeF k1 KP iT
    have z1:aW O m' S' {w3 with heap:=w3.heap.setIfInBounds l (.loop {r with state:=.exhausted})} (VE.eJ bm s.ct) Ch:=afa hdl ia d2 sR (by have:=hh.iG;lia)
    have z2:cE m' S' w3 bm m' S' {w3 with heap:=w3.heap.setIfInBounds l (.loop {r with state:=.exhausted})} (VE.eJ bm s.ct) s.base:=by
     refine⟨rfl,rfl,rfl,by rw[ia.size];exact ym _,fun b _ hb=>ia.other b (fun e=>hb (e▸Nv KP iT)),fun _ h=>h,fun b hb=>ia.other b (fun e=>d2 (e▸hb)),fun b hb=>.inl hb,fun b hb=>.inl (aie hb),fun _ _ _ h=>h,fun b x hb=>?_⟩
     grind
    have aaH:cE m S w s.hp m' S' {w3 with heap:=w3.heap.setIfInBounds l (.loop {r with state:=.exhausted})} (VE.eJ bm s.ct) s.base:=
     ((e3.BT hb).trans (k4.BT (by lia))).trans z2
    have Un:(Instr.endLoop l).run O.P w3=.ok (CR pe) {w3 with heap:=w3.heap.setIfInBounds l (.loop {r with state:=.exhausted})}:=by
     simp only[Instr.endLoop,Sem.run_bind,ME d1,Result.andThen_ok,Ah,yH,xr,Sem.run_pure,Ru (P:=O.P) d1 (fun _ _ _=>by simp),d5]
    have alK:Marks lo S' {w3 with heap:=w3.heap.setIfInBounds l (.loop {r with state:=.exhausted})} (mark++a.defers):=D6 k1 z2 (D6 e2 k4 e5)
    have DE:cp O m' S' {w3 with heap:=w3.heap.setIfInBounds l (.loop {r with state:=.exhausted})} s.tm a.tmps:=by
     refine D5 (fun id p hp=>?_) aaH.sub (fun b hb=>aaH.still b hb) ht;have h1:=hh.lt id p hp;exact k4.old id p (by lia) (hle id p hp)
    have post:∀ex',s'={s with hp:=VE.eJ bm s.ct,ct:=Ch}->ex=ex'->fI O m S w s ex s' a.tmps.size lo (AP ex') {a with defers:=mark++a.defers} {w3 with heap:=w3.heap.setIfInBounds l (.loop {r with state:=.exhausted})}:=by
     rintro ex' rfl rfl;exact⟨rfl,m',S',DE,z1,rfl,by show s.base<=Ch;lia,aaH,rfl,alK⟩
    refine⟨_,_,Un,?_⟩
    cases pe with
    | none=>
     simp only[yc,yD] at hv;exact post .normal hv.2.symm hv.1.symm
    | ret=>
     simp only[yc,yD] at hv;exact wpIn_ret (post .ret hv.2.symm hv.1.symm)
    | exit id=>
     simp only[yc,yD] at hv;exact wpIn_exit (post (.exit id) hv.2.symm hv.1.symm)
end
end
def Le(f g:cG):Prop:=∀c s r,f c s=Ix r->g c s=Ix r
section
variable {P:aJ}{L:Lib}{f g:cG}
def Xa(h:Le f g)(n:Nat)(az:List AV)(r:AV)(hr:bM P L f n az=Ix r):bM P L g n az=Ix r:=by
 unfold bM at hr ⊢
 cases hL:L.pure n with
 | some sp=>simpa only[hL] using hr
 | none=>
  simp only[hL] at hr ⊢
  cases hP:P n with
  | none=>simp[hP] at hr
  | some F=>
   simp only[hP] at hr ⊢
   cases hf:f F.body ⟨fY 0 az,[],0,0⟩ with
   | none=>simp[hf] at hr
   | some q=>rw[h _ _ _ hf];simpa only[hf] using hr
def Xg(h:Le f g)(hp:Hp)(ct:Nat)(n:Nat)(az:List AV)(r:AV×Hp×Nat)(hr:kN P L f hp ct n az=Ix r):kN P L g hp ct n az=Ix r:=by
 unfold kN at hr ⊢
 cases hL:L.heap n with
 | some sp=>simpa only[hL] using hr
 | none=>
  simp only[hL] at hr ⊢
  cases hP:P n with
  | none=>simp[hP] at hr
  | some F=>
   simp only[hP] at hr ⊢
   cases hf:f F.body ⟨fY 0 az,hp,ct,ct⟩ with
   | none=>simp[hf] at hr
   | some q=>rw[h _ _ _ hf];simpa only[hf] using hr
def aex(h:Le f g)(hp:Hp)(ct:Nat)(l:Nat)(xs:List AV)(r:AV×Hp×Nat)(hr:se f hp ct l xs=Ix r):se g hp ct l xs=Ix r:=by
 unfold se at hr ⊢
 cases hl:au hp l with
 | none=>simp[hl] at hr
 | some o=>
  simp only[hl] at hr ⊢
  split at hr
  .rename_i tm ps cX body pe A6
   cases hb:BA tm ps xs with
   | none=>simp[hb] at hr
   | some tm'=>
    simp only[hb] at hr ⊢
    cases h1:f cX ⟨tm',hp,ct,ct⟩ with
    | none=>simp[h1] at hr
    | some q=>
     rw[h _ _ _ h1];simp only[h1] at hr ⊢
     split at hr
     .rename_i s1 aDv
      split at hr
      .rename_i mi HJ Fp G1 Dw aDw
       cases h2:f body ⟨s1.tm,aV s1.hp l (.lp mi HJ Fp G1 1 Dw),s1.ct,s1.ct⟩ with
       | none=>simp[h2] at hr
       | some q2=>rw[h _ _ _ h2];simpa only[h2] using hr
      .simp at hr
     .simp at hr
  .simp at hr
def aeK(h:Le f g)(hp:Hp)(ct:Nat)(m:Md)(fv:AV)(xs:List AV)(r:AV×Hp×Nat)(hr:fP P L f hp ct m fv xs=Ix r):fP P L g hp ct m fv xs=Ix r:=by
 unfold fP at hr ⊢
 split at hr
 .rename_i n first cap
  cases m with
  | pure=>
   cases hz:cm deep hp (first++(xs++cap)) with
   | none=>simp[hz] at hr
   | some q=>
    simp only[hz] at hr ⊢
    cases hc:bM P L f n q.1 with
    | none=>simp[hc] at hr
    | some u=>rw[Xa h n q.1 u hc];simpa only[hc] using hr
  | own=>
   cases hz:cm deep hp (first++(xs++cap)) with
   | none=>simp[hz] at hr
   | some q=>
    simp only[hz] at hr ⊢
    cases hc:bM P L f n q.1 with
    | none=>simp[hc] at hr
    | some u=>rw[Xa h n q.1 u hc];simpa only[hc] using hr
  | heap=>exact Xg h _ _ _ _ _ hr
  | dyn=>
   cases hz:aD (first++(xs++cap)) with
   | true=>
    simp only[hz,yN] at hr ⊢
    cases hc:bM P L f n (first++(xs++cap)) with
    | none=>simp[hc] at hr
    | some u=>rw[Xa h n _ u hc];simpa only[hc] using hr
   | false=>
    simp only[hz,y5] at hr ⊢;exact Xg h _ _ _ _ _ hr
 .split at hr
  .exact aex h _ _ _ _ _ hr
  .exact aex h _ _ _ _ _ hr
  .simp at hr
 .simp at hr
def af5(h:Le f g)(tm:Env)(hp:Hp)(ct:Nat)(o:Op)(r:AV×Hp×Nat)(hr:bq P L f tm hp ct o=Ix r):bq P L g tm hp ct o=Ix r:=by
 unfold bq at hr ⊢
 split at hr
 .exact aeK h _ _ _ _ _ _ hr
 .rename_i rs fv xs
  cases hc:fP P L f hp ct .dyn (aC tm fv) (dU tm xs) with
  | none=>simp[hc] at hr
  | some q=>rw[aeK h _ _ _ _ _ _ hc];simpa only[hc] using hr
 all_goals simpa only using hr
def Rv(h:Le f g):∀(ops:List bk) (s s':St),eC P L f ops s=Ix s'->eC P L g ops s=Ix s'
 | [],s,s',hr=>by simpa only[eC] using hr
 | ⟨d,gd,o⟩::r,s,s',hr=>by
  simp only[eC] at hr ⊢
  split at hr
  .rename_i hw
   cases ho:bq P L f s.tm s.hp s.ct o with
   | none=>simp[ho] at hr
   | some q=>rw[af5 h _ _ _ _ _ ho];simp only[ho] at hr ⊢;exact Rv h r _ _ hr
  .rename_i hw
   (try simp only[hw]);exact Rv h r _ _ hr
  .simp at hr
def Ar(h:Le f g):∀(c:VC) (s:St) (r:Ex×St),bH P L f c s=Ix r->bH P L g c s=Ix r
 | .skip,s,r,hr=>by simpa only[bH] using hr
 | .oB ops,s,r,hr=>by
  simp only[bH] at hr ⊢
  cases ho:eC P L f ops s with
  | none=>simp[ho] at hr
  | some s'=>rw[Rv h _ _ _ ho];simpa only[ho] using hr
 | .seq a b,s,r,hr=>by
  simp only[bH] at hr ⊢
  cases ha:bH P L f a s with
  | none=>simp[ha] at hr
  | some q=>
   rw[Ar h a s q ha];obtain⟨ex,s1⟩:=q
   cases ex with
   | normal=>simp only[ha] at hr ⊢;exact Ar h b s1 r hr
   | ret=>simpa only[ha] using hr
   | exit id=>simpa only[ha] using hr
 | .cond x a b,s,r,hr=>by
  simp only[bH] at hr ⊢
  split at hr
  .rename_i t ht
   cases t with
   | true=>simp only[yN] at hr ⊢;exact Ar h a s r hr
   | false=>simp only[y5] at hr ⊢;exact Ar h b s r hr
  .simp at hr
 | .jj id a,s,r,hr=>by
  simp only[bH] at hr ⊢
  cases ha:bH P L f a s with
  | none=>simp[ha] at hr
  | some q=>rw[Ar h a s q ha];simpa only[ha] using hr
 | .kp live,s,r,hr=>by simpa only[bH] using hr
 | .fz ts,s,r,hr=>by simpa only[bH] using hr
 | .loop live a,s,r,hr=>by
  simp only[bH] at hr ⊢
  cases ha:bH P L f a (bW live s) with
  | none=>simp[ha] at hr
  | some q=>
   rw[Ar h a _ q ha];obtain⟨ex,s1⟩:=q
   cases ex with
   | normal=>simp only[ha] at hr ⊢;exact h _ _ _ hr
   | ret=>simpa only[ha] using hr
   | exit id=>simpa only[ha] using hr
 | .rf fv ps cX body,s,r,hr=>by
  simp only[bH] at hr ⊢
  split at hr
  .rename_i n first cap hx
   split at hr
   .grind
   .rename_i hL
    cases hc:kN P L f ((s.ct,.lp s.tm ps cX body 0 .none)::s.hp) (s.ct+1) n (first++(.fn (.y s.ct) [] []::cap)) with
    | none=>simp[hc] at hr
    | some q=>rw[Xg h _ _ _ _ _ hc];simpa only[hc] using hr
  .simp at hr
 | .exit id,s,r,hr=>by simpa only[bH] using hr
 | .ret,s,r,hr=>by simpa only[bH] using hr
end
def Nh(P:aJ)(L:Lib)(c:VC)(s:St):ev P L 0 c s=Iy:=rfl
def SA(P:aJ)(L:Lib)(n:Nat):ev P L (n+1)=bH P L (ev P L n):=rfl
def akb(P:aJ)(L:Lib):∀n,Le (ev P L n) (ev P L (n+1))
 | 0=>fun c s r h=>by rw[Nh] at h;cases h
 | n+1=>fun c s r h=>by
  exact Ar (akb P L n) c s r h
def YP(P:aJ)(L:Lib){n m:Nat}(h:n<=m):Le (ev P L n) (ev P L m):=by
 induction h with
 | refl=>exact fun _ _ _ h=>h
 | step _ ih=>exact fun c s r hr=>akb P L _ c s r (ih c s r hr)
section
open Go
section
variable {ex:Ex}{lo n:Nat}{s:St}{w w':yt}
section
variable {O:bC}{self:cG}
def fI.none{m:Mp}{a:Act}(l:Nat):¬fI O m S w s ex s' n lo (.goto l) a w':=by
 rintro⟨h,_⟩;cases ex<;>cases h
def fI.then{m m1:Mp}{S1:Nat->Prop}{w1:yt}{s2:St}{a':Act}{e:td}{ex1:Ex}(h1:s1.base=s.base)(hf:cE m S w s.hp m1 S1 w1 s1.hp s.base)(h:fI O m1 S1 w1 s1 ex s2 n lo e a' w'):fI O m S w s ex s2 n lo e a' w':=by
 have⟨h2,m',S',k1,k2,k3,k4,k5,k6,k7⟩:=h;rw[h1] at k3 k4 k5;exact⟨h2,m',S',k1,k2,k3,k4,hf.trans k5,k6,k7⟩
def fI.cT{m:Mp}{a':Act}{e:td}(live:List Nat)(h:fI O m S w s ex s1 n lo e a' w'):fI O m S w s ex (bW live s1) n lo e a' w':=by
 have⟨h2,m',S',k1,k2,k3,k4,k5,k6,k7⟩:=h;have⟨m2,g1,g2,g3,g4,g5⟩:=Xq (live:=live) k1 k2 (by rw[k3];exact k4)
 rw[k3] at g3 g4 g5;exact⟨h2,m2,S',g1,g2,g3,g4,k5.trans g5,k6,D6 k2 g5 k7⟩
def akc{m:Mp}{w:yt}{tmps:Array yr}:∀{ts:List Nat} {s s1:St} {S:Nat->Prop},cp O m S w s.tm tmps->aW O m S w s.hp s.ct->zM ts s=Ix s1->
  ∃S1,cp O m S1 w s1.tm tmps/\aW O m S1 w s1.hp s1.ct/\s1.base=s.base/\s1.ct=s.ct/\∀base,cE m S w s.hp m S1 w s1.hp base
 | [],s,s1,S,ht,hh,h=>by
  simp only[zM,yc] at h;subst h;exact⟨S,ht,hh,rfl,rfl,fun _=>cE.refl⟩
 | t::r,s,s1,S,ht,hh,h=>by
  simp only[zM] at h
  cases hz:freeze deep s.hp (ab s.tm t) with
  | none=>simp[hz] at h
  | some q=>
   have⟨v,hp⟩:=q;simp only[hz] at h;have⟨h1,h2,h3⟩:=XF (O:=O) hz;have hg:jX s.hp s.ct hp s.ct:=⟨h1,ym _,fun id o ho=>(by
     have:=h2 id
     rw[ho] at this
     cases hq:au s.hp id with
     | none=>rw[hq] at this;simp at this
     | some o'=>exact hh.aY id o' hq),fun id o ho _=>(by
     have:=h2 id
     rw[ho] at this
     cases hq:au s.hp id with
     | none=>rw[hq] at this;simp at this
     | some o'=>exact⟨o',rfl⟩)⟩
   have⟨S',k1,k2,k3,k4⟩:=RX hh hg;have DE:cp O m S' w ((t,v)::s.tm) tmps:=by
    intro i;simp only[ab]
    cases hb:yG t i with
    | true=>
     have:=yz hb
     subst this;exact (h3 hp m S' w s.ct dJ.refl k1).1 _ (pN (fun _ _ h=>h) k2 (fun _ _=>rfl) _ _ (ht t))
    | false=>
     exact pN (fun _ _ h=>h) k2 (fun _ _=>rfl) _ _ (ht i)
   have⟨S1,g1,g2,g3,g4,g5⟩:=akc (s:={s with tm:=(t,v)::s.tm,hp:=hp}) DE k1 h;exact⟨S1,g1,g2,g3,g4,fun base=>(k4 base).trans (g5 base)⟩
def ail(hO:jq O)(n:Nat)(hC:∀k,k<=n->sf O (ev O.prog O.a8 k))(h:Nat):∀(c:vG) (l k:Nat) (j:Nat),j<=n->∀(s:St) (ex:Ex) (s':St),
  bH O.prog O.a8 (ev O.prog O.a8 j) (comp O.P (O.hint h) c l k).1 s=Ix (ex,s')->EE O h c s ex s':=by
 have refl:∀{s:St} {ex:Ex} {m:Mp} {S:Nat->Prop} {w:yt} {a:Act} {lo:Nat},cp O m S w s.tm a.tmps->aW O m S w s.hp s.ct->s.base<=s.ct->Marks lo S w a.defers->fI O m S w s ex s a.tmps.size lo (AP ex) a w:=
  fun h1 h2 h3 h4=>⟨rfl,_,_,h1,h2,rfl,h3,cE.refl,rfl,h4⟩
 have aaI:∀{self:cG} {s:St} {r:Ex×St},bH O.prog O.a8 self (.oB [⟨Iy,Iy,bad⟩]) s=Ix r->False:=by
  intro self s r hv;simp[bH,eC,bad,bq,fP,aC] at hv
 intro c
 induction c with
 | skip=>
  intro l k j hj s ex s' hv ro lo m S w a cR ht hh hb hn bj fy ck;simp only[comp,bH,yc,yD] at hv;obtain⟨rfl,rfl⟩:=hv;exact wpIn_skip (refl ht hh hb ck)
 | label x=>
  intro l k j hj s ex s' hv ro lo m S w a cR ht hh hb hn bj fy ck;simp only[comp,bH,yc,yD] at hv;obtain⟨rfl,rfl⟩:=hv;exact wpIn_label (refl ht hh hb ck)
 | exit id=>
  intro l k j hj s ex s' hv ro lo m S w a cR ht hh hb hn bj fy ck;simp only[comp,bH,yc,yD] at hv;obtain⟨rfl,rfl⟩:=hv
  exact wpIn_exit (refl (ex:=.exit id) ht hh hb ck)
 | ret=>
  intro l k j hj s ex s' hv ro lo m S w a cR ht hh hb hn bj fy ck;simp only[comp,bH,yc,yD] at hv;obtain⟨rfl,rfl⟩:=hv
  exact wpIn_ret (refl (ex:=.ret) ht hh hb ck)
 | goto x=>intro l k j hj s ex s' hv;exact (aaI (by simpa only[comp] using hv)).elim
 | refuse x=>intro l k j hj s ex s' hv;exact (aaI (by simpa only[comp] using hv)).elim
 | region id ops d=>
  intro l k j hj s ex s' hv;simp only[comp] at hv;generalize hq:Sr O.P (O.hint h) ops d k=q at hv;have⟨r,k'⟩:=q;have main:∀{s s':St} {ex:Ex},bH O.prog O.a8 (ev O.prog O.a8 j) (.oB r) s=Ix (ex,s')->EE O h (.region id ops d) s ex s':=by
   intro s s' ex hv;simp only[bH] at hv
   cases ho:eC O.prog O.a8 (ev O.prog O.a8 j) r s with
   | none=>simp[ho] at hv
   | some s1=>
    simp only[ho,yc,yD] at hv;obtain⟨rfl,rfl⟩:=hv;exact ayz hO (hC j hj) h id ops d k (by rw[hq];exact ho)
  simp only at hv
  split at hv
  .exact main hv
  .rename_i t ts _;simp only[bH] at hv
   cases hf:zM (t::ts) s with
   | none=>simp[hf] at hv
   | some s1=>
    simp only[hf] at hv;intro ro lo m S w a cR ht hh hb hn bj fy ck;have⟨S1,g1,g2,g3,g4,g5⟩:=akc ht hh hf;have h1:=main (s:=s1) (by simpa only[bH] using hv) ro lo m S1 w a cR g1 g2 (by rw[g3,g4];exact hb) hn bj fy (D6 hh (g5 s.base) ck)
    refine wpIn_mono h1 (fun e a' w' hp=>?_)
    exact fI.then (ex1:=.normal) g3 (g5 s.base) hp
 | seq x y ihx ihy=>
  intro l k j hj s ex s' hv ro lo m S w a cR ht hh hb hn bj fy ck;simp only[comp] at hv;generalize Ci:comp O.P (O.hint h) x l k=qx at hv;have⟨x',l1,k1⟩:=qx;simp only at hv;generalize PY:comp O.P (O.hint h) y l1 k1=qy at hv;have⟨y',l2,k2⟩:=qy;simp only[bH] at hv
  cases hx:bH O.prog O.a8 (ev O.prog O.a8 j) x' s with
  | none=>simp[hx] at hv
  | some r=>
   have⟨ex1,s1⟩:=r;have h1:=ihx l k j hj s ex1 s1 (by rw[Ci];exact hx) ro lo m S w a cR ht hh hb hn bj fy ck
   refine wpIn_seq (wpIn_mono h1 ?_);rintro e a1 w1 ⟨rfl,m1,S1,g1,g2,g3,g4,g5,g6,g7⟩;have stop:ex1≠.normal->ex=ex1/\s'=s1:=by
    intro cu;rw[hx] at hv
    cases ex1 with
    | normal=>exact absurd rfl cu
    | ret=>simp only[yc,yD] at hv;exact⟨hv.1.symm,hv.2.symm⟩
    | exit id=>simp only[yc,yD] at hv;exact⟨hv.1.symm,hv.2.symm⟩
   cases ex1 with
   | normal=>
    simp only[hx] at hv;simp only[AP,Exit.then];have h2:=ihy l1 k1 j hj s1 ex s' (by rw[PY];exact hv) ro lo m1 S1 w1 a1 (RH g5 cR) g1 g2 (by rw[g3];exact g4) (by rw[g6];exact hn) bj (xB fy g5.size) g7
    rw[g6] at h2
    exact wpIn_mono h2 (fun e a' w' hp=>fI.then (ex1:=.normal) g3 g5 hp)
   | ret=>
    obtain⟨rfl,rfl⟩:=stop (by simp);exact⟨rfl,m1,S1,g1,g2,g3,g4,g5,g6,g7⟩
   | exit id=>
    obtain⟨rfl,rfl⟩:=stop (by simp);exact⟨rfl,m1,S1,g1,g2,g3,g4,g5,g6,g7⟩
 | cond x p q ihp ihq=>
  intro l k j hj s ex s' hv ro lo m S w a cR ht hh hb hn bj fy ck;simp only[comp] at hv;generalize Ci:comp O.P (O.hint h) p (l+1) k=qx at hv;have⟨p',l1,k1⟩:=qx;simp only at hv;generalize PY:comp O.P (O.hint h) q l1 k1=qy at hv;have⟨q',l2,k2⟩:=qy;simp only at hv;have main:∀(ex:Ex) (s':St),bH O.prog O.a8 (ev O.prog O.a8 j) (.cond (aS (O.hint h) x) p' q') s=Ix (ex,s')->(Code.cond x p q).wpIn (WF ro) 0 O.P (fI O m S w s ex s' a.tmps.size lo) a w:=by
   intro ex s' hv;simp only[bH] at hv;have rx:=cO (hO.hint h) ht x
   split at hv
   .rename_i t hx;rw[hx] at rx;simp only[ak] at rx
    cases t with
    | true=>
     simp only[yN] at hv;exact wpIn_cond_true rx (ihp (l+1) k j hj s ex s' (by rw[Ci];exact hv) ro lo m S w a cR ht hh hb hn bj fy ck)
    | false=>
     simp only[y5] at hv;exact wpIn_cond_false rx (ihq l1 k1 j hj s ex s' (by rw[PY];exact hv) ro lo m S w a cR ht hh hb hn bj fy ck)
   .cases hv
  cases JW:(O.hint h).out l with
  | none=>rw[JW] at hv;exact main ex s' hv
  | some live=>
   rw[JW] at hv;simp only at hv;rw[show bH O.prog O.a8 (ev O.prog O.a8 j) (.seq (.cond (aS (O.hint h) x) p' q') (.kp live)) s=match bH O.prog O.a8 (ev O.prog O.a8 j) (.cond (aS (O.hint h) x) p' q') s with | some (.normal,s1)=>Ix (.normal,bW live s1) | r=>r from rfl] at hv
   cases hx:bH O.prog O.a8 (ev O.prog O.a8 j) (.cond (aS (O.hint h) x) p' q') s with
   | none=>simp[hx] at hv
   | some r=>
    have⟨ex1,s1⟩:=r;have h1:=main ex1 s1 hx;rw[hx] at hv
    cases ex1 with
    | normal=>
     simp only[yc,yD] at hv;obtain⟨rfl,rfl⟩:=hv;exact wpIn_mono h1 (fun e a' w' hp=>fI.cT live hp)
    | ret=>simp only[yc,yD] at hv;obtain⟨rfl,rfl⟩:=hv;exact h1
    | exit id=>simp only[yc,yD] at hv;obtain⟨rfl,rfl⟩:=hv;exact h1
 | block id x ih=>
  intro l k j hj s ex s' hv ro lo m S w a cR ht hh hb hn bj fy ck;simp only[comp] at hv;generalize Ci:comp O.P (O.hint h) x l k=qx at hv;have⟨x',r⟩:=qx;simp only at hv;have main:∀(ex:Ex) (s':St),bH O.prog O.a8 (ev O.prog O.a8 j) (.jj id x') s=Ix (ex,s')->(Code.block id x).wpIn (WF ro) 0 O.P (fI O m S w s ex s' a.tmps.size lo) a w:=by
   intro ex s' hv;simp only[bH] at hv
   cases hx:bH O.prog O.a8 (ev O.prog O.a8 j) x' s with
   | none=>simp[hx] at hv
   | some q=>
    have⟨ex1,s1⟩:=q;have h1:=ih l k j hj s ex1 s1 (by rw[Ci];exact hx) ro lo m S w a cR ht hh hb hn bj fy ck
    refine wpIn_block (wpIn_mono h1 ?_);rintro e a1 w1 ⟨rfl,g⟩
    cases ex1 with
    | normal=>
     simp only[hx,yc,yD] at hv;obtain⟨rfl,rfl⟩:=hv;exact⟨rfl,g⟩
    | ret=>
     simp only[hx,yc,yD] at hv;obtain⟨rfl,rfl⟩:=hv;exact⟨rfl,g⟩
    | exit i=>
     simp only[hx] at hv
     cases VU:yG i id with
     | true=>
      rw[VU] at hv;simp only[yN,yc,yD] at hv;obtain⟨rfl,rfl⟩:=hv
      have:=yz VU
      subst this;simp only[AP,Exit.inBlock,xL];exact⟨rfl,g⟩
     | false=>
      rw[VU] at hv;simp only[y5,yc,yD] at hv;obtain⟨rfl,rfl⟩:=hv;have cu:i≠id:=fun e=>by subst e;simp at VU
      simp only[AP,Exit.inBlock,cu,xr];exact⟨rfl,g⟩
  have aBh:∀live:List Nat,bH O.prog O.a8 (ev O.prog O.a8 j) (.seq (.jj id x') (.kp live)) s=Ix (ex,s')->(Code.block id x).wpIn (WF ro) 0 O.P (fI O m S w s ex s' a.tmps.size lo) a w:=by
   intro live hv;rw[show bH O.prog O.a8 (ev O.prog O.a8 j) (.seq (.jj id x') (.kp live)) s=match bH O.prog O.a8 (ev O.prog O.a8 j) (.jj id x') s with | some (.normal,s1)=>Ix (.normal,bW live s1) | r=>r from rfl] at hv
   cases hx:bH O.prog O.a8 (ev O.prog O.a8 j) (.jj id x') s with
   | none=>simp[hx] at hv
   | some r=>
    have⟨ex1,s1⟩:=r;have h1:=main ex1 s1 hx;rw[hx] at hv
    cases ex1 with
    | normal=>
     simp only[yc,yD] at hv;obtain⟨rfl,rfl⟩:=hv;exact wpIn_mono h1 (fun e a' w' hp=>fI.cT live hp)
    | ret=>simp only[yc,yD] at hv;obtain⟨rfl,rfl⟩:=hv;exact h1
    | exit id=>simp only[yc,yD] at hv;obtain⟨rfl,rfl⟩:=hv;exact h1
  split at hv
  .exact aBh _ hv
  .exact main ex s' hv
 | loop x ih=>
  intro l k j hj s ex s' hv;simp only[comp] at hv;generalize Ci:comp O.P (O.hint h) x (l+1) k=qx at hv;have⟨x',r⟩:=qx;simp only at hv;have rounds:∀(j:Nat),j<=n->∀(s:St) (ex:Ex) (s':St),bH O.prog O.a8 (ev O.prog O.a8 j) (.loop ((O.hint h).live l) x') s=Ix (ex,s')->∃K,∀(ro:Option Nat) (lo:Nat) (m:Mp) (S:Nat->Prop) (w:yt) (a:Act),CS ro w->cp O m S w s.tm a.tmps->aW O m S w s.hp s.ct->s.base<=s.ct->(O.hint h).n<=a.tmps.size->O.w0.heap.size<=lo->lo<=w.heap.size->Marks lo S w a.defers->
    Code.roundsIn (WF ro) 0 O.P x (fI O m S w s ex s' a.tmps.size lo) K a w:=by
   intro j
   induction j with
   | zero=>
    intro hj s ex s' hv;simp only[bH] at hv
    cases hx:bH O.prog O.a8 (ev O.prog O.a8 0) x' (bW ((O.hint h).live l) s) with
    | none=>simp[hx] at hv
    | some q=>
     have⟨ex1,s1⟩:=q;have stop:ex1≠.normal->ex=ex1/\s'=s1:=by
      intro cu;rw[hx] at hv
      cases ex1 with
      | normal=>exact absurd rfl cu
      | ret=>simp only[yc,yD] at hv;exact⟨hv.1.symm,hv.2.symm⟩
      | exit id=>simp only[yc,yD] at hv;exact⟨hv.1.symm,hv.2.symm⟩
     refine⟨1,fun ro lo m S w a cR ht hh hb hn bj fy ck=>?_⟩;rw[roundsIn_succ];have⟨m1,c1,c2,c3,c4,c5⟩:=Xq (live:=(O.hint h).live l) ht hh hb;have h1:=ih (l+1) k 0 hj _ ex1 s1 (by rw[Ci];exact hx) ro lo m1 S w a cR c1 c2 (by rw[c3];exact c4) hn bj fy ck
     refine wpIn_mono h1 ?_;rintro e a1 w1 hp;have aq:=fI.then (O:=O) (m:=m) (S:=S) (w:=w) (s:=s) (ex1:=.normal) c3 c5 hp;obtain⟨rfl,_⟩:=hp
     cases ex1 with
     | normal=>simp only[hx,Nh] at hv;cases hv
     | ret=>obtain⟨rfl,rfl⟩:=stop (by simp);exact aq
     | exit id=>obtain⟨rfl,rfl⟩:=stop (by simp);exact aq
   | succ j ihj=>
    intro hj s ex s' hv;simp only[bH] at hv
    cases hx:bH O.prog O.a8 (ev O.prog O.a8 (j+1)) x' (bW ((O.hint h).live l) s) with
    | none=>simp[hx] at hv
    | some q=>
     have⟨ex1,s1⟩:=q;have stop:ex1≠.normal->ex=ex1/\s'=s1:=by
      intro cu;rw[hx] at hv
      cases ex1 with
      | normal=>exact absurd rfl cu
      | ret=>simp only[yc,yD] at hv;exact⟨hv.1.symm,hv.2.symm⟩
      | exit id=>simp only[yc,yD] at hv;exact⟨hv.1.symm,hv.2.symm⟩
     have more:∃K,ex1=.normal->∀(ro:Option Nat) (lo:Nat) (m:Mp) (S:Nat->Prop) (w:yt) (a:Act),CS ro w->cp O m S w s1.tm a.tmps->aW O m S w s1.hp s1.ct->s1.base<=s1.ct->(O.hint h).n<=a.tmps.size->O.w0.heap.size<=lo->lo<=w.heap.size->Marks lo S w a.defers->
       Code.roundsIn (WF ro) 0 O.P x (fI O m S w s1 ex s' a.tmps.size lo) K a w:=by
      cases ex1 with
      | normal=>
       rw[hx] at hv;have gD:ev O.prog O.a8 (j+1) (.loop ((O.hint h).live l) x') s1=Ix (ex,s'):=hv;rw[SA] at gD;have⟨K,hK⟩:=ihj (by lia) s1 ex s' gD;exact⟨K,fun _=>hK⟩
      | ret=>exact⟨0,fun h=>by cases h⟩
      | exit id=>exact⟨0,fun h=>by cases h⟩
     have⟨K,hK⟩:=more;refine⟨K+1,fun ro lo m S w a cR ht hh hb hn bj fy ck=>?_⟩;rw[roundsIn_succ];have⟨m1,c1,c2,c3,c4,c5⟩:=Xq (live:=(O.hint h).live l) ht hh hb;have h1:=ih (l+1) k (j+1) hj _ ex1 s1 (by rw[Ci];exact hx) ro lo m1 S w a cR c1 c2 (by rw[c3];exact c4) hn bj fy ck
     refine wpIn_mono h1 ?_;rintro e a1 w1 hp;have aq:=fI.then (O:=O) (m:=m) (S:=S) (w:=w) (s:=s) (ex1:=.normal) c3 c5 hp;obtain⟨rfl,_⟩:=hp
     cases ex1 with
     | normal=>
      simp only[AP,Exit.then];have⟨_,m2,S2,g1,g2,g3,g4,g5,g6,g7⟩:=aq;have h2:=hK rfl ro lo m2 S2 w1 a1 (RH g5 cR) g1 g2 (by rw[g3];exact g4) (by rw[g6];exact hn) bj (xB fy g5.size) g7
      rw[g6] at h2;revert h2;generalize hA:a.tmps.size=sz;intro h2;have step:∀(K:Nat) (a':Act) (w':yt),Code.roundsIn (WF ro) 0 O.P x (fI O m2 S2 w1 s1 ex s' sz lo) K a' w'->Code.roundsIn (WF ro) 0 O.P x (fI O m S w s ex s' sz lo) K a' w':=by
       intro K
       induction K with
       | zero=>intro a' w' Fy;exact Fy
       | succ K ihK=>
        intro a' w' Fy;rw[roundsIn_succ] at Fy ⊢;refine wpIn_mono Fy (fun e a'' VG hq=>?_)
        cases e with
        | normal=>exact ihK a'' VG hq
        | exit id=>exact fI.then (ex1:=.normal) g3 g5 hq
        | goto x=>exact fI.then (ex1:=.normal) g3 g5 hq
        | ret=>exact fI.then (ex1:=.normal) g3 g5 hq
        | panic x=>exact fI.then (ex1:=.normal) g3 g5 hq
        | outgrown=>exact fI.then (ex1:=.normal) g3 g5 hq
      exact step K a1 w1 h2
     | ret=>obtain⟨rfl,rfl⟩:=stop (by simp);exact aq
     | exit id=>obtain⟨rfl,rfl⟩:=stop (by simp);exact aq
  have⟨K,hK⟩:=rounds j hj s ex s' hv;intro ro lo m S w a cR ht hh hb hn bj fy ck;exact wpIn_loop_rounds K (hK ro lo m S w a cR ht hh hb hn bj fy ck)
 | scope x ih=>
  intro l k j hj s ex s' hv ro lo m S w a cR ht hh hb hn bj fy ck;simp only[comp] at hv;exact aqE (ih l k j hj s ex s' hv ro lo m S w a cR ht hh hb hn bj fy ck) (fun l a w=>fI.none l)
 | rangeFunc f ps cX body iha ihb=>
  intro l k j hj s ex s' hv;simp only[comp] at hv;generalize Ci:comp O.P (O.hint h) cX l k=qx at hv;have⟨x',l1,k1⟩:=qx;simp only at hv;generalize PY:comp O.P (O.hint h) body l1 k1=qy at hv;have⟨y',l2,k2⟩:=qy;simp only at hv
  cases ha:CZ (O.hint h).n ps.toList with
  | false=>rw[ha] at hv;exact (aaI hv).elim
  | true=>
   rw[ha] at hv;exact aBg hO (hC j hj) ⟨l,k,by rw[Ci]⟩ ⟨l1,k1,by rw[PY]⟩ ha hv
end
end
end
section
open Go
section
variable {v:AV}{args:Array yr}{az:List AV}{n:Nat}{s:St}
section
variable {O:bC}{m:Mp}{S:Nat->Prop}{w:yt}
def af6:∀(az:List AV) (j i:Nat),ab (fY j az) (j+i)=az.getD i .undef
 | [],j,i=>by simp[fY,ab]
 | v::r,j,i=>by
  cases i with
  | zero=>simp[fY,ab]
  | succ i=>
   simp only[fY,ab];have hb:yG j (j+(i+1))=ycP:=by
    cases hq:yG j (j+(i+1)) with
    | false=>rfl
    | true=>have:=yz hq;lia
   rw[hb,show j+(i+1)=j+1+i by lia];rw[af6 r (j+1) i]
   simp
def af7(n:Nat)(h:aE O.ai m S w az args.toList):cp O m S w (fY 0 az) (args++uH n undef):=by
 intro i
 have:=af6 az 0 i
 rw[yd] at this;rw[this,yW]
 cases hv:az[i]? with
 | none=>simp only[Option.getD_none,ak]
 | some v=>
  have⟨u,h1,h2⟩:=X9 h hv;have hl:i<args.size:=by
   grind
  have:(args++uH n undef).getD i undef=u:=by
   rw[vB,Array.getElem?_append_left hl]
   grind
  grind
def JX(tmps:Array yr):ycz->Sem yr
 | .tmp t=>pure (tmps.getD t undef)
 | .cell a t=>do loadVar t (<-asAddr (tmps.getD a undef))
def aqF(fn:yaF)(tmps:Array yr):results fn tmps=(do let vs <-fn.results.mapM (JX tmps);pure (if h:vs.size=1 then vs[0] else .tuple vs)):=by
 rfl
def Xs{s:St}{ct:Nat}{tmps:Array yr}(hh:aW O m S w s.hp ct)(ht:cp O m S w s.tm tmps):∀{rs:List ycz} {rv:List RV} {vs:List AV},zC O.P rs=Ix rv->oQ s rv=Ix vs->
  ∃us,(rs.mapM (JX tmps)).run O.P w=.ok us w/\aE O.ai m S w vs us
 | [],rv,vs,h1,h2=>by
  simp only[zC,yc] at h1;subst h1;simp only[oQ,yc] at h2;subst h2;exact⟨[],by simp,by simp[aE]⟩
 | .tmp t::rs,rv,vs,h1,h2=>by
  simp only[zC] at h1
  cases hc:zC O.P rs with
  | none=>simp[hc] at h1
  | some l=>
   simp only[hc,yc] at h1;subst h1;simp only[oQ,results1] at h2
   cases hl:oQ s l with
   | none=>simp[hl] at h2
   | some PH=>
    simp only[hl,yc] at h2;subst h2;have⟨us,g1,g2⟩:=Xs hh ht hc hl;refine⟨tmps.getD t undef::us,?_,by simp only[aE];exact⟨_,_,rfl,ht t,g2⟩⟩
    rw[uP];simp only[JX,Sem.run_bind,Sem.run_pure,Result.andThen_ok];rw[g1];rfl
 | .cell a t::rs,rv,vs,h1,h2=>by
  simp only[zC] at h1
  cases hz:cY O.P t with
  | none=>simp[hz] at h1
  | some sz=>
   cases PZ:eK O.P t with
   | none=>simp[hz,PZ] at h1
   | some ag=>
    cases hc:zC O.P rs with
    | none=>simp[hz,PZ,hc] at h1
    | some l=>
     simp only[hz,PZ,hc,yc] at h1;subst h1;simp only[oQ] at h2
     cases bQ:results1 s (.cell a sz ag) with
     | none=>simp[bQ] at h2
     | some v=>
      cases hl:oQ s l with
      | none=>simp[bQ,hl] at h2
      | some PH=>
       simp only[bQ,hl,yc] at h2;subst h2;have⟨us,g1,g2⟩:=Xs hh ht hc hl;have ra:=ht a;have key:∃b o u,tmps.getD a undef=.pointer (Ix ⟨b,o,Iy⟩)/\(loadVar t ⟨b,o,Iy⟩).run O.P w=.ok u w/\ak O.ai m S w v u:=by
        simp only[results1] at bQ;cases hta:ab s.tm a<;>rw[hta] at bQ ra<;>simp only[reduceCtorEq] at bQ
        .rename_i id o;simp only[ak] at ra;have⟨p,hm,hp⟩:=ra
         cases hg:au s.hp id with
         | none=>simp[hg] at bQ
         | some ob=>
          cases ob<;>simp only[hg,reduceCtorEq] at bQ
          have hrr:=X8 (o:=0) (n:=0) hh hg hm;have⟨u,q1,q2⟩:=Su hz PZ (Bo o _ p.b p.o hrr) bQ;exact⟨p.b,p.o+o,u,hp,q1,q2⟩
        .rename_i cs;simp only[ak] at ra;have⟨b,o,hp,_,_,hrr⟩:=ra;have⟨u,q1,q2⟩:=Su hz PZ hrr bQ;exact⟨b,o,u,hp,q1,q2⟩
       have⟨b,o,u,q1,q2,q3⟩:=key;refine⟨u::us,?_,by simp only[aE];exact⟨_,_,rfl,q3,g2⟩⟩
       rw[uP]
       have:(JX tmps (.cell a t)).run O.P w=.ok u w:=by
        simp only[JX];rw[q1];simp[asAddr,q2]
       rw[Sem.run_bind,this,Result.andThen_ok,Sem.run_bind,g1];rfl
def ap7{tmps:Array yr}{fn:yaF}{rv:List RV}(hh:aW O m S w s.hp ct)(ht:cp O m S w s.tm tmps)(h1:zC O.P fn.results.toList=Ix rv)(h2:kJ s rv=Ix v):
  ∃u,(results fn tmps).run O.P w=.ok u w/\ak O.ai m S w v u:=by
 unfold kJ at h2
 cases hl:oQ s rv with
 | none=>simp[hl] at h2
 | some vs=>
  have⟨us,g1,g2⟩:=Xs hh ht h1 hl;have hlen:=kK _ _ g2;have hm:(fn.results.mapM (JX tmps)).run O.P w=.ok us.toArray w:=by
   rw[Array.mapM_eq_mapM_toList];simp[g1]
  have jf:(results fn tmps).run O.P w=.ok (if h:us.toArray.size=1 then us.toArray[0] else .tuple us.toArray) w:=by
   rw[aqF,Sem.run_bind,hm];rfl
  rw[hl] at h2
  split at h2
  .rename_i v' A6;simp only[yc] at A6 h2;subst A6;simp only[aE] at g2
   grind
  .rename_i eM cu A6;simp only[yc] at A6 h2;subst A6;subst h2;have h1:¬us.toArray.size=1:=by
    intro h
    have:vs.length=1:=by simp_all
    cases vs with
    | nil=>simp at this
    | cons x t=>
     cases t with
     | nil=>exact cu x rfl
     | cons y t=>simp at this
   simp only[ak]
   grind
  .grind
def XM{s:St}{tmps:Array yr}{fn:yaF}{rv:List RV}{v:AV}{m0:Mp}{S0:Nat->Prop}{w0:yt}{hp0:Hp}{VV:Nat}(h1:zC O.P fn.results.toList=Ix rv)(h2:kJ s rv=Ix v)(jF:VV<=s.ct):∀(rs:List Nat) (w:yt),
  rs.Nodup->(∀r,r∈rs->w.heap[r]? =Ix (.deferred (Ix []))/\¬S r/\w0.heap.size<=r)->O.w0.heap.size<=w0.heap.size->aW O m S w s.hp s.ct->cp O m S w s.tm tmps->cE m0 S0 w0 hp0 m S w s.hp VV->
  ycB Fence.wide 0 O.P fn tmps (CB O m0 S0 w0 hp0 VV v s.hp s.ct) (rs.map (fun r=>{target:=.collected r,args:=#[]})) .returning w
 | [],w,_,_,_,hh,ht,hf=>by
  have⟨u,g1,g2⟩:=ap7 hh ht h1 h2;exact⟨u,g1,u,m,S,rfl,hh,jF,g2,hf⟩
 | r::rs,w,nK,hr,bj,hh,ht,hf=>by
  have⟨nJ,eH⟩:=List.nodup_cons.1 nK;have⟨a1,a2,a3⟩:=hr r xA;have ia:=IE w r (.deferred Iy);have sR:¬fe m s.hp r:=fun ho=>agY hh ho _ a1
  have Fy:=afa hh ia a2 sR (xB bj a3)
  have aK:iE S w {w with heap:=w.heap.setIfInBounds r (.deferred Iy)}:=fun b hb=>ia.other b (fun e=>a2 (e▸hb))
  have rL:cE m0 S0 w0 hp0 m S {w with heap:=w.heap.setIfInBounds r (.deferred Iy)} s.hp VV:=by
   refine⟨hf.os,hf.tape,hf.output,by rw[ia.size];exact hf.size,fun b hb ho=>(ia.other b (by lia)).trans (hf.same b hb ho),hf.sub,fun b hb=>(ia.other b (fun e=>a2 (e▸hf.sub b hb))).trans (hf.still b hb),hf.new,hf.own,hf.old,fun b x hb=>?_⟩
   have⟨x',hx⟩:=hf.loops b x hb;exact⟨x',(ia.other b (fun e=>by subst e;rw[a1] at hx;cases hx)).trans hx⟩
  refine⟨by simp,.inl ⟨r,_,rfl,?_,XM h1 h2 jF rs _ eH (fun r' bt=>?_) bj Fy (D5 (fun _ _ h=>h) (fun _ h=>h) aK ht) rL⟩⟩
  .simp only [Instr.takeDeferred,Sem.run_bind,afb (P:=O.P) a1 (fun _ _ _=>by simp),Result.andThen_ok,Ru (P:=O.P) a1 (fun _ _ _=>by simp),Sem.run_pure]
  .have ⟨b1,b2,b3⟩:=hr r' (xi _ bt);exact⟨(ia.other r' (fun e=>nJ (e▸bt))).trans b1,b2,b3⟩
end
section
variable {O:bC}{self:cG}
def aBi(hO:jq O)(hS:∀v s ex s',self v s=Ix (ex,s')->∀c h l k,(comp O.P (O.hint h) c l k).1=v->EE O h c s ex s'){F:aw}(hF:O.prog n=Ix F)(hv:self F.body ⟨fY 0 az,hp,ct,ct⟩=Ix (ex,s))(hex:ex=.normal\/ex=.ret)(hr:kJ s F.eG=Ix v):ED O n hp ct az v s.hp s.ct:=by
 intro m S w args hh jt;have⟨fn,q1,q2,q3⟩:=hO.prog n F hF;have⟨c,q4,q5,q6,q7⟩:=Xf q2;refine .inl ⟨R1 q1 (by rw[q4];rfl) q3,?_⟩
 have hc:=hS _ _ _ _ hv c n 0 0 q5.symm;have hw:=hc Iy w.heap.size m S w {tmps:=args++uH (fn.ntmps-args.size) undef,defers:=[]} (fun l hl=>by cases hl) (af7 _ jt) hh (ym _) (by simp;lia) hh.iG (ym _) ⟨[],rfl,by simp,by simp⟩
 refine callsIn_of_wp_marks (F:=Fence.wide) q1 q4 trivial (wpIn_mono hw ?_);rintro e a' w' ⟨rfl,m',S',k1,k2,k3,k4,k5,k6,rs,k7,k8,k9⟩;have main:ycB Fence.wide 0 O.P fn a'.tmps (CB O m S w hp ct v s.hp s.ct) a'.defers .returning w':=by
  rw[k7];exact XM q6 hr k4 rs w' k8 k9 hh.iG k2 k1 k5
 rcases hex with rfl | rfl
 .exact main
 .exact main
def Ef.mono{P:xM}{f:tL}{w:yt}{R R':Ending->yt->Prop}(h:Ef P f args w R)(hr:∀e w',R e w'->R' e w'):Ef P f args w R':=by
 rcases h with ⟨h1,h2⟩ | ⟨u,w',h1,h2⟩
 .exact .inl ⟨h1,CallsIn.mono h2 hr⟩
 .exact .inr ⟨u,w',h1,hr _ _ h2⟩
def arI{w:yt}(hg:EC O w)(hs:∀b,S b->b<w.heap.size):aW O gC S w [] 0:=
 ⟨(fun id o p h _=>by simp[au] at h),(fun id p h=>by cases h),(fun i j oi oj pi pj h=>by simp[au] at h),hs,(fun id p h=>by cases h),(fun id p h=>by cases h),hg.1,hg.2,(fun id o h=>by simp[au] at h)⟩
def Yj{b:Nat}(h:fe gC [] b):False:=by
 have⟨_,_,_,h,_⟩:=h;simp[au] at h
def Xc{r:AV}(h:ED O n [] 0 az v s.hp s.ct)(hr:result s.hp v=Ix r):fF O n az r:=by
 intro w S args hg hs jt hp;refine Ef.mono (h gC S w args (arI hg hs) jt) ?_;rintro e w' ⟨u,m',S',rfl,k1,k2,k3,k4⟩;have bj:∀b,fe m' s.hp b->w.heap.size<=b:=fun b hb=>(k4.own b hb).elim (fun h=>(Yj h).elim) (fun h=>h)
 have⟨S2,g1,g2,g3,g4⟩:=arz (lo:=w.heap.size) k1 hr k3 bj;refine⟨u,S2,rfl,⟨k4.os,k4.tape,k4.output,k4.size,fun b hb=>k4.same b hb Yj⟩,fun b hb=>g1 b (k4.sub b hb),fun b hb=>?_,g3,g4⟩;rcases g2 b hb with h | h
 .rcases k4.new b h with h | h | h
  .exact .inl h
  .exact (Yj h).elim
  .exact .inr h
 .exact .inr (bj b h)
def aqG(hO:jq O)(hS:∀v s ex s',self v s=Ix (ex,s')->∀c h l k,(comp O.P (O.hint h) c l k).1=v->EE O h c s ex s'):sf O self:=by
 have heap:∀(n:Nat) (F:aw),O.prog n=Ix F->∀(hp:Hp) (ct:Nat) (az:List AV) (ex:Ex) (s:St) (v:AV),self F.body ⟨fY 0 az,hp,ct,ct⟩=Ix (ex,s)->(ex=.normal\/ex=.ret)->kJ s F.eG=Ix v->ED O n hp ct az v s.hp s.ct:=
  fun n F hF hp ct az ex s v h1 h2 h3=>aBi hO hS hF h1 h2 h3
 refine⟨?_,?_,fun hp ct l xs v aq bc hv=>atE hS hv⟩
 .intro n az r hv;unfold bM at hv
  cases hL:O.a8.pure n with
  | some sp=>rw[hL] at hv;exact hO.a8 n sp az r hL hv
  | none=>
   simp only[hL] at hv
   cases hF:O.prog n with
   | none=>simp[hF] at hv
   | some F=>
    simp only[hF] at hv
    split at hv
    .rename_i s hb
     cases hr:kJ s F.eG with
     | none=>simp[hr] at hv
     | some v=>simp only[hr] at hv;exact Xc (heap n F hF [] 0 az .normal s v hb (.inl rfl) hr) hv
    .rename_i s hb
     cases hr:kJ s F.eG with
     | none=>simp[hr] at hv
     | some v=>simp only[hr] at hv;exact Xc (heap n F hF [] 0 az .ret s v hb (.inr rfl) hr) hv
    .cases hv
 .intro hp ct n az v aq bc hv;unfold kN at hv
  cases hL:O.a8.heap n with
  | some sp=>rw[hL] at hv;exact hO.JU n sp hp ct az v aq bc hL hv
  | none=>
   simp only[hL] at hv
   cases hF:O.prog n with
   | none=>simp[hF] at hv
   | some F=>
    grind
def aeL(hO:jq O):∀n,sf O (ev O.prog O.a8 n):=by
 intro n
 induction n using vX with
 | _ n ih=>
  refine aqG hO (fun v s ex s' hv c h l k hc=>?_)
  cases n with
  | zero=>rw[Nh] at hv;cases hv
  | succ n=>
   rw[SA,<-hc] at hv;exact ail hO n (fun k hk=>ih k (by lia)) h c l k n (ym _) s ex s' hv
def sound(hO:jq O){f:Nat}{r:AV}(h:evF O.prog O.a8 n f az=Ix r):fF O f az r:=(aeL hO n).pure f az r h
end
end
end
def jb:List Nat->List Nat->Bool
 | [],_=>ycO
 | a::x,b::y=>yG a b&&jb x y
 | _::_,[]=>ycP
def pU(sub:List Nat):List Nat->Nat->Option Nat
 | [],k=>bif jb sub [] then Ix k else Iy
 | b::r,k=>bif jb sub (b::r) then Ix k else pU sub r (k+1)
def Uo:List AV->Option AV
 | [.str s,.str sep]=>
  bif yU s.length 4294967281 then
   match pU sep s 0 with
   | some i=>Ix (.ax [.str (s.take i),.str (s.drop (i+sep.length)),.bool ycO])
   | none=>Ix (.ax [.str s,.str [],.bool ycP])
  else Iy
 | _=>Iy
def Rw:List AV->Option AV
 | [.str s,.str p]=>Ix (bif jb p s then .ax [.str (s.drop p.length),.bool ycO] else .ax [.str s,.bool ycP])
 | _=>Iy
def Rx:List AV->Option AV
 | [.str s,.str p]=>Ix (.bool (jb p s))
 | _=>Iy
def Re:List AV->Option AV
 | [.str s,.str p]=>Ix (.str (bif jb p s then s.drop p.length else s))
 | _=>Iy
def JY(i:Nat):List Nat->Bool
 | []=>ycP
 | j::r=>bif yG j i then ycO else JY i r
def od(set:List Nat):List Nat->List Nat
 | []=>[]
 | b::r=>bif JY b set then od set r else b::r
def I9:List Nat->Bool
 | []=>ycO
 | b::r=>yU b 128&&I9 r
def trimS:List AV->Option AV
 | [.str s,.str set]=>bif I9 set&&(yU s.length 4294967281&&yU set.length 4294967281) then Ix (.str (od set (od set s.reverse).reverse)) else Iy
 | _=>Iy
def jz(s:List Nat):Nat->List Nat
 | 0=>[]
 | n+1=>s++jz s n
def Eg:List AV->Option AV
 | [.str s,.int .i64 (.ofNat n)]=>bif yO n 1099511627776&&yO (s.length*n) 1099511627776 then Ix (.str (jz s n)) else Iy
 | _=>Iy
def qY:Nat->Nat->List Nat->List Nat
 | 0,_,acc=>acc
 | f+1,n,acc=>bif yU n 10 then (48+n)::acc else qY f (n/10) ((48+n%10)::acc)
def ay(n:Nat):List Nat:=qY (n+1) n []
def aU:Int->List Nat
 | .ofNat n=>ay n
 | .negSucc n=>45::ay (n+1)
def EF:Int->Bool
 | .ofNat n=>yU n 9223372036854775808
 | .negSucc n=>yU n 9223372036854775808
def Oe:List AV->Option AV
 | [.int .i64 n]=>bif EF n then Ix (.str (aU n)) else Iy
 | _=>Iy
def D1:List AV->Option AV
 | [.int .u64 (.ofNat n),.int .i64 10]=>bif yU n 18446744073709551616 then Ix (.str (ay n)) else Iy
 | _=>Iy
def da:List Nat->Nat->Option Nat
 | [],a=>Ix a
 | b::r,a=>bif yO 48 b&&yO b 57 then da r (10*a+(b-48)) else Iy
def Of:List AV->Option AV
 | [.str s]=>
  bif yU 0 s.length&&yO s.length 18 then
   match da s 0 with | some n=>Ix (.ax [.int .i64 n,.undef]) | none=>Iy
  else Iy
 | _=>Iy
def sj:List AV->Option AV
 | [.int .u64 (.ofNat x),.int .u64 (.ofNat y),.int .u64 (.ofNat c)]=>
  bif yO c 1&&(yU x 18446744073709551616&&yU y 18446744073709551616) then Ix (.ax [.int .u64 ((x+y+c)%18446744073709551616:Nat),.int .u64 ((x+y+c)/18446744073709551616:Nat)]) else Iy
 | _=>Iy
def En:List AV->Option AV
 | [.int .u64 (.ofNat x),.int .u64 (.ofNat y),.int .u64 (.ofNat c)]=>
  bif yO c 1&&(yU x 18446744073709551616&&yU y 18446744073709551616) then Ix (.ax [.int .u64 ((x+18446744073709551616*2-y-c)%18446744073709551616:Nat),.int .u64 (bif yO (y+c) x then 0 else 1)]) else Iy
 | _=>Iy
def BC:List AV->Option AV
 | [.int .u64 (.ofNat x),.int .u64 (.ofNat y)]=>bif yU x 18446744073709551616&&yU y 18446744073709551616 then Ix (.ax [.int .u64 (x*y/18446744073709551616:Nat),.int .u64 (x*y%18446744073709551616:Nat)]) else Iy
 | _=>Iy
def fc:Nat->Nat->Nat
 | 0,_=>0
 | f+1,n=>bif yG n 0 then 0 else 1+fc f (n/2)
def Nx:List AV->Option AV
 | [.int .u64 (.ofNat x)]=>bif yU x 18446744073709551616 then Ix (.int .i64 (fc 64 x)) else Iy
 | _=>Iy
def JF:List AV->Option AV
 | [.int .u64 (.ofNat x)]=>bif yU x 18446744073709551616 then Ix (.int .i64 (64-fc 64 x:Nat)) else Iy
 | _=>Iy
section
open Go
section
variable {a:AV}{args:Array yr}{az:List AV}{s:List Nat}{w:yt}
section
variable {O:bC}{n:Nat}
def MJ{w':yt}(h:RowKit.Below w.heap.size w w'):Calm w w':=⟨h.os,h.tape,h.output,h.size,h.block⟩
def arJ(k:Nat):Calm w (w.drewN k):=⟨rfl,rfl,rfl,ym _,fun _ _=>rfl⟩
def arK(h:EC O w){a:Addr}{v:yr}(hc:O.w0.cell? a=Ix v):w.cell? a=Ix v:=by
 have hb:a.block<O.w0.heap.size:=by
  unfold World.cell? at hc
  cases hq:O.w0.heap[a.block]? with
  | none=>simp[hq] at hc
  | some o=>exact (xT.1 hq).1
 unfold World.cell? at hc ⊢;rw[h.1 _ hb];exact hc
def zx{r:AV}(hr:∀S w' lo u,ak O.ai gC S w' r u->zS O.ai S w' lo r u)(ir:∀args w,(callFunc (O.ai n) args).run O.P w=.ok (.enter (O.ai n) args) w)(h:∀w S args,EC O w->aE O.ai gC S w az args.toList->wH O.P (O.ai n) args w fun e w'=>∃u,e=.returned u/\Calm w w'/\∀S,ak O.ai gC S w' r u):fF O n az r:=by
 intro w S args hg hS fH _;refine .inl ⟨ir args w,Go.callsIn_wide.2 ((h w S args hg fH).mono ?_)⟩;rintro e w' ⟨u,rfl,hc,hu⟩;exact⟨u,S,rfl,hc,fun _ h=>h,fun _ h=>.inl h,fun b hb=>yT (hS b hb) hc.size,hr S w' _ u (hu S)⟩
def af8{r:AV}(hr:∀S w' lo u,ak O.ai gC S w' r u->zS O.ai S w' lo r u)(h:∀w S args,aE O.ai gC S w az args.toList->∃u,(callFunc (O.ai n) args).run O.P w=.ok (.value u) w/\∀S,ak O.ai gC S w r u):fF O n az r:=by
 intro w S args _ hS fH _;have⟨u,h1,h2⟩:=h w S args fH;exact .inr ⟨u,w,h1,u,S,rfl,Calm.refl,fun _ h=>h,fun _ h=>.inl h,hS,hr S w _ u (h2 S)⟩
def Ni:∀S w' lo u,ak O.ai gC S w' (.str s) u->zS O.ai S w' lo (.str s) u:=fun S w' lo u h=>⟨[],rfl,h,rfl⟩
def aim{k:IntKind}{z:Int}:∀S w' lo u,ak O.ai gC S w' (.int k z) u->zS O.ai S w' lo (.int k z) u:=fun S w' lo u h=>⟨[],rfl,h,rfl⟩
def atG{b:Bool}:∀S w' lo u,ak O.ai gC S w' (.bool b) u->zS O.ai S w' lo (.bool b) u:=fun S w' lo u h=>⟨[],rfl,h,rfl⟩
def afc{S:Nat->Prop}{w':yt}{lo:Nat}:∀{vs:List AV} {us:List yr},(∀v,v∈vs->(∀ex sz k cs,v≠.bR ex sz k cs)/\aP v=ycO)->aE O.ai gC S w' vs us->ot O.ai S w' lo vs us []
 | [],us,_,h=>by simp only[aE] at h;exact⟨h,rfl⟩
 | v::vs,us,hv,h=>by
  simp only[aE] at h;obtain⟨u,t,rfl,h1,h2⟩:=h;have h3:=hv v (by simp);refine⟨u,t,[],[],rfl,rfl,?_,afc (fun v hm=>hv v (by simp[hm])) h2⟩;cases v<;>first | exact⟨rfl,h1,h3.2⟩ | exact absurd rfl (h3.1 _ _ _ _)
def IY{vs:List AV}(hv:∀v,v∈vs->(∀ex sz k cs,v≠.bR ex sz k cs)/\aP v=ycO):∀S w' lo u,ak O.ai gC S w' (.ax vs) u->zS O.ai S w' lo (.ax vs) u:=by
 intro S w' lo u h;obtain⟨xs,rfl,h⟩:=h;exact⟨xs,[],rfl,afc hv h,by simp⟩
def Tp(h:aE O.ai gC S w [a] args.toList):∃u,args=#[u]/\ak O.ai gC S w a u:=by
 simp only[aE] at h
 grind
def EG{b:AV}(h:aE O.ai gC S w [a,b] args.toList):∃u v,args=#[u,v]/\ak O.ai gC S w a u/\ak O.ai gC S w b v:=by
 simp only[aE] at h
 grind
def akd{b c:AV}(h:aE O.ai gC S w [a,b,c] args.toList):∃u v x,args=#[u,v,x]/\ak O.ai gC S w a u/\ak O.ai gC S w b v/\ak O.ai gC S w c x:=by
 simp only[aE] at h
 grind
def MK{l:List UInt8}(h:l.map xp=s):ak O.ai gC S w (.str s) (.string ⟨l.toArray⟩):=by
 simp only[ak];exact⟨_,rfl,h⟩
def toNat_inj{a b:UInt8}:yG a.toNat b.toNat=(a==b):=by
 by_cases h:a=b
 .simp_all
 .have h':a.toNat≠b.toNat:=fun e=>h (UInt8.toNat_inj.1 e)
  have e:(a==b)=ycP:=by simp_all
  rw[e]
  cases hq:yG a.toNat b.toNat with
  | false=>rfl
  | true=>exact absurd (yz hq) h'
def MS:∀(p s:List UInt8),jb (p.map xp) (s.map xp)=p.isPrefixOf s
 | [],s=>by cases s<;>rfl
 | a::p,[]=>rfl
 | a::p,b::s=>by
  simp only[yS,jb,List.isPrefixOf,MS p s,toNat_inj]
def afd:∀(s sep:List UInt8) (k:Nat),pU (sep.map xp) (s.map xp) k=if 0<=Lib.index s sep then Ix (k+(Lib.index s sep).toNat) else Iy
 | [],sep,k=>by
  simp only[List.map_nil,pU,Lib.index]
  cases sep with
  | nil=>simp[jb]
  | cons a r=>simp[jb]
 | b::s,sep,k=>by
  have ih:=afd s sep (k+1);have hp:=MS sep (b::s);simp only[yS,pU,hp,Lib.index]
  grind
def ag0(b:UInt8):∀cs:List UInt8,JY b.toNat (cs.map xp)=cs.contains b
 | []=>rfl
 | c::cs=>by
  simp only[yS,JY,ag0 b cs,List.contains_cons,toNat_inj]
  grind
def XN(cs:List UInt8):∀l:List UInt8,od (cs.map xp) (l.map xp)=(l.dropWhile (cs.contains ·)).map xp
 | []=>rfl
 | b::l=>by
  simp only[yS,od,ag0,List.dropWhile_cons,XN cs l]
  grind
def ag1(l:List UInt8):∀n,jz (l.map xp) n=(Lib.repeatL l n).map xp
 | 0=>rfl
 | n+1=>by simp only[jz,Lib.repeatL,yX,ag1 l n]
def aeM:∀(f n:Nat) (acc:List Nat),n<f->qY f n acc=(Lib.decDigits n).map xp++acc
 | 0,n,acc,h=>by lia
 | f+1,n,acc,h=>by
  rw[qY,Lib.decDigits];by_cases hn:n<10
  .rw [show yU n 10=ycO from yC hn,yN,dif_pos hn]
   have:(ybZ (48+n)).toNat=48+n:=by
    rw[yaT];lia
   grind
  .have hb:yU n 10=ycP:=by
    cases hq:yU n 10 with
    | false=>rfl
    | true=>exact absurd (yF hq) (by lia)
   rw[hb,y5,dif_neg hn,aeM f (n/10) _ (by lia),yX,List.append_assoc]
   have:(ybZ (48+n%10)).toNat=48+n%10:=by
    rw[yaT];lia
   grind
def Yk(n:Nat):ay n=(Lib.decDigits n).map xp:=by
 rw[ay,aeM (n+1) n [] (by lia),List.append_nil]
def atH(n:Int):aU n=(Lib.itoa n).map xp:=by
 cases n with
 | ofNat k=>
  have:¬ybG k<0:=by simp
  simp only[aU,Lib.itoa,this,xr,Yk];rfl
 | negSucc k=>
  have:Int.negSucc k<0:=Int.negSucc_lt_zero k
  simp only[aU,Lib.itoa,this,xL,Yk,yS];rfl
def Yl:∀f x:Nat,fc f x=Lib.bitLenAux f x
 | 0,_=>rfl
 | f+1,x=>by
  rw[fc,Lib.bitLenAux];by_cases h:x=0
  .simp_all
  .have hb:yG x 0=ycP:=by
    cases hq:yG x 0 with
    | false=>rfl
    | true=>exact absurd (yz hq) h
   rw[hb,y5,yx h,Yl f]
def afe:∀{cs:List UInt8},I9 (cs.map xp)=ycO->∀(j:Nat) b,cs[j]? =Ix b->b.toNat<128
 | [],_,j,b,h=>by simp at h
 | c::cs,h,j,b,hb=>by
  simp only[yS,I9,yj] at h
  cases j with
  | zero=>
   simp_all
  | succ j=>exact afe h.2 j b (by simpa using hb)
def ag2:∀{l:List UInt8} {a z:Nat},da (l.map xp) a=Ix z->Lib.decFrom a l=Ix z
 | [],a,z,h=>h
 | b::l,a,z,h=>by
  simp only[yS,da] at h
  cases hb:(yO 48 b.toNat&&yO b.toNat 57) with
  | false=>rw[hb] at h;cases h
  | true=>
   rw[hb] at h;simp only[yj] at hb;have h1:=yF hb.1;have h2:=yF hb.2
   have:=ag2 h
   rw[Lib.decFrom,Lib.digitVal,yK ⟨h1,h2⟩]
   grind
def atI{l:List UInt8}{z:Nat}(h:da (l.map xp) 0=Ix z)(h0:0<l.length):Lib.atoi l=Ix (z:Int):=by
 cases l with
 | nil=>simp at h0
 | cons b r=>
  have hd:=ag2 h;have hb:48<=b.toNat:=by
   simp only[yS,da] at h
   cases hb:(yO 48 b.toNat&&yO b.toNat 57) with
   | false=>rw[hb] at h;cases h
   | true=>
    simp_all
  have h1:(b==45)=ycP:=by
   have:b≠45:=fun e=>by subst e;exact absurd hb (by decide)
   grind
  have h2:(b==43)=ycP:=by
   have:b≠43:=fun e=>by subst e;exact absurd hb (by decide)
   grind
  simp only[Lib.atoi,h1,h2,yH,xr,Lib.decNat,List.isEmpty_cons,hd,Option.map_some]
section
variable {f:tL}
def apK(hf:O.ai n=f)(ir:∀args w,(callFunc f args).run O.P w=.ok (.enter f args) w)(hc:∀(s p:ByteArray) (w:yt),wH O.P f #[.string s,.string p] w fun e w'=>e=.returned (.tuple #[.string ⟨(Lib.trimPrefix s.data.toList p.data.toList).toArray⟩,.bool (Lib.hasPrefix s.data.toList p.data.toList)])/\w'=w):
  ∀az r,Rw az=Ix r->fF O n az r:=by
 intro az r h;unfold Rw at h
 split at h
 .rename_i s p;simp only[yc] at h;subst h;refine zx ?_ (by rw[hf];exact ir) ?_
  .cases jb p s<;>exact IY (by simp[aP])
  .intro w S args hg fH;obtain⟨u,v,rfl,h1,h2⟩:=EG fH;obtain⟨t1,rfl,rfl⟩:=h1;obtain⟨t2,rfl,rfl⟩:=h2;rw[hf];refine (hc t1 t2 w).mono ?_;rintro e w' ⟨rfl,rfl⟩;refine⟨_,rfl,Calm.refl,fun S=>?_⟩;rw[MS,yg];unfold Lib.trimPrefix Lib.hasPrefix
   cases hp:t2.data.toList.isPrefixOf t1.data.toList with
   | true=>
    simp only[yN,xL,ak,aE]
    simp_all
   | false=>
    simp only[y5,yH,xr,ak,aE]
    grind
 .cases h
def apL(hf:O.ai n=f)(ir:∀args w,(callFunc f args).run O.P w=.ok (.enter f args) w)(hc:∀(s p:ByteArray) (w:yt),wH O.P f #[.string s,.string p] w fun e w'=>e=.returned (.bool (Lib.hasPrefix s.data.toList p.data.toList))/\w'=w):
  ∀az r,Rx az=Ix r->fF O n az r:=by
 intro az r h;unfold Rx at h
 split at h
 .rename_i s p;simp only[yc] at h;subst h;refine zx atG (by rw[hf];exact ir) ?_
  intro w S args hg fH;obtain⟨u,v,rfl,h1,h2⟩:=EG fH;obtain⟨t1,rfl,rfl⟩:=h1;obtain⟨t2,rfl,rfl⟩:=h2;rw[hf];refine (hc t1 t2 w).mono ?_;rintro e w' ⟨rfl,rfl⟩;refine⟨_,rfl,Calm.refl,fun S=>?_⟩;rw[MS];simp only[ak,Lib.hasPrefix]
 .cases h
def apH(hf:O.ai n=f)(ir:∀args w,(callFunc f args).run O.P w=.ok (.enter f args) w)(hc:∀(s p:ByteArray) (w:yt),wH O.P f #[.string s,.string p] w fun e w'=>e=.returned (.string ⟨(Lib.trimPrefix s.data.toList p.data.toList).toArray⟩)/\w'=w):
  ∀az r,Re az=Ix r->fF O n az r:=by
 intro az r h;unfold Re at h
 split at h
 .rename_i s p;simp only[yc] at h;subst h;refine zx Ni (by rw[hf];exact ir) ?_
  intro w S args hg fH;obtain⟨u,v,rfl,h1,h2⟩:=EG fH;obtain⟨t1,rfl,rfl⟩:=h1;obtain⟨t2,rfl,rfl⟩:=h2;rw[hf];refine (hc t1 t2 w).mono ?_;rintro e w' ⟨rfl,rfl⟩;refine⟨_,rfl,Calm.refl,fun S=>?_⟩;rw[MS,yg];refine MK ?_;unfold Lib.trimPrefix Lib.hasPrefix
  cases hp:t2.data.toList.isPrefixOf t1.data.toList with
  | true=>simp[List.map_drop]
  | false=>simp
 .cases h
def avY(hf:O.ai n=f)(ir:∀args w,(callFunc f args).run O.P w=.ok (.enter f args) w){a:Addr}{m:Int}(hm:O.w0.cell? a=Ix (.int .i64 m))(hc:∀(s sep:ByteArray) (w:yt),s.size<4294967281->w.cell? a=Ix (.int .i64 m)->wH O.P f #[.string s,.string sep] w fun e w'=>e=.returned (.tuple #[.string ⟨(Lib.cut s.data.toList sep.data.toList).1.toArray⟩,.string ⟨(Lib.cut s.data.toList sep.data.toList).2.1.toArray⟩,.bool (Lib.cut s.data.toList sep.data.toList).2.2])/\∃n,w'=w.drewN n):
  ∀az r,Uo az=Ix r->fF O n az r:=by
 intro az r h;unfold Uo at h
 split at h
 .rename_i s sep
  cases hb:yU s.length 4294967281 with
  | false=>rw[hb] at h;cases h
  | true=>
   rw[hb] at h;have key:∀(q:List UInt8×List UInt8×Bool),(∀t1 t2:ByteArray,t1.data.toList.map xp=s->t2.data.toList.map xp=sep->r=.ax [.str ((Lib.cut t1.data.toList t2.data.toList).1.map xp),.str ((Lib.cut t1.data.toList t2.data.toList).2.1.map xp),.bool (Lib.cut t1.data.toList t2.data.toList).2.2])->
     (∃a b c,r=.ax [.str a,.str b,.bool c])->fF O n [.str s,.str sep] r:=by
    intro q hq ayB;obtain⟨a',b',c',rfl⟩:=ayB;refine zx (IY (by simp[aP])) (by rw[hf];exact ir) ?_
    intro w S args hg fH;obtain⟨u,v,rfl,h1,h2⟩:=EG fH;obtain⟨t1,rfl,e1⟩:=h1;obtain⟨t2,rfl,e2⟩:=h2;rw[hf];have hl:t1.size<4294967281:=by
     have:=zJ hb
     rw[<-e1,yg] at this
     simp_all
    refine (hc t1 t2 w hl (arK hg hm)).mono ?_;rintro e w' ⟨rfl,k,rfl⟩;refine⟨_,rfl,arJ k,fun S=>?_⟩;simp only[ak,aE]
    grind
   refine key ([],[],ycP) ?_ ?_
   .intro t1 t2 e1 e2;subst e1;subst e2;rw[afd] at h;unfold Lib.cut;by_cases h0:0<=Lib.index t1.data.toList t2.data.toList
    .simp_all
    .grind
   .grind
 .cases h
def atJ(hf:O.ai n=f)(ir:∀args w,(callFunc f args).run O.P w=.ok (.enter f args) w)(hc:∀(s cs:ByteArray) (w:yt),s.size<=9223372036854775807->cs.size<4294967281->(∀(j:Nat) b,cs.data.toList[j]? =Ix b->b.toNat<128)->wH O.P f #[.string s,.string cs] w fun e w'=>e=.returned (.string ⟨(Lib.trimS s.data.toList cs.data.toList).toArray⟩)/\RowKit.Below w.heap.size w w'):
  ∀az r,trimS az=Ix r->fF O n az r:=by
 intro az r h;unfold trimS at h
 split at h
 .rename_i s cs
  cases hb:(I9 cs&&(yU s.length 4294967281&&yU cs.length 4294967281)) with
  | false=>rw[hb] at h;cases h
  | true=>
   rw[hb] at h;simp only[yN,yc] at h;subst h;simp only[yj] at hb;refine zx Ni (by rw[hf];exact ir) ?_
   intro w S args hg fH;obtain⟨u,v,rfl,h1,h2⟩:=EG fH;obtain⟨t1,rfl,rfl⟩:=h1;obtain⟨t2,rfl,rfl⟩:=h2;have qG:=zJ hb.2.1;have qH:=zJ hb.2.2;rw[yg] at qG qH;rw[hf];refine (hc t1 t2 w (by rw[Lib.size_eq];lia) (by rw[Lib.size_eq];lia) (afe hb.1)).mono ?_
   rintro e w' ⟨rfl,hw⟩;refine⟨_,rfl,MJ hw,fun S=>MK ?_⟩;simp only[Lib.trimS,Lib.trimLeftS,Lib.trimRightS];rw[<-yaz,XN,<-yaz,XN]
 .cases h
def aqH(hf:O.ai n=f)(ir:∀args w,(callFunc f args).run O.P w=.ok (.enter f args) w)(hc:∀(s:ByteArray) (c:Nat) (w:yt),c<=9223372036854775807->s.size*c<=140737488355328->wH O.P f #[.string s,.int .i64 c] w fun e w'=>e=.returned (.string ⟨(Lib.repeatL s.data.toList c).toArray⟩)/\RowKit.Below w.heap.size w w'):
  ∀az r,Eg az=Ix r->fF O n az r:=by
 intro az r h;unfold Eg at h
 split at h
 .rename_i s c
  cases hb:(yO c 1099511627776&&yO (s.length*c) 1099511627776) with
  | false=>rw[hb] at h;cases h
  | true=>
   rw[hb] at h;simp only[yN,yc] at h;subst h;simp only[yj] at hb;have l1:=yF hb.1;have l2:=yF hb.2;refine zx Ni (by rw[hf];exact ir) ?_
   intro w S args hg fH;obtain⟨u,v,rfl,h1,h2⟩:=EG fH;obtain⟨t1,rfl,rfl⟩:=h1;subst h2;rw[hf];rw[yg] at l2;refine (hc t1 c w (by lia) (by rw[Lib.size_eq];lia)).mono ?_
   rintro e w' ⟨rfl,hw⟩;exact⟨_,rfl,MJ hw,fun S=>MK (ag1 _ _).symm⟩
 .cases h
def atK(hf:O.ai n=f)(ir:∀args w,(callFunc f args).run O.P w=.ok (.enter f args) w)(hc:∀(z:Int) (w:yt),-9223372036854775808<=z->z<=9223372036854775807->EC O w->wH O.P f #[.int .i64 z] w fun e w'=>e=.returned (.string ⟨(Lib.itoa z).toArray⟩)/\Calm w w'):
  ∀az r,Oe az=Ix r->fF O n az r:=by
 intro az r h;unfold Oe at h
 split at h
 .rename_i z
  cases hb:EF z with
  | false=>rw[hb] at h;cases h
  | true=>
   rw[hb] at h;simp only[yN,yc] at h;subst h;have hz: -9223372036854775808<=z/\z<=9223372036854775807:=by
    cases z with
    | ofNat k=>have:=zJ hb;show -9223372036854775808<=(k:Int)/\(k:Int)<=9223372036854775807;lia
    | negSucc k=>have:=zJ hb;lia
   refine zx Ni (by rw[hf];exact ir) ?_
   intro w S args hg fH;obtain⟨u,rfl,h1⟩:=Tp fH;subst h1;rw[hf];refine (hc z w hz.1 hz.2 hg).mono ?_;rintro e w' ⟨rfl,hw⟩;exact⟨_,rfl,hw,fun S=>MK (atH z).symm⟩
 .cases h
def apI(hf:O.ai n=f)(ir:∀args w,(callFunc f args).run O.P w=.ok (.enter f args) w)(hc:∀(z:Nat) (w:yt),z<18446744073709551616->EC O w->wH O.P f #[.int .u64 z,.int .i64 10] w fun e w'=>e=.returned (.string ⟨(Lib.decDigits z).toArray⟩)/\Calm w w'):
  ∀az r,D1 az=Ix r->fF O n az r:=by
 intro az r h;unfold D1 at h
 split at h
 .rename_i z
  cases hb:yU z 18446744073709551616 with
  | false=>rw[hb] at h;cases h
  | true=>
   rw[hb] at h;simp only[yN,yc] at h;subst h;refine zx Ni (by rw[hf];exact ir) ?_
   intro w S args hg fH;obtain⟨u,v,rfl,h1,h2⟩:=EG fH;subst h1;subst h2;rw[hf];refine (hc z w (zJ hb) hg).mono ?_;rintro e w' ⟨rfl,hw⟩;exact⟨_,rfl,hw,fun S=>MK (Yk z).symm⟩
 .cases h
def atL(hf:O.ai n=f)(ir:∀args w,(callFunc f args).run O.P w=.ok (.enter f args) w)(hc:∀(s:ByteArray) (z:Int) (w:yt),s.size<=18->Lib.atoi s.data.toList=Ix z->wH O.P f #[.string s] w fun e w'=>e=.returned (.tuple #[.int .i64 z,.nilIface])/\Calm w w'):
  ∀az r,Of az=Ix r->fF O n az r:=by
 intro az r h;unfold Of at h
 split at h
 .rename_i s
  cases hb:(yU 0 s.length&&yO s.length 18) with
  | false=>rw[hb] at h;cases h
  | true=>
   rw[hb] at h;simp only[yN] at h;simp only[yj] at hb;have l1:=zJ hb.1;have l2:=yF hb.2
   split at h
   .rename_i z hz;simp only[yc] at h;subst h;refine zx (IY (by simp[aP])) (by rw[hf];exact ir) ?_
    intro w S args hg fH;obtain⟨u,rfl,h1⟩:=Tp fH;obtain⟨t1,rfl,rfl⟩:=h1;rw[yg] at l1 l2;have ha:Lib.atoi t1.data.toList=Ix (z:Int):=atI hz l1;rw[hf];refine (hc t1 z w (by rw[Lib.size_eq];exact l2) ha).mono ?_
    simp only[ak,aE]
    grind
   .cases h
 .cases h
def arL(hf:O.ai n=f)(ir:∀args w,(callFunc f args).run O.P w=.ok (.enter f args) w)(hc:∀(x y:Nat) (w:yt),x<18446744073709551616->y<18446744073709551616->wH O.P f #[.int .u64 x,.int .u64 y] w fun e w'=>e=.returned (.tuple #[.int .u64 ((x*y/18446744073709551616:Nat):Int),.int .u64 ((x*y%18446744073709551616:Nat):Int)])/\w'=w):
  ∀az r,BC az=Ix r->fF O n az r:=by
 intro az r h;unfold BC at h
 split at h
 .rename_i x y
  cases hb:(yU x 18446744073709551616&&yU y 18446744073709551616) with
  | false=>rw[hb] at h;cases h
  | true=>
   rw[hb] at h;simp only[yN,yc] at h;subst h;simp only[yj] at hb;refine zx (IY (by simp[aP])) (by rw[hf];exact ir) ?_
   intro w S args hg fH;obtain⟨u,v,rfl,h1,h2⟩:=EG fH;subst h1;subst h2;rw[hf];refine (hc x y w (zJ hb.1) (zJ hb.2)).mono ?_;rintro e w' ⟨rfl,rfl⟩;refine⟨_,rfl,Calm.refl,fun S=>?_⟩;simp only[ak,aE]
   grind
 .cases h
def arM(hf:O.ai n=f)(ir:∀args w,(callFunc f args).run O.P w=.ok (.enter f args) w)(hc:∀(x:Int) (w:yt),0<=x->x<=18446744073709551615->wH O.P f #[.int .u64 x] w fun e w'=>e=.returned (.int .i64 (Lib.bitLen x.toNat:Nat))/\w'=w):
  ∀az r,Nx az=Ix r->fF O n az r:=by
 intro az r h;unfold Nx at h
 split at h
 .rename_i x
  cases hb:yU x 18446744073709551616 with
  | false=>rw[hb] at h;cases h
  | true=>
   rw[hb] at h;simp only[yN,yc] at h;subst h
   have:=zJ hb
   refine zx aim (by rw[hf];exact ir) ?_
   intro w S args hg fH;obtain⟨u,rfl,h1⟩:=Tp fH;subst h1;rw[hf];refine (hc (ybG x) w (yaq x) (by show (x:Int)<=_;lia)).mono ?_
   rintro e w' ⟨rfl,rfl⟩;refine⟨_,rfl,Calm.refl,fun S=>?_⟩;rw[Yl];rfl
 .cases h
def atM(hf:O.ai n=f)(ir:∀args w,(callFunc f args).run O.P w=.ok (.enter f args) w)(hc:∀(x:Int) (w:yt),0<=x->x<=18446744073709551615->wH O.P f #[.int .u64 x] w fun e w'=>e=.returned (.int .i64 (64-(Lib.bitLen x.toNat:Nat)))/\w'=w):
  ∀az r,JF az=Ix r->fF O n az r:=by
 intro az r h;unfold JF at h
 split at h
 .rename_i x
  cases hb:yU x 18446744073709551616 with
  | false=>rw[hb] at h;cases h
  | true=>
   rw[hb] at h;simp only[yN,yc] at h;subst h
   have:=zJ hb
   have hle:∀f x,Lib.bitLenAux f x<=f:=by
    intro f
    induction f with
    | zero=>intro x;exact ym _
    | succ f ih=>
     intro x;rw[Lib.bitLenAux]
     grind
   refine zx aim (by rw[hf];exact ir) ?_
   intro w S args hg fH;obtain⟨u,rfl,h1⟩:=Tp fH;subst h1;rw[hf];refine (hc (ybG x) w (yaq x) (by show (x:Int)<=_;lia)).mono ?_
   rintro e w' ⟨rfl,rfl⟩;refine⟨_,rfl,Calm.refl,fun S=>?_⟩;simp only[ak,Yl];show Value.int .i64 (64-(Lib.bitLenAux 64 x:Int))=Value.int .i64 ((64-Lib.bitLenAux 64 x:Nat):Int)
   grind
 .cases h
def arN(hf:O.ai n=f)(hc:∀(x y c:Nat) (w:yt),c<=1->(callFunc f #[.int .u64 x,.int .u64 y,.int .u64 c]).run O.P w=.ok (.value (.tuple #[.int .u64 (((x+y+c)%18446744073709551616:Nat):Int),.int .u64 (((x+y+c)/18446744073709551616:Nat):Int)])) w):
  ∀az r,sj az=Ix r->fF O n az r:=by
 intro az r h;unfold sj at h
 split at h
 .rename_i x y c
  cases hb:(yO c 1&&(yU x 18446744073709551616&&yU y 18446744073709551616)) with
  | false=>rw[hb] at h;cases h
  | true=>
   rw[hb] at h;simp only[yN,yc] at h;subst h;simp only[yj] at hb;refine af8 (IY (by simp[aP])) ?_;intro w S args fH;obtain⟨u,v,z,rfl,h1,h2,h3⟩:=akd fH;subst h1;subst h2;subst h3;rw[hf];refine⟨_,hc x y c w (yF hb.1),fun S=>?_⟩;simp only[ak,aE]
   grind
 .cases h
def arO(hf:O.ai n=f)(hc:∀(x y b:Nat) (w:yt),b<=1->(callFunc f #[.int .u64 x,.int .u64 y,.int .u64 b]).run O.P w=.ok (.value (.tuple #[.int .u64 (((x+18446744073709551616-y-b)%18446744073709551616:Nat):Int),.int .u64 ((if x<y+b then 1 else 0:Nat):Int)])) w):
  ∀az r,En az=Ix r->fF O n az r:=by
 intro az r h;unfold En at h
 split at h
 .rename_i x y c
  cases hb:(yO c 1&&(yU x 18446744073709551616&&yU y 18446744073709551616)) with
  | false=>rw[hb] at h;cases h
  | true=>
   rw[hb] at h;simp only[yN,yc] at h;subst h;simp only[yj] at hb;have fh:=yF hb.1;have hy:=zJ hb.2.2;refine af8 (IY (by simp[aP])) ?_;intro w S args fH;obtain⟨u,v,z,rfl,h1,h2,h3⟩:=akd fH;subst h1;subst h2;subst h3;rw[hf];refine⟨_,hc x y c w fh,fun S=>?_⟩;simp only[ak,aE];refine⟨_,rfl,_,_,rfl,?_,_,_,rfl,?_,rfl⟩
   .grind
   .congr 1
    by_cases h:x<y+c
    .have:yO (y+c) x=ycP:=by
      cases hq:yO (y+c) x with
      | false=>rfl
      | true=>have:=yF hq;lia
     grind
    .rw [yC (by lia),yx h];rfl
 .cases h
end
end
end
end
end VE
