import Derived.RangeFuncLeaves
import Derived.OrdersIn
import Derived.LoopNIn
import Derived.RangeFuncIn
import Derived.Lib.Index
import Derived.Lib.ItoaNum
import Derived.Lib.Atoi
import Derived.Lib.BitFns
import Derived.Lib.Repeat
import Derived.Lib.SlTrimSet
import Derived.Shelf.Strings.Cut
import Derived.Shelf.Strings.Prefix
import Derived.Shelf.Small.Bits
import Derived.RowKit
import Derived.Test.YtabhmepaflffeaaGreatDoorXaa
set_option linter.all false
set_option maxRecDepth 100000
open Array renaming getD_eq_getD_getElem?->wm,getElem?_eq_getElem->tf,getElem?_eq_none->yaY,getElem?_eq_some_iff->xx,replicate->uK
open Bool renaming and_eq_true->yf,false_eq_true->yD,not_eq_true'->ub,or_eq_false_iff->ybl,or_eq_true->vU
open Classical renaming em->tv
open Go renaming Call->yax,Calls->wz,Code->vD,Deferred->yaH,Ending->ybm,Exit->uJ,Func->ybc,FuncId->yah,LeavesInM->ydh,Loop->tq,Obj->yaG,Oper->xa,Operand->xz,Program->xp,ResultVar->ydf,RoundIn->ybP,Value->ym,World->yo
open Int renaming natCast_nonneg->yaQ,ofNat->ycb
open List renaming all_eq_true->ybR,countP_cons->ybS,getD_eq_getElem?_getD->yV,getElem?_cons_succ->yaZ,getElem?_cons_zero->uv,getElem?_eq_getElem->xn,getElem?_eq_some_iff->xM,length_append->yO,length_cons->yH,length_map->y5,length_nil->yR,mapM_cons->ta,map_append->xu,map_cons->xb,map_reverse->yaT,mem_append->wD,mem_cons->we,mem_cons_of_mem->xr,mem_cons_self->xJ,mem_range->tE
open Nat renaming add_zero->yY,beq->yu,ble->yG,ble_eq_true_of_le->yy,blt->yP,eq_of_beq_eq_true->yi,eq_of_mul_eq_mul_right->yaR,eq_or_lt_of_le->vQ,eq_zero_or_pos->xi,le_of_ble_eq_true->yA,le_of_lt_succ->uf,le_refl->yz,le_trans->y7,lt_of_lt_of_le->yF,lt_or_ge->vn,lt_succ_self->yca,strongRecOn->vY,testBit->vM,testBit_or->ycp,zero_add->yd,zero_le->tL
open Ne renaming symm->ydg
open Option renaming bind_some->wM,getD_some->wV,map_some->wS
open Option.some renaming injEq->yc
open Prod.mk renaming injEq->yr
open UInt8 renaming ofNat->ycC,toNat->xk,toNat_ofNat'->ybr
open Option renaming some->GR,none->GS
open Bool renaming true->ydB,false->ydC
namespace VE
open Go (IntKind)
variable{pe:A0}{v v':AV}{listed:Array Bool}{tm:Env}{ap hp:Hp}{L:Lib}{rs:List (Nat×Bool×Nat)}{ps:List (Nat×Nat×X)}{QJ:List AV}{acc:List Nat}{xs:List X}{m':Mp}{aQ base ct sz:Nat}{S S':Nat->Prop}{ro:Option Nat}{s' s1:St}{as_ b' body:VC}{x:X}{P Pp:aE}{Gl self:cp}
section
open Go
section
variable {v:AV}{ap:Hp}{lo:Nat}{u:ym}
section
variable {O:bE}{m:Mp}{S:Nat->Prop}{w:yo}{hp:Hp}{ct:Nat}
def adZ(hh:aU O m S w hp ct)(id:Nat):aU O m S w (cS hp id) ct:=by
 have sub:∀i o,ah (cS hp id) i=GR o->ah hp i=GR o:=fun i o h=>by
  rw[Kk] at h
  grind
 exact⟨fun i o p h hm=>hh.obj i o p (sub i o h) hm,hh.lt,fun i j oi oj pi pj hi hj=>hh.inj i j oi oj pi pj (sub i oi hi) (sub j oj hj),hh.slt,hh.blt,hh.low,hh.nI,hh.ig,fun i o h=>hh.aG i o (sub i o h)⟩
def afk{id b:Nat}(h:eO m (cS hp id) b):eO m hp b:=by
 have⟨i,o,p,h1,h2,h3⟩:=h;rw[Kk] at h1;by_cases hc:id=i
 .grind
 .simp only [hc,xv] at h1;exact⟨i,o,p,h1,h2,h3⟩
def abO(hh:aU O m S w hp ct){id:Nat}{o:Obj}{p:Pl}(hg:ah hp id=GR o)(hm:m id=GR p):¬eO m (cS hp id) p.b:=by
 rintro⟨i,o',q,h1,h2,h3⟩;rw[Kk] at h1;by_cases hc:id=i
 .grind
 .simp only [hc,xv] at h1;exact hc (hh.inj i id o' o q p h1 hg h2 hm h3).symm
def atg(hd:mj hp ap){b:Nat}(h:eO m ap b):eO m hp b:=by
 have⟨i,o,p,h1,h2,h3⟩:=h
 have:=hd i
 rw[h1] at this
 cases hq:ah hp i with
 | none=>rw[hq] at this;cases this
 | some q=>exact⟨i,q,p,hq,h2,h3⟩
def acg{n:Nat}(hh:aU O m S w hp ct)(hf:freeze n hp v=GR (v',ap))(hv:af O.ae m S w v u):
  ∃S',aU O m S' w ap ct/\(∀b,S b->S' b)/\(∀b,S' b->S b\/eO m hp b)/\aX v'=ydB/\af O.ae fI S' w v' u/\kB O.ae S' w lo v' u []:=by
 have⟨h1,h2,h3⟩:=Vd (O:=O) hf;have⟨S',g1,g2,g3⟩:=afc hh h1 (fun id o p ho hm=>by
  have:=h2 id
  rw[ho] at this
  cases hq:ah hp id with
  | none=>rw[hq] at this;cases this
  | some q=>exact⟨q,rfl⟩) (yz _) (fun id o ho=>(by
  have:=h2 id
  rw[ho] at this
  cases hq:ah hp id with
  | none=>rw[hq] at this;cases this
  | some q=>exact hh.aG id q hq))
 have⟨k1,k2⟩:=h3 ap m S' w ct dD.refl g1;have hr:=k1 u (n8 (fun _ _ h=>h) g2 (fun _ _=>rfl) v u hv);have bO:af O.ae fI S' w v' u:=zH (fun _ h=>h) (fun _ _=>rfl) v' u k2 hr;refine⟨S',g1,g2,g3,k2,bO,?_⟩
 cases v' with
 | c9 _ _ _ _=>simp[aX] at k2
 | _=>exact⟨rfl,bO,k2⟩
def ao3{bs:List Nat}(hS:∀b,S b->S' b)(hn:∀b,b∈bs->¬S' b)(h:kB O.ae S w lo v u bs):kB O.ae S' w lo v u bs:=by
 cases v with
 | c9 ex sz n cs=>
  obtain⟨b,o,c,arr,t,rfl,rfl,g1,g2,g3,g4,g5,g6,g7,g8,g9⟩:=h;exact⟨b,o,c,arr,t,rfl,rfl,g1,g2,g3,hn b (by simp),g5,g6,g7,CX hS (fun _ _=>rfl) cs b o g9 rfl g8,g9⟩
 | _=>simp only[kB] at h ⊢;exact⟨h.1,zH hS (fun _ _=>rfl) _ _ h.2.2 h.2.1,h.2.2⟩
def ac6{n:Nat}(hh:aU O m S w hp ct)(hf:zP n hp v=GR (v',ap))(hv:af O.ae m S w v u)(aY:∀b,eO m hp b->lo<=b):
  ∃S' bs,aU O m S' w ap ct/\(∀b,S b->S' b)/\(∀b,S' b->S b\/eO m hp b)/\kB O.ae S' w lo v' u bs/\bs.Nodup/\(∀b,b∈bs->eO m hp b/\¬eO m ap b)/\(∀b,eO m ap b->eO m hp b):=by
 have frozen:freeze n hp v=GR (v',ap)->∃S' bs,aU O m S' w ap ct/\(∀b,S b->S' b)/\(∀b,S' b->S b\/eO m hp b)/\kB O.ae S' w lo v' u bs/\bs.Nodup/\(∀b,b∈bs->eO m hp b/\¬eO m ap b)/\(∀b,eO m ap b->eO m hp b):=by
  intro hz;have⟨S',g1,g2,g3,g4,g5,g6⟩:=acg (lo:=lo) hh hz hv
  exact⟨S',[],g1,g2,g3,g6,by simp,by simp,fun b hb=>atg (Vd (O:=O) hz).2.1 hb⟩
 unfold zP at hf
 split at hf
 .rename_i id o k
  split at hf
  .rename_i ex sz cs hg
   cases hc:yG (o+k*sz) cs.length with
   | false=>rw[hc] at hf;cases hf
   | true=>
    rw[hc] at hf;obtain⟨rfl,rfl⟩:=hf;have hle:=yA hc;obtain⟨p,c,hm,rfl,h1,h2⟩:=hv;have⟨p',arr,t,g1,g2,g3,g4,g5,g6,g7,g8,g9,g10⟩:=hh.obj id _ _ hg hm;rw[hm] at g1;injection g1 with g1
    subst g1;rw[g3] at h2;refine⟨S,[p.b],adZ hh id,fun _ h=>h,fun _ h=>.inl h,?_,by simp,?_,fun b hb=>afk hb⟩
    .refine ⟨p.b,p.o+o,c,arr,t,rfl,rfl,h1,?_,aY _ (KW hg hm),g9 rfl,g2,?_,by lia,?_,EL _ (C4 _ _ (g8 rfl))⟩
     .intro hx;simp only[yf] at hx;have e1:=yi hx.2;have e2:=se.1 hx.1.2;have e3:=g6 hx.1.1
      have:c*sz=k*sz:=by lia
      exact yaR e2 this
     .simp only [slice,List.length_take,List.length_drop];lia
     .exact CX (fun _ h=>h) (fun _ _=>rfl) _ _ _ (EL _ (C4 _ _ (g8 rfl))) rfl (C3 _ _ _ _ (AA _ _ _ _ g7))
    .intro b hb;simp only[List.mem_singleton] at hb;subst hb;exact⟨KW hg hm,abO hh hg hm⟩
  .grind
 .grind
def ach{lo n:Nat}:∀{vs dS:List AV} {us:List ym} {hp ap:Hp} {S:Nat->Prop},aU O m S w hp ct->EY n hp vs=GR (dS,ap)->aA O.ae m S w vs us->(∀b,eO m hp b->lo<=b)->
  ∃S' bs,(∀b,S b->S' b)/\(∀b,S' b->S b\/eO m hp b)/\mX O.ae S' w lo dS us bs/\bs.Nodup/\(∀b,b∈bs->eO m hp b)/\(∀b,S' b->b<w.heap.size)
 | [],dS,us,hp,ap,S,hh,hf,hv,aY=>by
  obtain⟨rfl,rfl⟩:=hf;exact⟨S,[],fun _ h=>h,fun _ h=>.inl h,by simp only[mX];exact⟨hv,by trivial⟩,by simp,by simp,hh.slt⟩
 | v::r,dS,us,hp,ap,S,hh,hf,hv,aY=>by
  simp only[EY] at hf
  cases h1:zP n hp v with
  | none=>simp[h1] at hf
  | some q=>
   have⟨v1,aZ⟩:=q;simp only[h1] at hf
   cases h2:EY n aZ r with
   | none=>simp[h2] at hf
   | some q2=>
    simp only[h2,yc,yr] at hf;obtain⟨rfl,rfl⟩:=hf;obtain⟨u,t,rfl,fJ,de⟩:=hv;have⟨S1,b1,k1,k2,k3,k4,k5,k6,k7⟩:=ac6 (lo:=lo) hh h1 fJ aY;have⟨S2,b2,g1,g2,g3,g4,g5,g6⟩:=ach (us:=t) k1 h2 (jM (fun _ _ h=>h) k2 (fun _ _=>rfl) _ _ de) (fun b hb=>aY b (k7 b hb));have Yd:∀b,b∈b1->¬S2 b:=by
     intro b hb hs;rcases g2 b hs with h | h
     .cases v1 with
      | c9 ex sz n cs=>
       simp only[kB] at k4
       grind
      | _=>simp only[kB] at k4;rw[k4.1] at hb;cases hb
     .grind
    refine⟨S2,b1++b2,fun b hb=>g1 b (k2 b hb),fun b hb=>?_,?_,?_,?_,g6⟩
    .grind
    .simp only [mX];exact⟨u,t,b1,b2,rfl,rfl,ao3 g1 Yd k4,g3⟩
    .grind
    .grind
def Vh{lo:Nat}:∀{cs:List AV} {us:List ym},aF cs=ydB->aA O.ae fI S w cs us->mX O.ae S w lo cs us []
 | [],us,_,h=>by simp only[aA] at h;exact⟨h,by trivial⟩
 | c::r,us,hp,h=>by
  obtain⟨u,t,rfl,h1,h2⟩:=h;simp only[aF,yf] at hp;refine⟨u,t,[],[],rfl,rfl,?_,Vh hp.2 h2⟩
  cases c with
  | c9 _ _ _ _=>simp[aX] at hp
  | _=>exact⟨rfl,h1,hp.1⟩
def ao4{r:AV}(hh:aU O m S w hp ct)(hr:result hp v=GR r)(hv:af O.ae m S w v u)(aY:∀b,eO m hp b->lo<=b):
  ∃S',(∀b,S b->S' b)/\(∀b,S' b->S b\/eO m hp b)/\(∀b,S' b->b<w.heap.size)/\qW O.ae S' w lo r u:=by
 unfold result at hr
 split at hr
 .rename_i vs
  split at hr
  .cases h1:EY deep hp vs with
   | none=>simp[h1] at hr
   | some q=>
    simp only[h1,yc] at hr;subst hr;obtain⟨us,rfl,hv⟩:=hv;have⟨S',bs,g1,g2,g3,g4,g5,g6⟩:=ach (lo:=lo) hh h1 hv aY;exact⟨S',g1,g2,g6,us,bs,rfl,g3,g4⟩
  .cases h1:freeze deep hp (.av vs) with
   | none=>simp[h1] at hr
   | some q=>
    have⟨v',ap⟩:=q;simp only[h1,yc] at hr;subst hr;have⟨S',g1,g2,g3,g4,g5,g6⟩:=acg (lo:=lo) hh h1 hv;refine⟨S',g2,g3,g1.slt,?_⟩
    cases v' with
    | av cs=>
     obtain⟨xs,rfl,g5⟩:=g5;exact⟨xs,[],rfl,Vh (by simpa[aX] using g4) g5,by simp⟩
    | _=>exact⟨[],g6⟩
 .rename_i Tm
  cases h1:zP deep hp v with
  | none=>simp[h1] at hr
  | some q=>
   have⟨v',ap⟩:=q;simp only[h1,yc] at hr;subst hr;have⟨S',bs,g1,g2,g3,g4,_⟩:=ac6 (lo:=lo) hh h1 hv aY;refine⟨S',g2,g3,g1.slt,?_⟩
   cases v' with
   | av cs=>
    obtain⟨rfl,h2,h3⟩:=g4;obtain⟨xs,rfl,h2⟩:=h2;exact⟨xs,[],rfl,Vh (by simpa[aX] using h3) h2,by simp⟩
   | _=>exact⟨bs,g4⟩
end
end
end
section
open Go
def WF(ro:Option Nat):Fence:={Fence.wide with round:=ro}
section
variable {O:bE}
def af9(O:bE)(hp:Hp)(ct:Nat)(l:Nat)(xs:List AV)(v:AV)(ap:Hp)(aQ:Nat):Prop:=
 ∀(m:Mp) (S:Nat->Prop) (w:yo) (args:Array ym) (p:Pl),aU O m S w hp ct->m l=GR p->aA O.ae m S w xs args.toList->
  ∃f tmps assign body,(Instr.yield p.b args).run O.P w=.ok (.round p.b f tmps assign body) w/\ybP Fence.wide 0 O.P p.b f tmps assign body w (BN O m S w hp ct v ap aQ)
structure qH(O:bE)(run:cp):Prop where
 pure:∀n ax r,bZ O.prog O.aK run n ax=GR r->eR O n ax r
 heap:∀hp ct n ax v ap aQ,jZ O.prog O.aK run hp ct n ax=GR (v,ap,aQ)->DA O n hp ct ax v ap aQ
 round:∀hp ct l xs v ap aQ,kG run hp ct l xs=GR (v,ap,aQ)->af9 O hp ct l xs v ap aQ
end
section
variable {P:xp}{o:xa}{a:Act}{w:yo}{ro:Option Nat}{next:Act->yo->Prop}{Q:uJ->Act->yo->Prop}
def O0{c:yax}{f:xz}(ho:o.op=.call c)(hc:c.callee=.value f){g:yah}{fi ca:Array ym}(hf:a.eval f=.func (.func g) fi ca){R:ybm->yo->Prop}(h:Dh P g (fi++c.args.map a.eval++ca) w R)(hn:∀e w',R e w'->∃u,e=.returned u/\next (a.put o.dst u) w'):o.wpIn (WF ro) 0 P a w next Q:=by
 have ff:(o.semAt ro a.eval).run P w=(callFunc g (fi++c.args.map a.eval++ca)).run P w:=by
  rw[Oper.semAt_eq _ _ _ (fun c' h'=>by rw[ho] at h';cases h')];simp only[execOp,ho,resolve,hc,Deferred.ofValue,hf,Sem.run_bind,Sem.run_pure,Result.andThen_ok,invoke]
 refine⟨fun _ _=>trivial,?_⟩;show o.uponIn (WF ro) 0 P a next Q ((o.semAt ro a.eval).run P w)
 rw[ff];rcases h with ⟨h1,h2⟩ | ⟨u,w',h1,h2⟩
 .rw [h1,Oper.uponIn_enter];refine⟨fun h=>by simp[WF,Fence.wide] at h,?_⟩;have h3:CallsIn (WF ro) 0 P g (fi++c.args.map a.eval++ca) w R:=h2;refine CallsIn.mono h3 (fun e w' he=>?_);obtain⟨u,rfl,hq⟩:=hn e w' he;exact hq
 .rw [h1];have⟨u',e,hq⟩:=hn _ _ h2;injection e with e
  subst e;exact hq
def aqW{c:yax}{f:xz}(ho:o.op=.call c)(hc:c.callee=.value f){l:Nat}(hf:a.eval f=.func (.yield l) #[] #[]){R:ybm->yo->Prop}{g:yah}{tmps:Array ym}{assign body:vD}(hy:(Instr.yield l (c.args.map a.eval)).run P w=.ok (.round l g tmps assign body) w)(h:ybP Fence.wide 0 P l g tmps assign body w R)(hn:∀e w',R e w'->∃u,e=.returned u/\next (a.put o.dst u) w'):o.wpIn (WF ro) 0 P a w next Q:=by
 have ff:(o.semAt ro a.eval).run P w=.ok (.round l g tmps assign body) w:=by
  rw[Oper.semAt_eq _ _ _ (fun c' h'=>by rw[ho] at h';cases h')];simp only[execOp,ho,resolve,hc,Deferred.ofValue,hf,Sem.run_bind,Sem.run_pure,Result.andThen_ok,invoke,Array.empty_append];exact hy
 refine⟨fun _ _=>trivial,?_⟩;show o.uponIn (WF ro) 0 P a next Q ((o.semAt ro a.eval).run P w)
 rw[ff,Oper.uponIn_round];refine⟨fun h=>by simp[WF,Fence.wide] at h,?_⟩;have h3:ybP (WF ro) 0 P l g tmps assign body w R:=h;refine RoundIn.mono h3 (fun e w' he=>?_);obtain⟨u,rfl,hq⟩:=hn e w' he;exact hq
def KX{n:Next}{u:ym}{w':yo}(hd:∀c,o.op≠.defer c)(h:(execOp a.eval o).run P w=.ok n w')(hn:n=.value u\/(n=.skip/\u=undef))(hq:next (a.put o.dst u) w'):o.wpIn (WF ro) 0 P a w next Q:=by
 refine⟨fun _ _=>trivial,?_⟩;show o.uponIn (WF ro) 0 P a next Q ((o.semAt ro a.eval).run P w)
 rw[Oper.semAt_eq _ _ _ hd,h];rcases hn with rfl | ⟨rfl,rfl⟩
 .exact hq
 .exact hq
end
def qX(P:xp)(H:Hint)(q:Op)(o:xa):Prop:=
 (∃k,q=aW P H k o)\/(∃c f rs,o.op=.call c/\c.callee=.value f/\q=.kJ rs (aO H f) (ju H c.args.toList))\/
  (∃t x y sz rs,o.op=.store t x y/\cF P t=GR sz/\q=.mD rs sz (aO H x) (aO H y))\/
  (∃k rs sz b x y,Op.eE sz b x y=aW P H k o/\q=.nh rs sz b x y)\/∃k n sz z ps,Op.km n sz z ps=aW P H k o/\q=.ru n sz z ps
def lh:Op->Op
 | .kJ _ f xs=>.kJ [] f xs
 | .mD _ s x v=>.st s x v
 | .nh _ s b x v=>.eE s b x v
 | o=>o
section
variable {O:bE}{H:Hint}{m:Mp}{S:Nat->Prop}{w:yo}{tm:Env}{a:Act}{hp:Hp}{ct:Nat}{self:cp}{ro:Option Nat}{next:Act->yo->Prop}{Q:uJ->Act->yo->Prop}
def PY{o:xa}{k:Nat}{md:Md}(h:aW O.P H k o=.call md x xs)(hb:x≠.c .undef):∃c f,o.op=.call c/\c.callee=.value f/\x=aO H f/\xs=ju H c.args.toList:=by
 have nb:bad=.call md x xs->False:=fun h=>by simp only[bad,Op.call.injEq] at h;exact hb h.2.1.symm
 cases ho:o.op with
 | call c=>
  have⟨callee,args,ts⟩:=c;simp only[aW,ho] at h
  split at h
  .rename_i f;cases hm:H.mode k<;>simp only[hm,Op.call.injEq,reduceCtorEq] at h
   all_goals exact⟨_,f,rfl,rfl,h.2.1.symm,h.2.2.symm⟩
  .repeat' split at h
   all_goals first
    | exact (nb h).elim
    | (cases h;done)
    | (revert h;generalize yu _ _=bb;intro h;cases bb<;>first | exact (nb h).elim | (cases h;done))
  .exact (nb h).elim
 | binOp op t x' y ty=>
  cases op<;>simp only[aW,ho,sr,zL] at h
  case eql=>
        repeat' split at h
        all_goals first
         | exact (nb h).elim
         | (cases h;done)
         | (cases aS:(O.P.stoodInHeld t||O.P.eqGuardType O.P.depth t)<;>rw[aS] at h<;>first | exact (nb h).elim | (cases h;done))
  case neq=>
        repeat' split at h
        all_goals first
         | exact (nb h).elim
         | (cases h;done)
         | (cases aS:(O.P.stoodInHeld t||O.P.eqGuardType O.P.depth t)<;>rw[aS] at h<;>first | exact (nb h).elim | (cases h;done))
  all_goals cases h
 | buildSlice t n parts=>
  simp only[aW,ho] at h
  repeat' split at h
  all_goals first
   | exact (nb h).elim
   | (cases h;done)
   | (revert h;generalize yG _ _=bb;intro h;cases bb<;>first | exact (nb h).elim | (simp only[yx] at h;cases h;done))
 | makeMap t r=>
  cases r<;>simp only[aW,ho] at h
  .repeat' split at h
   all_goals first
    | exact (nb h).elim
    | (cases h;done)
  .exact (nb h).elim
 | next x' b=>
  cases b<;>simp only[aW,ho] at h
  .exact (nb h).elim
  .cases h
 | _=>
  simp only[aW,ho] at h
  (repeat' split at h)
  all_goals first
   | contradiction
   | exact (nb h).elim
   | (cases h;done)
def an8{o:xa}{k:Nat}{r:AV×Hp×Nat}(hv:bc O.prog O.aK self tm hp ct (aW O.P H k o)=GR r):∀c,o.op≠.defer c:=by
 intro c ho;simp[aW,ho,bad,bc,fA,az] at hv
end
end
def ss{a b:Nat}(h:yP a b=ydB):a<b:=yA h
section
open Go
section
variable {aZ:Hp}{cap first ax z:List AV}{g n sz:Nat}{P:xp}
section
variable {O:bE}{H:Hint}{m:Mp}{S:Nat->Prop}{w:yo}{tm:Env}{a:Act}{hp ap Hq:Hp}{ct aQ cH:Nat}{self:cp}{ro:Option Nat}{next:Act->yo->Prop}{Q:uJ->Act->yo->Prop}
def ao5{g:yaG}{p:Pl}(hh:aU O m S w Hq cH)(hi:m ct=GS)(hb:p.b=w.heap.size)(h1:∀b,S b->S' b)(h2:∀b,S' b->S b\/b=w.heap.size):
  cr m S w Hq (gn m ct p) S' (w.alloc g) Hq base where
 os:=rfl
 tape:=rfl
 output:=rfl
 size:=by simp
 same b hb _:=alloc_old hb
 sub:=h1
 still b hb:=alloc_old (hh.slt b hb)
 new b hb:=(h2 b hb).imp (fun h=>h) (fun h=>.inr (by lia))
 own b hb:=by
  have⟨i,o,q,g1,g2,g3⟩:=hb;by_cases hc:i=ct
  .subst hc;rw[eB] at g2
   grind
  .rw [eX hc] at g2;exact .inl ⟨i,o,q,g1,g2,g3⟩
 old i q _ h:=mh hi i q h
 loops b r hb:=⟨r,(alloc_old (xx.1 hb).1).trans hb⟩
def abP{us:List ym}(hz:cD deep hp QJ=GR (ax,aZ))(hl:dD aZ Hq)(hh:aU O m S w Hq cH)(hr:aA O.ae m S w QJ us):aA O.ae fI S w ax us/\aF ax=ydB:=by
 have⟨_,_,h3⟩:=UK (O:=O) hz;have⟨k1,k2⟩:=h3 Hq m S w cH hl hh;exact⟨BL (fun _ h=>h) (fun _ _=>rfl) _ _ k2 (k1 us hr),k2⟩
def Wf(hh:aU O m S w Hq cH):Dz O w:=⟨hh.nI,hh.ig⟩
def Pw(hH:fW O H)(ht:cg O m S w tm a.tmps){f:xz}{args:Array xz}(hf:az tm (aO H f)=.fn (.f g) first cap):
  ∃fi ca:Array ym,a.eval f=.func (.func (O.ae g)) fi ca/\aA O.ae m S w (first++(dV tm (ju H args.toList)++cap)) (fi++args.map a.eval++ca).toList:=by
 have rf:=cl hH ht f;rw[hf] at rf;have⟨fi,ca,h1,h2,h3⟩:=rf;refine⟨fi,ca,h1,?_⟩
 have:=nZ h2 (nZ (E7 hH ht args.toList) h3)
 simp_all
def an9(hC:qH O self)(hH:fW O H){o:xa}{c:yax}{f:xz}(ho:o.op=.call c)(jH:c.callee=.value f){r:AV}(hf:az tm (aO H f)=.fn (.f g) first cap)(hz:cD deep hp (first++(dV tm (ju H c.args.toList)++cap))=GR (ax,aZ))(hr:bZ O.prog O.aK self g ax=GR r)(hl:dD aZ Hq)(ht:cg O m S w tm a.tmps)(hh:aU O m S w Hq cH)(hn:∀u S' w',aU O m S' w' Hq cH->af O.ae m S' w' (shut r) u->cr m S w Hq m S' w' Hq cH->next (a.put o.dst u) w'):o.wpIn (WF ro) 0 O.P a w next Q:=by
 have⟨fi,ca,h1,h2⟩:=Pw hH ht (args:=c.args) hf;have⟨h3,h4⟩:=abP hz hl hh h2;refine O0 ho jH h1 (hC.pure g ax r hr w S _ (Wf hh) hh.slt h3 h4) ?_;rintro e w' ⟨u,S',rfl,hw,g1,g2,g3,g4⟩;refine⟨u,rfl,?_⟩;have⟨S2,k1,k2,k3⟩:=ac3 g4 m;have hS:∀b,S b->S2 b:=fun b hb=>k1 b (g1 b hb)
 have Ec:∀b,S2 b->S b\/w.heap.size<=b:=fun b hb=>(k2 b hb).elim (g2 b) (fun h=>.inr h.1)
 have hl:∀b,S2 b->b<w'.heap.size:=fun b hb=>(k2 b hb).elim (g3 b) (fun h=>h.2)
 exact hn u S2 w' (ES hh hw hS Ec hl) k3 (C9 hh hw hS Ec)
def ao6(hC:qH O self)(hH:fW O H){o:xa}{c:yax}{f:xz}(ho:o.op=.call c)(jH:c.callee=.value f){r:AV}(hf:az tm (aO H f)=.fn (.f g) first cap)(hz:cD deep hp (first++(dV tm (ju H c.args.toList)++cap))=GR (ax,aZ))(hr:bZ O.prog O.aK self g ax=GR r)(hl:dD (own aZ ct r).2.1 Hq)(jg:(own aZ ct r).2.2<=cH)(aG:∀id o,ah hp id=GR o->id<ct)(rJ:∀id,ct<=id->id<(own aZ ct r).2.2->m id=GS)(ht:cg O m S w tm a.tmps)(hh:aU O m S w Hq cH)(hn:∀u m' S' w',aU O m' S' w' Hq cH->dT m m'->(∀id p,m' id=GR p->m id=GR p\/(ct<=id/\id<(own aZ ct r).2.2))->af O.ae m' S' w' (own aZ ct r).1 u->cr m S w Hq m' S' w' Hq cH->next (a.put o.dst u) w'):
  o.wpIn (WF ro) 0 O.P a w next Q:=by
 have⟨fi,ca,h1,h2⟩:=Pw hH ht (args:=c.args) hf;have⟨z1,z2,z3⟩:=UK (O:=O) hz;have Ye:∀id o,ah aZ id=GR o->id<ct:=fun id o h=>by
  have:=z2 id
  rw[h] at this
  cases hq:ah hp id with
  | none=>rw[hq] at this;cases this
  | some q=>exact aG id q hq
 have avL:∀id o,ah aZ id=GR o->ah (own aZ ct r).2.1 id=GR o:=fun id o h=>by
  cases r with
  | av vs=>exact PX Ye id o h
  | _=>exact We Ye id o h
 have rE:dD aZ Hq:=fun id o h=>hl id o (avL id o h)
 have⟨h3,h4⟩:=abP hz rE hh h2;refine O0 ho jH h1 (hC.pure g ax r hr w S _ (Wf hh) hh.slt h3 h4) ?_;rintro e w' ⟨u,S',rfl,hw,g1,g2,g3,g4⟩;refine⟨u,rfl,?_⟩;have Ed:=ES hh hw g1 g2 g3;have D8:=C9 (base:=cH) hh hw g1 g2;have⟨m',S2,k1,k2,k3,k4,k5,k6⟩:=avK (lo:=w.heap.size) Ed hl jg Ye rJ g4 hh.ig (fun j q hq=>hh.blt j q hq);refine hn u m' S2 w' k1 k2 (fun id p h=>(k3 id p h).imp (fun h=>h) (fun h=>⟨h.1,h.2.1⟩)) k4 ⟨hw.os,hw.tape,hw.output,hw.size,fun b hb _=>hw.same b hb,fun b hb=>k5 b (g1 b hb),fun b hb=>hw.same b (hh.slt b hb),?_,?_,fun i q _ h=>k2 i q h,D8.loops⟩
 .grind
 .rintro b ⟨i,ob,q,q1,q2,q3⟩;rcases k3 i q q2 with h | h
  .exact .inl ⟨i,ob,q,q1,h,q3⟩
  .grind
def aoa{H:Hint}{o:xa}{k:Nat}(hk:Op.ru n sz z ps=aW P H k o):False:=by
 cases ho:o.op with
 | call c=>
  obtain⟨callee,args,ts⟩:=c;simp only[aW,ho] at hk
  split at hk
  .rename_i f;cases hm:H.mode k<;>simp only[hm,reduceCtorEq] at hk
  .repeat' split at hk
   all_goals first
    | (cases hk;done)
    | (simp only[bad] at hk;cases hk;done)
    | (revert hk;generalize yu _ _=bb;intro hk;cases bb<;>simp[bad] at hk)
  .simp only [bad] at hk;cases hk
 | binOp op t x' y ty=>
  cases op<;>simp only[aW,ho,sr,zL] at hk
  case eql=>
        repeat' split at hk
        all_goals first
         | (cases hk;done)
         | (simp only[bad] at hk;cases hk;done)
         | (cases aS:(P.stoodInHeld t||P.eqGuardType P.depth t)<;>rw[aS] at hk<;>simp[bad] at hk)
  case neq=>
        repeat' split at hk
        all_goals first
         | (cases hk;done)
         | (simp only[bad] at hk;cases hk;done)
         | (cases aS:(P.stoodInHeld t||P.eqGuardType P.depth t)<;>rw[aS] at hk<;>simp[bad] at hk)
  all_goals cases hk
 | buildSlice t n parts=>
  simp only[aW,ho] at hk
  repeat' split at hk
  all_goals first
   | (cases hk;done)
   | (simp only[bad] at hk;cases hk;done)
   | (revert hk;generalize yG _ _=bb;intro hk;cases bb<;>simp[bad] at hk)
 | makeMap t r=>
  cases r<;>simp only[aW,ho] at hk
  .repeat' split at hk
   all_goals first
    | (cases hk;done)
    | (simp only[bad] at hk;cases hk;done)
  .simp only [bad] at hk;cases hk
 | next x' b=>
  cases b<;>simp only[aW,ho] at hk
  .simp only [bad] at hk;cases hk
  .cases hk
 | _=>
  simp only[aW,ho] at hk
  (repeat' split at hk)
  all_goals first
   | contradiction
   | (cases hk;done)
   | (simp only[bad] at hk;cases hk;done)
def avM{H:Hint}{o:xa}(hq:qX P H (.ru n sz z ps) o):∃k,Op.km n sz z ps=aW P H k o:=by
 rcases hq with ⟨k,hk⟩ | ⟨_,_,_,_,_,h3⟩ | ⟨_,_,_,_,_,_,_,h3⟩ | ⟨_,_,_,_,_,_,_,h3⟩ | ⟨k,n',qg,z',ps',h1,h3⟩
 .exact (aoa hk).elim
 .cases h3
 .cases h3
 .cases h3
 .simp only [Op.ru.injEq] at h3;obtain⟨rfl,rfl,rfl,rfl⟩:=h3;exact⟨k,h1⟩
def avN(hH:fW O H)(ht:cg O m S w tm a.tmps)(hh:aU O m S w hp ct){o:xa}{k:Nat}{hp0:Hp}(jP:Op.km n sz z ps=aW O.P H k o)(hv:bm tm hp0 (.ru n sz z ps)=GR v):
  ∃u g,(execOp a.eval o).run O.P w=.ok (.value u) (w.alloc g)/\∀S':Nat->Prop,(∀b,S b->S' b)->S' w.heap.size->af O.ae m S' (w.alloc g) v u:=by
 simp only[bm] at hv
 cases hf:fill tm z ps with
 | none=>simp[hf] at hv
 | some cs=>
  simp only[hf] at hv
  cases hc:(yu cs.length (n*sz)&&(yP 0 sz&&aF cs)) with
  | false=>rw[hc] at hv;cases hv
  | true=>
   rw[hc] at hv;simp only[yx,yc] at hv;subst hv;simp only[yf] at hc;obtain⟨c1,c2,c3⟩:=hc;have Gi:=yi c1;have IK:=se.1 c2;have hi:m ct=GS:=by
    cases hm:m ct with
    | none=>rfl
    | some p=>have:=hh.lt ct p hm;omega
   have cy:cR tm hp ct (aW O.P H k o)=GR (.ay ct 0 n,.cells ydB ydB ydB sz cs):=by
    rw[<-jP];simp only[cR,hf,c1,yx,c3]
   obtain⟨u,g,p,h1,h2,h3,h4⟩:=afd hH ht hh cy;refine⟨u,g,h1,fun S' hS hSn=>?_⟩;obtain⟨ho,hr⟩:=h4 (gn m ct p) (mh hi) eB;simp only[gl] at ho;obtain⟨q,arr,t,g1,g2,g3,g4,g5,g6,g7,g8,_⟩:=ho;rw[eB] at g1;injection g1 with g1
   subst g1;simp only[af,eB,yc] at hr;obtain⟨q,c,rfl,rfl,r3,r4⟩:=hr;simp only[af];refine .inl ⟨_,_,c,rfl,r3,fun _=>?_,.inr (by rw[h2];exact hSn),c3,?_⟩
   .have e:=g6 trivial;rw[<-e,Gi,g3,yd] at r4;exact yaR IK r4
   .rw [yY];exact CX hS (fun _ _=>rfl) cs _ _ c3 rfl g7
def quiet_step(hC:qH O self)(hH:fW O H){o:xa}{q:Op}(hk:br q<=1)(hq:qX O.P H q o)(hd:∀c,o.op≠.defer c)(hv:bc O.prog O.aK self tm hp ct q=GR (v,ap,aQ))(hl:dD ap Hq)(jg:aQ<=cH)(aG:∀id o,ah hp id=GR o->id<ct)(rJ:∀id,ct<=id->id<aQ->m id=GS)(ht:cg O m S w tm a.tmps)(hh:aU O m S w Hq cH)(hn:∀u m' S' w',aU O m' S' w' Hq cH->dT m m'->(∀id p,m' id=GR p->m id=GR p\/(ct<=id/\id<aQ))->af O.ae m' S' w' v u->cr m S w Hq m' S' w' Hq cH->next (a.put o.dst u) w'):
  o.wpIn (WF ro) 0 O.P a w next Q:=by
 by_cases Ee:∃n sz z ps,q=.ru n sz z ps
 .obtain ⟨n,sz,z,ps,rfl⟩:=Ee;obtain⟨k,jP⟩:=avM hq;simp only[bc] at hv
  cases hm:bm tm hp (.ru n sz z ps) with
  | none=>simp[hm] at hv
  | some r=>
   simp only[hm,yc,yr] at hv;obtain⟨rfl,rfl,rfl⟩:=hv;obtain⟨u,g,h1,h2⟩:=avN hH ht hh jP hm;have Bq:Calm w (w.alloc g):=⟨rfl,rfl,rfl,by simp,fun b hb=>alloc_old hb⟩
   let S':Nat->Prop:=fun b=>S b\/b=w.heap.size
   have hS:∀b,S b->S' b:=fun b hb=>.inl hb
   have Ec:∀b,S' b->S b\/w.heap.size<=b:=fun b hb=>hb.imp id (fun e=>by omega)
   have Gj:∀b,S' b->b<(w.alloc g).heap.size:=fun b hb=>by
    rcases hb with hb | hb
    .have:=hh.slt b hb;simp;omega
    .subst hb;simp
   refine KX hd h1 (.inl rfl) (hn u m S' _ (ES hh Bq hS Ec Gj) dT.refl (fun _ _ h=>.inl h) (h2 S' hS (.inr rfl)) (C9 hh Bq hS Ec))
 have jP:∃k,q=aW O.P H k o:=by
  rcases hq with h | ⟨c,f,rs,_,_,rfl⟩ | ⟨_,_,_,_,_,_,_,rfl⟩ | ⟨_,_,_,_,_,_,_,rfl⟩ | ⟨_,_,_,_,_,_,h⟩
  .exact h
  .simp [br] at hk
  .simp [br] at hk
  .simp [br] at hk
  .exact (Ee ⟨_,_,_,_,h⟩).elim
 obtain⟨k,hq⟩:=jP;have read:∀{v:AV},bm tm hp q=GR v->dD hp Hq->(∀u m' S' w',aU O m' S' w' Hq cH->dT m m'->(∀id p,m' id=GR p->m id=GR p\/(ct<=id/\id<aQ))->af O.ae m' S' w' v u->cr m S w Hq m' S' w' Hq cH->next (a.put o.dst u) w')->o.wpIn (WF ro) 0 O.P a w next Q:=by
  intro v hr hl hn;have bO:=aoZ hl hr;rw[hq] at bO;obtain⟨u,h1,h2⟩:=afb hH ht hh bO;exact KX hd h1 (.inl rfl) (hn u m S w hh dT.refl (fun _ _ h=>.inl h) h2 cr.refl)
 have makes:∀{v:AV} {b:Obj},cR tm hp ct q=GR (v,b)->dD ((ct,b)::hp) Hq->ct+1<=cH->m ct=GS->(∀u m' S' w',aU O m' S' w' Hq cH->dT m m'->(∀id p,m' id=GR p->m id=GR p\/(ct<=id/\id<ct+1))->af O.ae m' S' w' v u->cr m S w Hq m' S' w' Hq cH->next (a.put o.dst u) w')->o.wpIn (WF ro) 0 O.P a w next Q:=by
  intro v b hr hl hc hi hn;rw[hq] at hr;have bO:cR tm Hq ct (aW O.P H k o)=GR (v,b):=by rw[<-hr];exact J8 (fun _ _=>rfl)
  obtain⟨u,g,p,h1,h2,h3,h4⟩:=afd hH ht hh bO;obtain⟨S',k1,k2,k3⟩:=adR (i:=ct) (g:=g) (p:=p) hh hi hc h2 (fun o' ni=>by
   obtain⟨o'',g1,g2⟩:=hl ct b (by rw[iU];simp)
   rw[ni] at g1;injection g1 with g1
   subst g1
   have:=abM g2 eB (h4 _ (mh hi) eB).1 h3
   rwa[h2] at this)
  refine KX hd h1 (.inl rfl) (hn u _ S' _ k1 (mh hi) (fun id q hq=>?_) (n8 (fun _ _ h=>h) k2 (fun _ _=>rfl) _ _ (h4 _ (mh hi) eB).2) (ao5 hh hi h2 k2 k3));by_cases hc:id=ct
  .exact .inr (by omega)
  .rw [eX hc] at hq;exact .inl hq
 have cy:∀{q:Op},(match cR tm hp ct q with | some (v,b)=>GR (v,(ct,b)::hp,ct+1) | none=>(GS:gZ))=GR (v,ap,aQ)->∃b,cR tm hp ct q=GR (v,b)/\ap=(ct,b)::hp/\aQ=ct+1:=by
  intro q h
  cases hm:cR tm hp ct q with
  | none=>simp[hm] at h
  | some r=>
   obtain⟨v1,b⟩:=r;simp only[hm,yc,yr] at h;obtain⟨rfl,rfl,rfl⟩:=h;exact⟨b,rfl,rfl,rfl⟩
 have ji:∀{q:Op},(match bm tm hp q with | some v=>GR (v,hp,ct) | none=>(GS:gZ))=GR (v,ap,aQ)->bm tm hp q=GR v/\ap=hp/\aQ=ct:=by
  intro q h
  cases hm:bm tm hp q with
  | none=>simp[hm] at h
  | some r=>
   simp only[hm,yc,yr] at h;obtain⟨rfl,rfl,rfl⟩:=h;exact⟨rfl,rfl,rfl⟩
 have KY:(∃b,cR tm hp ct q=GR (v,b)/\ap=(ct,b)::hp/\aQ=ct+1)->o.wpIn (WF ro) 0 O.P a w next Q:=by
  rintro⟨b,h1,rfl,rfl⟩;exact makes h1 hl jg (rJ ct (yz _) (yca _)) hn
 have avO:(bm tm hp q=GR v/\ap=hp/\aQ=ct)->o.wpIn (WF ro) 0 O.P a w next Q:=by
  rintro⟨h1,rfl,rfl⟩;exact read h1 hl hn
 cases q with
 | st _ _ _=>simp[br] at hk
 | pZ _ _ _ _=>simp[br] at hk
 | zd _=>simp[br] at hk
 | eE _ _ _ _=>simp[br] at hk
 | p7 _ _ _=>simp[br] at hk
 | kJ _ _ _=>simp[br] at hk
 | mD _ _ _ _=>simp[br] at hk
 | nh _ _ _ _ _=>simp[br] at hk
 | box s x=>exact KY (cy (by simp only[bc] at hv;exact hv))
 | km n s z ps=>exact KY (cy (by simp only[bc] at hv;exact hv))
 | oP s b z x y=>exact KY (cy (by simp only[bc] at hv;exact hv))
 | Bi=>exact KY (cy (by simp only[bc] at hv;exact hv))
 | zc x=>exact KY (cy (by simp only[bc] at hv;exact hv))
 | call md x xs=>
  cases md with
  | heap=>simp[br] at hk
  | dyn=>simp[br] at hk
  | pure=>
   simp only[bc,fA] at hv
   split at hv
   .rename_i g first cap hx
    (try simp only at hv)
    cases hz:cD deep hp (first++(dV tm xs++cap)) with
    | none=>simp[hz] at hv
    | some z=>
     obtain⟨ax,aZ⟩:=z;simp only[hz] at hv
     cases hr:bZ O.prog O.aK self g ax with
     | none=>simp[hr] at hv
     | some r=>
      simp only[hr,yc,yr] at hv;obtain⟨rfl,rfl,rfl⟩:=hv;obtain⟨c,f,ho,jH,rfl,rfl⟩:=PY hq.symm (by rintro rfl;simp[az] at hx);exact an9 hC hH ho jH hx hz hr hl ht hh (fun u S' w' h1 h2 h3=>hn u m S' w' h1 dT.refl (fun _ _ h=>.inl h) h2 h3)
   .simp at hv
   .cases hv
  | own=>
   simp only[bc,fA] at hv
   split at hv
   .rename_i g first cap hx
    (try simp only at hv)
    cases hz:cD deep hp (first++(dV tm xs++cap)) with
    | none=>simp[hz] at hv
    | some z=>
     obtain⟨ax,aZ⟩:=z;simp only[hz] at hv
     cases hr:bZ O.prog O.aK self g ax with
     | none=>simp[hr] at hv
     | some r=>
      simp only[hr,yc] at hv;obtain⟨c,f,ho,jH,rfl,rfl⟩:=PY hq.symm (by rintro rfl;simp[az] at hx);have e1:v=(own aZ ct r).1:=by rw[hv]
      have e2:ap=(own aZ ct r).2.1:=by rw[hv]
      have e3:aQ=(own aZ ct r).2.2:=by rw[hv]
      subst e1;subst e2;subst e3;exact ao6 hC hH ho jH hx hz hr hl jg aG rJ ht hh hn
   .simp at hv
   .cases hv
 | _=>exact avO (ji (by simp only[bc] at hv;exact hv))
end
end
end
section
open Go
section
variable {r v:AV}{b sz:Nat}{q:Op}{P:xp}{x y:X}
section
variable {O:bE}{H:Hint}{m:Mp}{S:Nat->Prop}{w:yo}{tm:Env}{a:Act}{hp ap:Hp}{ct aQ:Nat}{self:cp}{ro:Option Nat}{next:Act->yo->Prop}{Q:uJ->Act->yo->Prop}
def cr.A1{w':yo}{b':Nat}(h:cr m S w hp m' S' w' ap b)(hb:b'<=b):cr m S w hp m' S' w' ap b':=
 ⟨h.os,h.tape,h.output,h.size,h.same,h.sub,h.still,h.new,h.own,fun i q hi hq=>h.old i q (by lia) hq,h.loops⟩
def avP{hp:Hp}{ct:Nat}(aG:∀id o,ah hp id=GR o->id<ct):∀id o,ah (own hp ct r).2.1 id=GR o->id<(own hp ct r).2.2:=by
 have hL:∀(vs:List AV) (hp:Hp) (ct:Nat),(∀id o,ah hp id=GR o->id<ct)->∀id o,ah (lQ hp ct vs).2.1 id=GR o->id<(lQ hp ct vs).2.2:=by
  intro vs
  induction vs with
  | nil=>intro hp ct h id o ho;exact h id o ho
  | cons v r ih=>intro hp ct h id o ho;exact ih _ _ (KG h) id o ho
 cases r with
 | av vs=>exact hL vs hp ct aG
 | _=>exact KG aG
def avQ{hp:Hp}{ct:Nat}(aG:∀id o,ah hp id=GR o->id<ct):∀id o,ah hp id=GR o->ah (own hp ct r).2.1 id=GR o:=by
 cases r with
 | av vs=>exact PX aG
 | _=>exact We aG
def avR{hp:Hp}{ct:Nat}:ct<=(own hp ct r).2.2:=by
 cases r with
 | av vs=>exact PW
 | _=>exact PV
def aqX{hp:Hp}{ct:Nat}:∀id o,ah (own hp ct r).2.1 id=GR o->id<ct->ah hp id=GR o:=by
 have h1:∀(hp:Hp) (ct:Nat) (r:AV) id o,ah (gi hp ct r).2.1 id=GR o->id<ct->ah hp id=GR o:=by
  intro hp ct r id o h hc;cases r<;>simp only[gi] at h<;>try exact h
  rw[iU,yq (by lia)] at h;exact h
 have hL:∀(vs:List AV) (hp:Hp) (ct:Nat) id o,ah (lQ hp ct vs).2.1 id=GR o->id<ct->ah hp id=GR o:=by
  intro vs
  induction vs with
  | nil=>intro hp ct id o ho _;exact ho
  | cons v r ih=>intro hp ct id o ho hc;exact h1 hp ct v id o (ih _ _ id o ho (by have:=PV (hp:=hp) (ct:=ct) (r:=v);lia)) hc
 cases r with
 | av vs=>exact hL vs hp ct
 | _=>exact h1 hp ct _
structure j0(hp:Hp)(ct:Nat)(ap:Hp)(aQ:Nat):Prop where
 le:dD hp ap
 zi:ct<=aQ
 lt:∀id o,ah ap id=GR o->id<aQ
 back:∀id o,ah ap id=GR o->id<ct->∃o',ah hp id=GR o'
def j0.refl(aG:∀id o,ah hp id=GR o->id<ct):j0 hp ct hp ct:=⟨dD.refl,yz _,aG,fun _ o h _=>⟨o,h⟩⟩
def j0.trans{Mi:Hp}{aiI:Nat}(h:j0 hp ct ap aQ)(k:j0 ap aQ Mi aiI):j0 hp ct Mi aiI:=
 ⟨h.le.trans k.le,y7 h.zi k.zi,k.lt,fun id o ho hi=>let ⟨o1,h1⟩:=k.back id o ho (yF hi h.zi);h.back id o1 h1 hi⟩
def ac7{ax:List AV}{aZ:Hp}(hz:cD deep hp QJ=GR (ax,aZ))(aG:∀id o,ah hp id=GR o->id<ct):j0 hp ct aZ ct:=by
 have⟨z1,z2,_⟩:=UK (O:=⟨default,⟨fun _=>GS,fun _=>GS⟩,fun _=>0,fun _=>GS,fun _=>⟨0,fun _=>GS,fun _=>[],fun _=>GS,fun _=>.pure,fun _=>[]⟩,default⟩) hz;have hb:∀id o,ah aZ id=GR o->∃o',ah hp id=GR o':=fun id o h=>by
  have:=z2 id
  rw[h] at this
  cases hq:ah hp id with
  | none=>rw[hq] at this;cases this
  | some q=>exact⟨q,rfl⟩
 exact⟨z1,yz _,fun id o h=>let ⟨o',h'⟩:=hb id o h;aG id o' h',fun id o h _=>hb id o h⟩
def ao7(aG:∀id o,ah hp id=GR o->id<ct):j0 hp ct (own hp ct r).2.1 (own hp ct r).2.2:=
 ⟨fun id o h=>⟨o,avQ aG id o h,kP.refl o⟩,avR,avP aG,fun id o h hi=>⟨o,aqX id o h hi⟩⟩
def abQ{P:aE}(hk:br q<=1)(hv:bc P L self tm hp ct q=GR (v,ap,aQ))(aG:∀id o,ah hp id=GR o->id<ct):j0 hp ct ap aQ:=by
 have cy:∀{q:Op},(match cR tm hp ct q with | some (v,b)=>GR (v,(ct,b)::hp,ct+1) | none=>(GS:gZ))=GR (v,ap,aQ)->j0 hp ct ap aQ:=by
  intro q h
  cases hm:cR tm hp ct q with
  | none=>simp[hm] at h
  | some r=>
   obtain⟨v1,b⟩:=r;simp only[hm,yc,yr] at h;obtain⟨rfl,rfl,rfl⟩:=h;refine⟨fun id o ho=>⟨o,?_,kP.refl o⟩,by omega,fun id o ho=>?_,fun id o ho hi=>?_⟩
   .rw [iU,yq (by have:=aG id o ho;omega)];exact ho
   .rw [iU] at ho;by_cases hc:ct=id
    .omega
    .simp only [hc,xv] at ho;have:=aG id o ho;omega
   .rw [iU,yq (by omega)] at ho;exact⟨o,ho⟩
 have ji:∀{q:Op},(match bm tm hp q with | some v=>GR (v,hp,ct) | none=>(GS:gZ))=GR (v,ap,aQ)->j0 hp ct ap aQ:=by
  intro q h
  cases hm:bm tm hp q with
  | none=>simp[hm] at h
  | some r=>
   simp only[hm,yc,yr] at h;obtain⟨rfl,rfl,rfl⟩:=h;exact j0.refl aG
 cases bR:q with
 | st _ _ _=>simp[bR,br] at hk
 | pZ _ _ _ _=>simp[bR,br] at hk
 | zd _=>simp[bR,br] at hk
 | eE _ _ _ _=>simp[bR,br] at hk
 | p7 _ _ _=>simp[bR,br] at hk
 | kJ _ _ _=>simp[bR,br] at hk
 | mD _ _ _ _=>simp[bR,br] at hk
 | nh _ _ _ _ _=>simp[bR,br] at hk
 | box s x=>exact cy (q:=q) (by rw[bR] at hv ⊢;simp only[bc] at hv;exact hv)
 | km n s z ps=>exact cy (q:=q) (by rw[bR] at hv ⊢;simp only[bc] at hv;exact hv)
 | oP s b z x y=>exact cy (q:=q) (by rw[bR] at hv ⊢;simp only[bc] at hv;exact hv)
 | Bi=>exact cy (q:=q) (by rw[bR] at hv ⊢;simp only[bc] at hv;exact hv)
 | zc x=>exact cy (q:=q) (by rw[bR] at hv ⊢;simp only[bc] at hv;exact hv)
 | call md x xs=>
  subst bR;simp only[bc,fA] at hv
  split at hv
  .rename_i g first cap hx
   cases md with
   | heap=>simp[br] at hk
   | dyn=>simp[br] at hk
   | pure=>
    simp only at hv
    cases hz:cD deep hp (first++(dV tm xs++cap)) with
    | none=>simp[hz] at hv
    | some z=>
     obtain⟨ax,aZ⟩:=z;simp only[hz] at hv
     cases hr:bZ P L self g ax with
     | none=>simp[hr] at hv
     | some r=>
      simp only[hr,yc,yr] at hv;obtain⟨rfl,rfl,rfl⟩:=hv;exact ac7 hz aG
   | own=>
    simp only at hv
    cases hz:cD deep hp (first++(dV tm xs++cap)) with
    | none=>simp[hz] at hv
    | some z=>
     obtain⟨ax,aZ⟩:=z;simp only[hz] at hv
     cases hr:bZ P L self g ax with
     | none=>simp[hr] at hv
     | some r=>
      simp only[hr,yc] at hv;have e2:ap=(own aZ ct r).2.1:=by rw[hv]
      have e3:aQ=(own aZ ct r).2.2:=by rw[hv]
      subst e2;subst e3;have g1:=ac7 hz aG;exact g1.trans (ao7 g1.lt)
  .cases md with
   | heap=>simp[br] at hk
   | dyn=>simp[br] at hk
   | _=>simp at hv
  .cases hv
 | _=>exact ji (q:=q) (by rw[bR] at hv ⊢;simp only[bc] at hv;exact hv)
def Px(hh:aU O m S w hp ct)(hg:j0 hp ct ap aQ):∃S',aU O m S' w ap aQ/\(∀b,S b->S' b)/\(∀b,S' b->S b\/eO m hp b)/\∀base,cr m S w hp m S' w ap base:=by
 have hd:∀id o p,ah ap id=GR o->m id=GR p->∃o',ah hp id=GR o':=fun id o p h hm=>hg.back id o h (hh.lt id p hm)
 have⟨S',g1,g2,g3⟩:=afc hh hg.le hd hg.zi hg.lt;refine⟨S',g1,g2,g3,fun base=>⟨rfl,rfl,rfl,yz _,fun _ _ _=>rfl,g2,fun _ _=>rfl,fun b hb=>(g3 b hb).imp (fun h=>h) .inl,?_,fun _ _ _ h=>h,fun _ r h=>⟨r,h⟩⟩⟩;rintro b ⟨i,o,p,h1,h2,h3⟩;have⟨o',h4⟩:=hd i o p h1 h2;exact .inl ⟨i,o',p,h4,h2,h3⟩
def aqY(hv:cx tm hp ct q=GR (v,ap,aQ)):ct<=aQ:=by
 cases q<;>simp only[cx,reduceCtorEq] at hv
 all_goals
  grind
def VH{H:Hint}{o:xa}(hq:qX P H (.kJ rs x xs) o):∃c f,o.op=.call c/\c.callee=.value f/\x=aO H f/\xs=ju H c.args.toList:=by
 rcases hq with ⟨k,hk⟩ | ⟨c,f,rs',h1,h2,h3⟩ | ⟨_,_,_,_,_,_,_,h3⟩ | ⟨_,_,_,_,_,_,_,h3⟩ | ⟨_,_,_,_,_,_,h3⟩
 .cases ho:o.op with
  | call c=>
   have⟨callee,args,ts⟩:=c;simp only[aW,ho] at hk
   split at hk
   .rename_i f;cases hm:H.mode k<;>simp only[hm,Op.kJ.injEq,reduceCtorEq] at hk
    exact⟨_,f,rfl,rfl,hk.2.1,hk.2.2⟩
   .repeat' split at hk
    all_goals first
     | (cases hk;done)
     | (simp only[bad] at hk;cases hk;done)
     | (revert hk;generalize yu _ _=bb;intro hk;cases bb<;>simp[bad] at hk)
   .simp only [bad] at hk;cases hk
  | binOp op t x' y ty=>
   cases op<;>simp only[aW,ho,sr,zL] at hk
   case eql=>
         repeat' split at hk
         all_goals first
          | (cases hk;done)
          | (simp only[bad] at hk;cases hk;done)
          | (cases aS:(P.stoodInHeld t||P.eqGuardType P.depth t)<;>rw[aS] at hk<;>simp[bad] at hk)
   case neq=>
         repeat' split at hk
         all_goals first
          | (cases hk;done)
          | (simp only[bad] at hk;cases hk;done)
          | (cases aS:(P.stoodInHeld t||P.eqGuardType P.depth t)<;>rw[aS] at hk<;>simp[bad] at hk)
   all_goals cases hk
  | buildSlice t n parts=>
   simp only[aW,ho] at hk
   repeat' split at hk
   all_goals first
    | (cases hk;done)
    | (simp only[bad] at hk;cases hk;done)
    | (revert hk;generalize yG _ _=bb;intro hk;cases bb<;>simp[bad] at hk)
  | makeMap t r=>
   cases r<;>simp only[aW,ho] at hk
   .repeat' split at hk
    all_goals first
     | (cases hk;done)
     | (simp only[bad] at hk;cases hk;done)
   .simp only [bad] at hk;cases hk
  | next x' b=>
   cases b<;>simp only[aW,ho] at hk
   .simp only [bad] at hk;cases hk
   .cases hk
  | _=>
   simp only[aW,ho] at hk
   (repeat' split at hk)
   all_goals first
    | contradiction
    | (cases hk;done)
    | (simp only[bad] at hk;cases hk;done)
 .simp only [Op.kJ.injEq] at h3;exact⟨c,f,h1,h2,h3.2.1,h3.2.2⟩
 .cases h3
 .cases h3
 .cases h3
def aob{H:Hint}{o:xa}{k:Nat}(hk:Op.mD rs sz x y=aW P H k o):False:=by
 cases ho:o.op with
 | call c=>
  have⟨callee,args,ts⟩:=c;simp only[aW,ho] at hk
  split at hk
  .grind
  .repeat' split at hk
   all_goals first
    | (cases hk;done)
    | (simp only[bad] at hk;cases hk;done)
    | (revert hk;generalize yu _ _=bb;intro hk;cases bb<;>simp[bad] at hk)
  .simp only [bad] at hk;cases hk
 | binOp op t x' y ty=>
  cases op<;>simp only[aW,ho,sr,zL] at hk
  case eql=>
        repeat' split at hk
        all_goals first
         | (cases hk;done)
         | (simp only[bad] at hk;cases hk;done)
         | (cases aS:(P.stoodInHeld t||P.eqGuardType P.depth t)<;>rw[aS] at hk<;>simp[bad] at hk)
  case neq=>
        repeat' split at hk
        all_goals first
         | (cases hk;done)
         | (simp only[bad] at hk;cases hk;done)
         | (cases aS:(P.stoodInHeld t||P.eqGuardType P.depth t)<;>rw[aS] at hk<;>simp[bad] at hk)
  all_goals cases hk
 | buildSlice t n parts=>
  simp only[aW,ho] at hk
  repeat' split at hk
  all_goals first
   | (cases hk;done)
   | (simp only[bad] at hk;cases hk;done)
   | (revert hk;generalize yG _ _=bb;intro hk;cases bb<;>simp[bad] at hk)
 | makeMap t r=>
  cases r<;>simp only[aW,ho] at hk
  .repeat' split at hk
   all_goals first
    | (cases hk;done)
    | (simp only[bad] at hk;cases hk;done)
  .simp only [bad] at hk;cases hk
 | next x' b=>
  cases b<;>simp only[aW,ho] at hk
  .simp only [bad] at hk;cases hk
  .cases hk
 | _=>
  simp only[aW,ho] at hk
  (repeat' split at hk)
  all_goals first
   | contradiction
   | (cases hk;done)
   | (simp only[bad] at hk;cases hk;done)
def aoc{H:Hint}{o:xa}{k:Nat}(hk:Op.nh rs sz b x y=aW P H k o):False:=by
 cases ho:o.op with
 | call c=>
  have⟨callee,args,ts⟩:=c;simp only[aW,ho] at hk
  split at hk
  .rename_i f;cases hm:H.mode k<;>simp only[hm,reduceCtorEq] at hk
  .repeat' split at hk
   all_goals first
    | (cases hk;done)
    | (simp only[bad] at hk;cases hk;done)
    | (revert hk;generalize yu _ _=bb;intro hk;cases bb<;>simp[bad] at hk)
  .simp only [bad] at hk;cases hk
 | binOp op t x' y ty=>
  cases op<;>simp only[aW,ho,sr,zL] at hk
  case eql=>
        repeat' split at hk
        all_goals first
         | (cases hk;done)
         | (simp only[bad] at hk;cases hk;done)
         | (cases aS:(P.stoodInHeld t||P.eqGuardType P.depth t)<;>rw[aS] at hk<;>simp[bad] at hk)
  case neq=>
        repeat' split at hk
        all_goals first
         | (cases hk;done)
         | (simp only[bad] at hk;cases hk;done)
         | (cases aS:(P.stoodInHeld t||P.eqGuardType P.depth t)<;>rw[aS] at hk<;>simp[bad] at hk)
  all_goals cases hk
 | buildSlice t n parts=>
  simp only[aW,ho] at hk
  repeat' split at hk
  all_goals first
   | (cases hk;done)
   | (simp only[bad] at hk;cases hk;done)
   | (revert hk;generalize yG _ _=bb;intro hk;cases bb<;>simp[bad] at hk)
 | makeMap t r=>
  cases r<;>simp only[aW,ho] at hk
  .repeat' split at hk
   all_goals first
    | (cases hk;done)
    | (simp only[bad] at hk;cases hk;done)
  .simp only [bad] at hk;cases hk
 | next x' b=>
  cases b<;>simp only[aW,ho] at hk
  .simp only [bad] at hk;cases hk
  .cases hk
 | _=>
  simp only[aW,ho] at hk
  (repeat' split at hk)
  all_goals first
   | contradiction
   | (cases hk;done)
   | (simp only[bad] at hk;cases hk;done)
def azQ{H:Hint}{o:xa}(hq:qX P H (.st sz x y) o):∃t x' y',o.op=.store t x' y'/\cF P t=GR sz/\x=aO H x'/\y=aO H y':=by
 obtain⟨k,hk⟩:∃k,Op.st sz x y=aW P H k o:=by
  rcases hq with h | ⟨_,_,_,_,_,h⟩ | ⟨_,_,_,_,_,_,_,h⟩ | ⟨_,_,_,_,_,_,_,h⟩ | ⟨_,_,_,_,_,_,h⟩
  .exact h
  .cases h
  .cases h
  .cases h
  .cases h
 cases ho:o.op with
 | call c=>
  have⟨callee,args,ts⟩:=c;simp only[aW,ho] at hk
  split at hk
  .rename_i f;cases hm:H.mode k<;>simp only[hm,reduceCtorEq] at hk
  .repeat' split at hk
   all_goals first
    | (cases hk;done)
    | (simp only[bad] at hk;cases hk;done)
    | (revert hk;generalize yu _ _=bb;intro hk;cases bb<;>simp[bad] at hk)
  .simp only [bad] at hk;cases hk
 | binOp op t x' y ty=>
  cases op<;>simp only[aW,ho,sr,zL] at hk
  case eql=>
        repeat' split at hk
        all_goals first
         | (cases hk;done)
         | (simp only[bad] at hk;cases hk;done)
         | (cases aS:(P.stoodInHeld t||P.eqGuardType P.depth t)<;>rw[aS] at hk<;>simp[bad] at hk)
  case neq=>
        repeat' split at hk
        all_goals first
         | (cases hk;done)
         | (simp only[bad] at hk;cases hk;done)
         | (cases aS:(P.stoodInHeld t||P.eqGuardType P.depth t)<;>rw[aS] at hk<;>simp[bad] at hk)
  all_goals cases hk
 | buildSlice t n parts=>
  simp only[aW,ho] at hk
  repeat' split at hk
  all_goals first
   | (cases hk;done)
   | (simp only[bad] at hk;cases hk;done)
   | (revert hk;generalize yG _ _=bb;intro hk;cases bb<;>simp[bad] at hk)
 | makeMap t r=>
  cases r<;>simp only[aW,ho] at hk
  .repeat' split at hk
   all_goals first
    | (cases hk;done)
    | (simp only[bad] at hk;cases hk;done)
  .simp only [bad] at hk;cases hk
 | next x' b=>
  cases b<;>simp only[aW,ho] at hk
  .simp only [bad] at hk;cases hk
  .cases hk
 | store t x' y'=>
  simp only[aW,ho] at hk
  split at hk
  .rename_i s hs;simp only[Op.st.injEq] at hk;obtain⟨rfl,rfl,rfl⟩:=hk;exact⟨t,x',y',rfl,hs,rfl,rfl⟩
  .simp only [bad] at hk;cases hk
 | _=>
  simp only[aW,ho] at hk
  (repeat' split at hk)
  all_goals first
   | contradiction
   | (cases hk;done)
   | (simp only[bad] at hk;cases hk;done)
def aga{H:Hint}{o:xa}(hq:qX P H (.mD rs sz x y) o):∃t x' y',o.op=.store t x' y'/\cF P t=GR sz/\x=aO H x'/\y=aO H y':=by
 rcases hq with ⟨k,hk⟩ | ⟨_,_,_,_,_,h3⟩ | ⟨t,x',y',qg,rs',h1,h2,h3⟩ | ⟨_,_,_,_,_,_,_,h3⟩ | ⟨_,_,_,_,_,_,h3⟩
 .exact (aob hk).elim
 .cases h3
 .simp only [Op.mD.injEq] at h3;obtain⟨_,rfl,rfl,rfl⟩:=h3;exact⟨t,x',y',h1,h2,rfl,rfl⟩
 .cases h3
 .cases h3
def agb{H:Hint}{o:xa}(hq:qX P H (.nh rs sz b x y) o):∃k,Op.eE sz b x y=aW P H k o:=by
 rcases hq with ⟨k,hk⟩ | ⟨_,_,_,_,_,h3⟩ | ⟨_,_,_,_,_,_,_,h3⟩ | ⟨k,rs',qg,b',x',y',h1,h3⟩ | ⟨_,_,_,_,_,_,h3⟩
 .exact (aoc hk).elim
 .cases h3
 .cases h3
 .simp only [Op.nh.injEq] at h3;obtain⟨_,rfl,rfl,rfl,rfl⟩:=h3;exact⟨k,h1⟩
 .cases h3
def avS{H:Hint}{o:xa}(hq:qX P H (.eE sz b x y) o):∃k,Op.eE sz b x y=aW P H k o:=by
 rcases hq with h | ⟨_,_,_,_,_,h3⟩ | ⟨_,_,_,_,_,_,_,h3⟩ | ⟨_,_,_,_,_,_,_,h3⟩ | ⟨_,_,_,_,_,_,h3⟩
 .exact h
 .cases h3
 .cases h3
 .cases h3
 .cases h3
def aod{H:Hint}{o:xa}(hq:qX P H q o):qX P H (lh q) o:=by
 cases h:q with
 | kJ rs f xs=>
  subst h;have⟨c,f',g1,g2,g3,g4⟩:=VH hq;exact .inr (.inl ⟨c,f',[],g1,g2,by rw[g3,g4];rfl⟩)
 | mD rs sz x y=>
  subst h;have⟨t,x',y',g1,g2,g3,g4⟩:=aga hq;refine .inl ⟨0,?_⟩;simp only[lh,aW,g1,g2,g3,g4]
 | nh rs sz b x y=>
  subst h;exact .inl (agb hq)
 | _=>subst h;exact hq
def ad0(hC:qH O self)(hH:fW O H){o:xa}(hq:qX O.P H q o)(hd:∀c,o.op≠.defer c)(hv:bc O.prog O.aK self tm hp ct q=GR (v,ap,aQ))(ht:cg O m S w tm a.tmps)(hh:aU O m S w hp ct)(hn:∀u m' S' w',aU O m' S' w' ap aQ->ct<=aQ->af O.ae m' S' w' v u->cr m S w hp m' S' w' ap ct->next (a.put o.dst u) w'):o.wpIn (WF ro) 0 O.P a w next Q:=by
 have quiet:br q<=1->o.wpIn (WF ro) 0 O.P a w next Q:=by
  intro hk;have hg:=abQ hk hv hh.aG;obtain⟨S1,g1,g2,g3,g4⟩:=Px hh hg;refine quiet_step hC hH hk hq hd hv dD.refl (yz _) hh.aG (fun id h1 h2=>?_) (C6 (fun _ _ h=>h) g2 (fun _ _=>rfl) ht) g1 (fun u m' S' w' k1 k2 k3 k4 k5=>hn u m' S' w' k1 hg.zi k4 ((g4 ct).trans (k5.A1 hg.zi)))
  cases hm:m id with
  | none=>rfl
  | some p=>have:=hh.lt id p hm;omega
 have WO:∀{q':Op},(∃k,q'=aW O.P H k o)->cx tm hp ct q'=GR (v,ap,aQ)->o.wpIn (WF ro) 0 O.P a w next Q:=by
  intro q' jP hw;obtain⟨k,rfl⟩:=jP;obtain⟨n,u,w',m',S',h1,h2,h3,h4,h5,h6⟩:=atf hH ht hh hw;exact KX hd h1 h2 (hn u m' S' w' h3 (aqY hw) h4 h6)
 have write:cx tm hp ct q=GR (v,ap,aQ)->o.wpIn (WF ro) 0 O.P a w next Q:=by
  intro hw;refine WO ?_ hw;rcases hq with h | ⟨c,f,rs,_,_,rfl⟩ | ⟨_,_,_,_,_,_,_,rfl⟩ | ⟨_,_,_,_,_,_,_,rfl⟩ | ⟨_,_,_,_,_,_,rfl⟩
  .exact h
  .simp [cx] at hw
  .simp [cx] at hw
  .simp [cx] at hw
  .simp [cx] at hw
 have heap:∀{c:yax} {f:xz} {g:Nat} {first cap:List AV},o.op=.call c->c.callee=.value f->az tm (aO H f)=.fn (.f g) first cap->
   jZ O.prog O.aK self hp ct g (first++(dV tm (ju H c.args.toList)++cap))=GR (v,ap,aQ)->o.wpIn (WF ro) 0 O.P a w next Q:=by
  intro c f g first cap ho jH hx he;obtain⟨fi,ca,h1,h2⟩:=Pw hH ht (args:=c.args) hx;refine O0 ho jH h1 (hC.heap _ _ _ _ _ _ _ he m S w _ hh h2) ?_;rintro e w' ⟨u,m',S',rfl,k1,k2,k3,k4⟩;exact⟨u,rfl,hn u m' S' w' k1 k2 k3 k4⟩
 have round:∀{c:yax} {f:xz} {l:Nat} {x y:List AV},o.op=.call c->c.callee=.value f->az tm (aO H f)=.fn (.y l) x y->
   kG self hp ct l (dV tm (ju H c.args.toList))=GR (v,ap,aQ)->o.wpIn (WF ro) 0 O.P a w next Q:=by
  intro c f l x y ho jH hx he;have rf:=cl hH ht f;rw[hx] at rf;simp only[af] at rf;obtain⟨p,hm,hf⟩:=rf;have fF:=E7 hH ht c.args.toList;obtain⟨g,tmps,as_,body,h1,h2⟩:=hC.round _ _ _ _ _ _ _ he m S w (c.args.map a.eval) p hh hm (by simpa using fF);refine aqW ho jH hf h1 h2 ?_;rintro e w' ⟨u,m',S',rfl,k1,k2,k3,k4⟩;exact⟨u,rfl,hn u m' S' w' k1 k2 k3 k4⟩
 have dyn:∀{c:yax} {f:xz},o.op=.call c->c.callee=.value f->fA O.prog O.aK self hp ct .dyn (az tm (aO H f)) (dV tm (ju H c.args.toList))=GR (v,ap,aQ)->o.wpIn (WF ro) 0 O.P a w next Q:=by
  intro c f ho jH he;unfold fA at he
  split at he
  .rename_i g first cap hx
   (try simp only at he)
   cases hp0:aF (first++(dV tm (ju H c.args.toList)++cap)) with
   | true=>
    rw[hp0] at he;simp only[yx] at he
    cases hr:bZ O.prog O.aK self g (first++(dV tm (ju H c.args.toList)++cap)) with
    | none=>simp[hr] at he
    | some r=>
     simp only[hr,yc,yr] at he;obtain⟨rfl,rfl,rfl⟩:=he;obtain⟨fi,ca,h1,h2⟩:=Pw hH ht (args:=c.args) hx;refine O0 ho jH h1 (hC.pure g _ r hr w S _ (Wf hh) hh.slt (BL (fun _ h=>h) (fun _ _=>rfl) _ _ hp0 h2) hp0) ?_;rintro e w' ⟨u,S',rfl,hw,g1,g2,g3,g4⟩;obtain⟨S2,k1,k2,k3⟩:=ac3 g4 m;have hS:∀b,S b->S2 b:=fun b hb=>k1 b (g1 b hb)
     have Ec:∀b,S2 b->S b\/w.heap.size<=b:=fun b hb=>(k2 b hb).elim (g2 b) (fun h=>.inr h.1)
     have hl:∀b,S2 b->b<w'.heap.size:=fun b hb=>(k2 b hb).elim (g3 b) (fun h=>h.2)
     exact⟨u,rfl,hn u m S2 w' (ES hh hw hS Ec hl) (yz _) k3 (C9 hh hw hS Ec)⟩
   | false=>
    rw[hp0] at he;simp only[yS] at he;exact heap ho jH hx he
  .rename_i l x y hx;exact round ho jH hx he
  .cases he
 cases bR:q with
 | kJ rs x xs=>
  subst bR;simp only[bc] at hv;have key:=VH hq;obtain⟨c,f,ho,jH,rfl,rfl⟩:=key
  cases hc:fA O.prog O.aK self hp ct .dyn (az tm (aO H f)) (dV tm (ju H c.args.toList)) with
  | none=>simp[hc] at hv
  | some r=>
   obtain⟨v1,aZ,rK⟩:=r;simp only[hc] at hv
   cases hs:r9 tm hp aZ rs with
   | false=>rw[hs] at hv;cases hv
   | true=>
    rw[hs] at hv;simp only[yx,yc,yr] at hv;obtain⟨rfl,rfl,rfl⟩:=hv;exact dyn ho jH hc
 | call md x xs=>
  subst bR;have jP:∃k,Op.call md x xs=aW O.P H k o:=by
   rcases hq with h | ⟨c,f,rs,_,_,h⟩ | ⟨_,_,_,_,_,_,_,h⟩ | ⟨_,_,_,_,_,_,_,h⟩ | ⟨_,_,_,_,_,_,h⟩
   .exact h
   .cases h
   .cases h
   .cases h
   .cases h
  obtain⟨k,hk⟩:=jP
  cases md with
  | pure=>exact quiet (by simp[br])
  | own=>exact quiet (by simp[br])
  | heap=>
   simp only[bc] at hv;obtain⟨c,f,ho,jH,rfl,rfl⟩:=PY hk.symm (by rintro rfl;simp[az,fA] at hv);unfold fA at hv
   split at hv
   .rename_i g first cap hx;exact heap ho jH hx hv
   .rename_i l x y hx;exact round ho jH hx hv
   .cases hv
  | dyn=>
   simp only[bc] at hv;obtain⟨c,f,ho,jH,rfl,rfl⟩:=PY hk.symm (by rintro rfl;simp[az,fA] at hv);exact dyn ho jH hv
 | mD rs s x y=>
  subst bR;obtain⟨t,x',y',g1,g2,g3,g4⟩:=aga hq;simp only[bc] at hv
  split at hv
  .rename_i id off hx
   cases hf:nC tm id rs with
   | false=>rw[hf] at hv;cases hv
   | true=>
    rw[hf] at hv;simp only[yx] at hv
    exact WO (q':=.st s x y) ⟨0,by simp only[aW,g1,g2,g3,g4]⟩ hv
  .cases hv
 | nh rs s b x y=>
  subst bR;simp only[bc] at hv
  cases hc:cx tm hp ct (.eE s b x y) with
  | none=>simp[hc] at hv
  | some r=>
   obtain⟨v1,aZ,rK⟩:=r;simp only[hc] at hv
   cases hs:(HW tm (az tm x) rs||r9 tm hp aZ rs) with
   | false=>rw[hs] at hv;cases hv
   | true=>
    rw[hs] at hv;simp only[yx,yc,yr] at hv;obtain⟨rfl,rfl,rfl⟩:=hv
    exact WO (q':=.eE s b x y) (agb hq) hc
 | st s x y=>subst bR;exact write (by simpa only[bc] using hv)
 | pZ kk x y z=>subst bR;exact write (by simpa only[bc] using hv)
 | zd x=>subst bR;exact write (by simpa only[bc] using hv)
 | eE s b x y=>subst bR;exact write (by simpa only[bc] using hv)
 | p7 s x y=>subst bR;exact write (by simpa only[bc] using hv)
 | zb k x lo hi=>subst bR;exact quiet (by cases k<;>simp[br])
 | len k x=>subst bR;exact quiet (by rcases k with _ | _ | k<;>simp[br])
 | _=>subst bR;exact quiet (by simp[br])
end
end
end
section
open Go
section
variable {v:AV}{d:Option Nat}
def sH(tm:Env)(g:Option (Nat×Bool)):Option Bool:=
 match g with
 | none=>GR ydB
 | some (t,b)=>match ak tm t with | .bool c=>GR (c==b) | .av []=>GR ydC | _=>GS
def fK(P:aE)(L:Lib)(self:cp)(tm:Env)(hp:Hp)(ct:Nat)(r:aV):gZ:=
 match sH tm r.guard with
 | some ydB=>bc P L self tm hp ct r.op
 | some ydC=>GR (.av [],hp,ct)
 | none=>GS
def aci{r:aV}{rs:List aV}{s:St}:
  dF P L self (r::rs) s=match fK P L self s.tm s.hp s.ct r with | some (v,hp,ct)=>dF P L self rs {s with tm:=put r.dst v s.tm,hp:=hp,ct:=ct} | none=>GS:=by
 have⟨d,g,o⟩:=r;simp only[dF,fK]
 cases g with
 | none=>rfl
 | some q=>
  have⟨t,b⟩:=q;simp only[sH];generalize ak s.tm t=x
  cases x with
  | bool c=>
   simp only;cases (c==b)<;>rfl
  | av vs=>cases vs<;>rfl
  | _=>rfl
def afl(ops:Array xa)(g:Option (Nat×Bool))(g':Option (Nat×Bool)):Prop:=
 (g=GS/\g'=GS)\/∃t b j,g=GR (t,b)/\g'=GR (j,b)/\(ops[j]?).bind (·.dst)=GR t
structure FC(P:xp)(H:Hint)(ops:Array xa)(r:aV)(o:xa):Prop where
 op:qX P H r.op o
 dst:r.dst=o.dst
 ok:LW H o.dst=ydB
 guard:afl ops r.guard o.guard
def gH(P:xp)(H:Hint)(ops:Array xa):List aV->List xa->Prop
 | [],[]=>True
 | r::rs,o::l=>(FC P H ops r o\/(r.guard=GS/\r.op=bad))/\gH P H ops rs l
 | _,_=>False
def acj{P:xp}{H:Hint}{ops:Array xa}:∀(l:List xa) (k:Nat),gH P H ops (E0 P H ops l k).1 l
 | [],k=>by simp[E0,gH]
 | o::l,k=>by
  have ih:=acj (P:=P) (H:=H) (ops:=ops) l (k+(bif WL o then 1 else 0));simp only[E0];generalize hq:E0 P H ops l (k+(bif WL o then 1 else 0))=q at ih;have⟨l',k'⟩:=q;simp only;have oE:gH P H ops (⟨o.dst,GS,bad⟩::l') (o::l):=⟨.inr ⟨rfl,rfl⟩,ih⟩
  cases hg:o.guard with
  | none=>
   simp only
   cases hd:LW H o.dst with
   | false=>exact oE
   | true=>exact⟨.inl ⟨.inl ⟨k,rfl⟩,rfl,hd,.inl ⟨rfl,hg⟩⟩,ih⟩
  | some p=>
   have⟨j,b⟩:=p;simp only
   cases ht:(ops[j]?).bind (·.dst) with
   | none=>exact oE
   | some t=>
    simp only
    cases hd:LW H o.dst with
    | false=>exact oE
    | true=>exact⟨.inl ⟨.inl ⟨k,rfl⟩,rfl,hd,.inr ⟨t,b,j,rfl,hg,ht⟩⟩,ih⟩
section
variable {O:bE}{H:Hint}{m:Mp}{S:Nat->Prop}{w:yo}{tm:Env}{a:Act}{hp ap:Hp}{ct aQ:Nat}{self:cp}{ro:Option Nat}{Q:uJ->Act->yo->Prop}{ops:Array xa}
def VI{tm:Env}{t:Nat}:ak (put d v tm) t=if d=GR t then v else ak tm t:=by
 cases d with
 | none=>simp[put]
 | some i=>
  simp only[put,ak];by_cases h:i=t
  .subst h;simp
  .have:yu i t=ydC:=by
    cases hq:yu i t with
    | false=>rfl
    | true=>exact absurd (yi hq) h
   simp[this,h]
def Py(a:Act)(d:Option Nat)(u:ym):(a.put d u).tmps.size=a.tmps.size:=by
 cases d with
 | none=>rfl
 | some i=>simp[Act.put]
def UO(a:Act)(d:Option Nat)(u:ym):(a.put d u).defers=a.defers:=by
 cases d with
 | none=>rfl
 | some i=>rfl
def VJ{a:Act}{u:ym}{t:Nat}(hd:∀i,d=GR i->i<a.tmps.size):(a.put d u).tmps.getD t undef=if d=GR t then u else a.tmps.getD t undef:=by
 cases d with
 | none=>simp[Act.put]
 | some i=>
  have hi:=hd i rfl;by_cases h:i=t
  .subst h;simp[Act.put,hi]
  .simp only [Act.put,yc,h,xv];simp[Array.getElem?_setIfInBounds_ne h]
def ad1{n:Nat}(h:LW H d=ydB)(hn:H.n<=n):∀i,d=GR i->i<n:=by
 rintro i rfl
 have:=se.1 h
 lia
def VK{u:ym}(ht:cg O m S w tm a.tmps)(hd:∀i,d=GR i->i<a.tmps.size)(hv:af O.ae m S w v u):cg O m S w (put d v tm) (a.put d u).tmps:=fun t=>by
 rw[VI,VJ hd]
 split
 .exact hv
 .exact ht t
def ac8{o:xa}{g:Option (Nat×Bool)}{b:Bool}(hg:afl ops g o.guard)(ht:∀t,t∈Xn g->af O.ae m S w (ak tm t) (a.tmps.getD t undef))(hw:sH tm g=GR b):Region.wanted o (yielded ops a.tmps)=b:=by
 rcases hg with ⟨rfl,h2⟩ | ⟨t,c,j,rfl,h2,h3⟩
 .simp only [sH,yc] at hw;subst hw;simp[Region.wanted,h2]
 .simp only [sH] at hw;have h4:=ht t (by simp[Xn]);simp only[Region.wanted,h2]
  split at hw
  .rename_i d hd;rw[hd] at h4;simp only[af] at h4;simp only[yc] at hw
   have:yielded ops a.tmps j=GR d:=by
    simp only[yielded,h3,wM];have h5:a.tmps[t]? =GR (.bool d):=by
     simp only[wm] at h4
     cases hq:a.tmps[t]? with
     | none=>rw[hq] at h4;simp[undef] at h4
     | some x=>rw[hq] at h4;simp at h4;rw[h4]
    rw[h5]
   rw[this,<-hw];cases d<;>cases c<;>rfl
  .rename_i hd;rw[hd] at h4;simp only[af,aA] at h4;have⟨xs,h4,h5⟩:=h4;simp only[yc] at hw;subst hw
   have:yielded ops a.tmps j=GS:=by
    simp only[yielded,h3,wM];simp only[wm] at h4
    cases hq:a.tmps[t]? with
    | none=>rfl
    | some x=>rw[hq] at h4;simp at h4;rw[h4]
   rw[this];rfl
  .cases hw
def abR{o:xa}{q:Op}(hq:qX O.P H q o){r:AV×Hp×Nat}(hv:bc O.prog O.aK self tm hp ct q=GR r):∀c,o.op≠.defer c:=by
 rcases hq with ⟨k,rfl⟩ | ⟨c,f,rs,h1,_,_⟩ | ⟨_,_,_,_,_,h1,_,_⟩ | ⟨k,rs,sz,b,x,y,h1,rfl⟩ | ⟨k,n,sz,z,ps,h1,rfl⟩
 .exact an8 hv
 .intro c' h;rw[h1] at h;cases h
 .intro c' h;rw[h1] at h;cases h
 .intro c' h;simp only[aW,h] at h1;simp[bad] at h1
 .intro c' h;simp only[aW,h] at h1;simp[bad] at h1
def ath(hC:qH O self)(hH:fW O H){i:Nat}{r:aV}{o:xa}(hi:ops[i]? =GR o)(hr:FC O.P H ops r o\/(r.guard=GS/\r.op=bad))(hv:fK O.prog O.aK self tm hp ct r=GR (v,ap,aQ))(ht:cg O m S w tm a.tmps)(hh:aU O m S w hp ct)(hn:H.n<=a.tmps.size){K:Act->yo->Prop}(hK:∀u m' S' w',aU O m' S' w' ap aQ->ct<=aQ->cg O m' S' w' (put r.dst v tm) (a.put o.dst u).tmps->cr m S w hp m' S' w' ap ct->K (a.put o.dst u) w'):wpOpIn (WF ro) 0 O.P ops Q i K a w:=by
 rcases hr with hr | ⟨h1,h2⟩
 case inr=>
  simp only[fK,h1,sH,h2,bad,bc,fA,az] at hv;cases hv
 unfold wpOpIn;simp only[hi];unfold fK at hv
 cases hw:sH tm r.guard with
 | none=>simp[hw] at hv
 | some b=>
  have ZY:=ac8 hr.guard (fun t _=>ht t) hw;have hd:=ad1 hr.ok hn;rw[ZY]
  cases b with
  | true=>
   simp only[hw] at hv;simp only[xN];refine ad0 hC hH hr.op (abR hr.op hv) hv ht hh (fun u m' S' w' k1 k2 k3 k4=>hK u m' S' w' k1 k2 ?_ k4);rw[hr.dst];exact VK (C6 (fun id p h=>k4.old id p (hh.lt id p h) h) k4.sub (fun b hb=>k4.still b hb) ht) hd k3
  | false=>
   simp only[hw,yc,yr] at hv;obtain⟨rfl,rfl,rfl⟩:=hv;simp only[yD,xv];refine⟨fun _ _=>trivial,hK undef m S w hh (yz _) ?_ cr.refl⟩;rw[hr.dst];exact VK ht hd (by simp[af,aA,undef])
def afm(hC:qH O self)(hH:fW O H):∀(l:List xa) (rs:List aV) (i:Nat) (s s':St) (a:Act) (m:Mp) (S:Nat->Prop) (w:yo),(∀j,l[j]? =ops[i+j]?)->gH O.P H ops rs l->
  dF O.prog O.aK self rs s=GR s'->cg O m S w s.tm a.tmps->aU O m S w s.hp s.ct->H.n<=a.tmps.size->
  (∀a' m' S' w',aU O m' S' w' s'.hp s'.ct->s.ct<=s'.ct->cg O m' S' w' s'.tm a'.tmps->cr m S w s.hp m' S' w' s'.hp s.ct->a'.tmps.size=a.tmps.size->a'.defers=a.defers->s'.base=s.base->Q .normal a' w')->
  wpOpsIn (WF ro) 0 O.P ops Q (List.range' i l.length) a w
 | [],rs,i,s,s',a,m,S,w,hl,hr,hv,ht,hh,hn,hQ=>by
  cases rs with
  | cons _ _=>simp[gH] at hr
  | nil=>
   simp only[dF,yc] at hv;subst hv;simp only[yR,List.range'_zero,wpOpsIn];exact hQ a m S w hh (yz _) ht cr.refl rfl rfl rfl
 | o::l,rs,i,s,s',a,m,S,w,hl,hr,hv,ht,hh,hn,hQ=>by
  cases rs with
  | nil=>simp[gH] at hr
  | cons r rs=>
   simp only[gH] at hr;rw[aci] at hv
   cases h1:fK O.prog O.aK self s.tm s.hp s.ct r with
   | none=>simp[h1] at hv
   | some q=>
    have⟨v,aZ,rK⟩:=q;simp only[h1] at hv;have hi:ops[i]? =GR o:=by have:=hl 0;simpa using this.symm
    rw[yH,List.range'_succ,wpOpsIn_cons];refine ath hC hH hi hr.1 h1 ht hh hn (fun u m1 S1 w1 k1 k2 k3 k4=>?_)
    refine afm hC hH l rs (i+1) {s with tm:=put r.dst v s.tm,hp:=aZ,ct:=rK} s' _ m1 S1 w1 (fun j=>?_) hr.2 hv k3 k1 (by rw[Py];exact hn) (fun a' m' S' w' g1 g2 g3 g4 g5 g6 g7=>?_)
    .have:=hl (j+1)
     rw[yaZ] at this;rw[this];congr 1;lia
    .exact hQ a' m' S' w' g1 (y7 k2 g2) g3 (k4.trans (g4.A1 k2)) (by rw[g5,Py]) (by rw[g6,UO]) g7
end
end
end
section
open Go
section
variable {ops:Array xa}
def UB{acc:List Nat}{i:Nat}:∀{es:List Edge},vM (Dp acc es) i=ydB->∃e,e∈es/\Region.binds .any e=ydB/\(i=e.on\/vM (acc.getD e.on 0) i=ydB)
 | [],h=>by simp[Dp] at h
 | e::r,h=>by
  simp only[Dp] at h
  cases hb:Region.binds .any e with
  | false=>
   rw[hb] at h;have⟨e',h1,h2⟩:=UB h
   grind
  | true=>
   rw[hb] at h;simp only[yx,ycp,vU] at h;rcases h with (h | h) | h
   .grind
   .grind
   .have ⟨e',h1,h2⟩:=UB h
    grind
def ac9{l:List xa}{j:Nat}(hj:j<acc.length):(mv acc l)[j]? =acc[j]? :=by
 induction l generalizing acc with
 | nil=>rfl
 | cons o l ih=>
  simp only[mv]
  grind
def aoe{l:List xa}{j:Nat}{o:xa}(h:l[j]? =GR o):∃Cg:List Nat,(mv acc l)[acc.length+j]? =GR (Dp Cg o.after.toList)/\Cg.length=acc.length+j/\∀k,k<Cg.length->Cg[k]? =(mv acc l)[k]? :=by
 induction l generalizing acc j with
 | nil=>simp at h
 | cons x l ih=>
  cases j with
  | zero=>
   simp only[uv,yc] at h;subst h;refine⟨acc,?_,by simp,fun k hk=>?_⟩
   .simp only [mv];rw[ac9 (by simp)]
    simp
   .simp only [mv];rw[ac9 (by rw[yO];lia),List.getElem?_append_left hk]
  | succ j=>
   have⟨Cg,h1,h2,h3⟩:=ih (acc:=acc++[Dp acc x.after.toList]) h;simp only[yO,yH,yR] at h1 h2;refine⟨Cg,?_,by lia,fun k hk=>?_⟩
   .simp only [mv]
    grind
   .simp only [mv];exact h3 k hk
def Ord(ops:Array xa)(i j:Nat):Prop:=vM ((mv [] ops.toList).getD j 0) i=ydB
def WQ(ops:Array xa)(D:Nat->Prop):Prop:=∀j o,ops[j]? =GR o->D j->∀e,e∈o.after->Region.binds .any e=ydB->D e.on
def ada{D:Nat->Prop}(hc:WQ ops D):∀(j:Nat) (o:xa),ops[j]? =GR o->(∀e,e∈o.after->Region.binds .any e=ydB->D e.on)->∀i,Ord ops i j->D i:=by
 intro j
 induction j using vY with
 | _ j ih=>
  intro o ho hr i hi;have ni:ops.toList[j]? =GR o:=by simp_all
  have⟨Cg,h1,h2,h3⟩:=aoe (acc:=[]) ni;simp only[yR,yd] at h1 h2;unfold Ord at hi;rw[yV,h1,wV] at hi;have⟨e,g1,g2,g3⟩:=UB hi;have he:D e.on:=hr e (by simpa using g1) g2;rcases g3 with rfl | g3
  .grind
  .rcases vn e.on j with aG | mF
   .have h4:=h3 e.on (by lia);have hol:e.on<ops.size:=by
     grind
    have ZT:ops[e.on]? =GR ops[e.on]:=by simp_all
    refine ih e.on aG _ ZT (fun e' he' aS=>hc e.on _ ZT he e' he' aS) i ?_;unfold Ord
    grind
   .grind
def aqZ{D:Nat->Prop}(hc:WQ ops D){i j:Nat}{o:xa}(ho:ops[j]? =GR o)(hj:D j)(hi:Ord ops i j):D i:=
 ada hc j o ho (fun e he hb=>hc j o ho hj e he hb) i hi
def abz:∀{l:List xa} {k j:Nat} {o:xa},rX l k=ydB->l[j]? =GR o->∀e,e∈o.after->Region.binds .any e=ydB->e.on<k+j
 | [],k,j,o,_,h=>by simp at h
 | x::l,k,j,o,hb,h=>by
  simp only[rX,yf] at hb
  cases j with
  | zero=>
   simp only[uv,yc] at h;subst h;intro e he Ai
   have:=ybR.1 hb.1 e (by simpa using he)
   simp_all
  | succ j=>
   intro e he Ai
   have:=abz hb.2 h e he Ai
   lia
end
def FO(a b:aV)(r:List aV):Prop:=Ps a b=ydC/\(Ki a b=ydC\/KE a b r=ydB)
def abB{m:Nat}{b:aV}:∀{l:List aV} {k i:Nat} {a:aV},Pt m b l k=ydB->l[i]? =GR a->vM m (k+i)=ydB\/FO a b (l.drop (i+1))
 | [],k,i,a,_,h=>by simp at h
 | x::l,k,i,a,hp,h=>by
  simp only[Pt,yf] at hp
  cases i with
  | zero=>
   simp only[uv,yc] at h;subst h;have h1:=hp.1;simp only[vU,ub,ybl,Bool.and_eq_false_iff,Bool.not_eq_false'] at h1;rcases h1 with h1 | ⟨h1,h2⟩
   .grind
   .exact .inr ⟨h1,by simpa using h2⟩
  | succ i=>
   rcases abB hp.2 h with h1 | h1
   .grind
   .grind
def Ut:∀{l done:List aV} {ms:List Nat} {i j:Nat} {a b:aV},AI done l ms=ydB->(done++l)[i]? =GR a->l[j]? =GR b->i<done.length+j->
  ∃m,ms[j]? =GR m/\(vM m i=ydB\/FO a b (((done++l).take (done.length+j)).drop (i+1)))
 | [],done,ms,i,j,a,b,_,_,h,_=>by simp at h
 | x::l,done,[],i,j,a,b,hp,_,h,_=>by simp[AI] at hp
 | x::l,done,m::ms,i,j,a,b,hp,ha,h,rL=>by
  simp only[AI,yf] at hp
  cases j with
  | zero=>
   have Gk:done[i]? =GR a:=by grind
   have:=abB hp.1 Gk
   grind
  | succ j=>
   have e:done++x::l=(done++[x])++l:=by simp
   have⟨m',h1,h2⟩:=Ut (i:=i) (a:=a) hp.2 (by rw[<-e];exact ha) h (by simp;lia)
   grind
def OK{a b:aV}(h:Ps a b=ydC):(∀d,a.dst=GR d->d∉E6 b/\b.dst≠GR d)/\(∀d,b.dst=GR d->d∉E6 a):=by
 have mem:∀{i:Nat} {l:List Nat},jt i l=ydC->i∉l:=by
  intro i l
  induction l with
  | nil=>intro _ h;cases h
  | cons j r ih=>
   intro h hm;simp only[jt] at h
   cases hb:yu j i with
   | true=>rw[hb] at h;cases h
   | false=>
    simp_all
 simp only[Ps,ybl] at h;have⟨⟨h1,h2⟩,h3⟩:=h;refine⟨fun d hd=>⟨mem (by simpa[hd,HV] using h1),fun hb=>?_⟩,fun d hd=>mem (by simpa[hd,HV] using h2)⟩;rw[hd,hb] at h3;simp[Xo] at h3
def ack{t:Nat}:∀{l:List aV},Ft t l=ydB->∀r,r∈l->r.dst≠GR t
 | [],_,r,h=>by cases h
 | x::l,h,r,hr=>by
  simp only[Ft,yf,ub] at h;rcases we.1 hr with rfl | hr
  .intro hd;rw[hd] at h;simp[HV,jt] at h
  .exact ack h.2 r hr
def Pd{sz t:Nat}{ag:Bool}:∀{l:List (Nat×Bool×Nat)},FK sz ag t l=ydB->(sz,ag,t)∈l
 | [],h=>by simp[FK] at h
 | (s,g,u)::r,h=>by
  simp only[FK,vU,yf] at h;rcases h with ⟨h1,h2,h3⟩ | h
  .simp_all
  .exact xr _ (Pd h)
def VL:∀{a b:List Nat},dZ a b=ydB->a=b
 | [],[],_=>rfl
 | [],_::_,h=>by simp[dZ] at h
 | _::_,[],h=>by simp[dZ] at h
 | x::a,y::b,h=>by
  simp only[dZ,yf] at h;rw[yi h.1,VL h.2]
def ao8{a b:AV}(h:X7 a b=ydB):a=b:=by
 unfold X7 at h
 split at h
 .grind
 .grind
 .rw [VL h]
 .rfl
 .rfl
 .simp_all
 .simp_all
 .simp_all
 .cases h
def Uu{tm:Env}{hp ap:Hp}{sz t:Nat}{ag:Bool}{v:AV}:∀{l:List (Nat×Bool×Nat)},r9 tm hp ap l=ydB->(sz,ag,t)∈l->gk hp sz ag (ak tm t)=GR v->gk ap sz ag (ak tm t)=GR v
 | [],_,h,_=>by cases h
 | (s,g,u)::r,h,hm,hv=>by
  simp only[r9] at h
  cases h1:gk hp s g (ak tm u) with
  | none=>simp[h1] at h
  | some x=>
   cases h2:gk ap s g (ak tm u) with
   | none=>simp[h1,h2] at h
   | some y=>
    simp only[h1,h2,yf] at h;rcases we.1 hm with e | hm
    .simp only [yr] at e;obtain⟨rfl,rfl,rfl⟩:=e;rw[h1] at hv;rw[h2,<-ao8 h.1,hv]
    .exact Uu h.2 hm hv
structure Rr(P:aE)(L:Lib)(run:cp)(rs:List aV)(bU:Nat->Env)(bK:Nat->Hp)(bJ:Nat->Nat)(vF:Nat->AV):Prop where
 step:∀i r,rs[i]? =GR r->fK P L run (bU i) (bK i) (bJ i) r=GR (vF i,bK (i+1),bJ (i+1))
 tm:∀i r,rs[i]? =GR r->bU (i+1)=put r.dst (vF i) (bU i)
def afn{P:aE}{L:Lib}{self:cp}:∀{rs:List aV} {s s':St},dF P L self rs s=GR s'->
  ∃bU bK bJ vF,Rr P L self rs bU bK bJ vF/\bU 0=s.tm/\bK 0=s.hp/\bJ 0=s.ct/\bU rs.length=s'.tm/\bK rs.length=s'.hp/\bJ rs.length=s'.ct/\s'.base=s.base
 | [],s,s',h=>by
  simp only[dF,yc] at h;subst h;exact⟨fun _=>s.tm,fun _=>s.hp,fun _=>s.ct,fun _=>.undef,⟨fun i r h=>by simp at h,fun i r h=>by simp at h⟩,rfl,rfl,rfl,rfl,rfl,rfl,rfl⟩
 | r::rs,s,s',h=>by
  rw[aci] at h
  cases h1:fK P L self s.tm s.hp s.ct r with
  | none=>simp[h1] at h
  | some q=>
   have⟨v,aZ,rK⟩:=q;simp only[h1] at h;have⟨bU,bK,bJ,vF,g1,g2,g3,g4,g5,g6,g7,g8⟩:=afn h;refine⟨fun i=>match i with | 0=>s.tm | i+1=>bU i,fun i=>match i with | 0=>s.hp | i+1=>bK i,fun i=>match i with | 0=>s.ct | i+1=>bJ i,fun i=>match i with | 0=>v | i+1=>vF i,⟨?_,?_⟩,rfl,rfl,rfl,by simpa using g5,by simpa using g6,by simpa using g7,g8⟩
   .intro i r' hi
    cases i with
    | zero=>
     grind
    | succ i=>exact g1.step i r' (by simpa using hi)
   .intro i r' hi
    cases i with
    | zero=>
     grind
    | succ i=>exact g1.tm i r' (by simpa using hi)
section
variable {P:aE}{L:Lib}{self:cp}{rs:List aV}{bU:Nat->Env}{bK:Nat->Hp}{bJ:Nat->Nat}{vF:Nat->AV}
def Km(hR:Rr P L self rs bU bK bJ vF){t i:Nat}:∀(k:Nat),i+k<=rs.length->(∀j r,i<=j->j<i+k->rs[j]? =GR r->r.dst≠GR t)->ak (bU (i+k)) t=ak (bU i) t
 | 0,_,_=>rfl
 | k+1,hk,h=>by
  have hr:rs[i+k]? =GR rs[i+k]:=by simp_all
  rw[show i+(k+1)=i+k+1 by lia,hR.tm _ _ hr,VI,yq (h (i+k) _ (by lia) (by lia) hr)];exact Km hR k (by lia) (fun j r h1 h2=>h j r h1 (by lia))
def adb{r:aV}(hk:br r.op<=1)(hv:fK P L self tm hp ct r=GR (v,ap,aQ))(aG:∀id o,ah hp id=GR o->id<ct):j0 hp ct ap aQ:=by
 unfold fK at hv
 cases hw:sH tm r.guard with
 | none=>simp[hw] at hv
 | some b=>
  cases b with
  | true=>simp only[hw] at hv;exact abQ hk hv aG
  | false=>
   simp only[hw,yc,yr] at hv;obtain⟨rfl,rfl,rfl⟩:=hv;exact j0.refl aG
def Pe(hR:Rr P L self rs bU bK bJ vF){i:Nat}(aG:∀id o,ah (bK i) id=GR o->id<bJ i):∀(k:Nat),i+k<=rs.length->(∀j r,i<=j->j<i+k->rs[j]? =GR r->br r.op<=1)->j0 (bK i) (bJ i) (bK (i+k)) (bJ (i+k))
 | 0,_,_=>j0.refl aG
 | k+1,hk,h=>by
  have ih:=Pe hR aG k (by lia) (fun j r h1 h2=>h j r h1 (by lia));have hr:rs[i+k]? =GR rs[i+k]:=by simp_all
  exact ih.trans (adb (h (i+k) _ (by lia) (by lia) hr) (hR.step _ _ hr) ih.lt)
end
end
section
open Go
section
variable {tm:Env}{hp:Hp}{ct i:Nat}{r:aV}
def Pz{tm:Env}{t:Nat}:∀{l:List Nat},t∈l->ak (bF tm l) t=ak tm t
 | [],h=>by cases h
 | i::r,h=>by
  simp only[bF,ak]
  cases hb:yu i t with
  | true=>rw[yi hb];rfl
  | false=>
   rcases we.1 h with e | h
   .simp_all
   .exact Pz h
def ao9{tm':Env}{o:Op}{r:AV×Hp×Nat}(h:∀t,t∈mq o->ak tm' t=ak tm t)(hv:bc P L self tm hp ct o=GR r):bc P L self tm' hp ct (lh o)=GR r:=by
 cases o with
 | kJ rs f xs=>
  simp only[mq,wD] at h;simp only[lh,bc] at hv ⊢
  rw[ek (x:=f) fun t ht=>h t (.inl ht),EM (xs:=xs) fun t ht=>h t (.inr ht)]
  cases hc:fA P L self hp ct .dyn (az tm f) (dV tm xs) with
  | none=>simp[hc] at hv
  | some q=>
   obtain⟨v1,aZ,rK⟩:=q;simp only[hc] at hv
   cases hs:r9 tm hp aZ rs with
   | false=>rw[hs] at hv;cases hv
   | true=>
    rw[hs] at hv;simpa only[r9,yx] using hv
 | mD rs sz x v=>
  simp only[lh,bc] at hv ⊢
  rw[EK (o:=.st sz x v) (tm:=tm) h]
  split at hv
  .rename_i id off hx
   cases hf:nC tm id rs with
   | false=>rw[hf] at hv;cases hv
   | true=>rw[hf] at hv;exact hv
  .cases hv
 | nh rs sz b x v=>
  simp only[lh,bc] at hv ⊢
  rw[EK (o:=.eE sz b x v) (tm:=tm) h]
  cases hc:cx tm hp ct (.eE sz b x v) with
  | none=>simp[hc] at hv
  | some q=>
   obtain⟨v1,aZ,rK⟩:=q;simp only[hc] at hv
   cases hs:(HW tm (az tm x) rs||r9 tm hp aZ rs) with
   | false=>rw[hs] at hv;cases hv
   | true=>rw[hs] at hv;exact hv
 | call md f xs=>
  rw[<-hv];simp only[mq,wD] at h;simp only[lh,bc]
  rw[ek (x:=f) fun t ht=>h t (.inl ht),EM (xs:=xs) fun t ht=>h t (.inr ht)]
 | st s x y=>rw[<-hv];simp only[lh,bc];exact EK h
 | pZ kk x y z=>rw[<-hv];simp only[lh,bc];exact EK h
 | zd x=>rw[<-hv];simp only[lh,bc];exact EK h
 | eE s b x y=>rw[<-hv];simp only[lh,bc];exact EK h
 | p7 s x y=>rw[<-hv];simp only[lh,bc];exact EK h
 | box s x=>rw[<-hv];simp only[lh,bc];rw[J8 (hp:=hp) h]
 | km n s z ps=>rw[<-hv];simp only[lh,bc];rw[J8 (hp:=hp) h]
 | oP s b z x y=>rw[<-hv];simp only[lh,bc];rw[J8 (hp:=hp) h]
 | Bi=>exact hv
 | zc x=>rw[<-hv];simp only[lh,bc];rw[J8 (hp:=hp) h]
 | _=>rw[<-hv];simp only[lh,bc];rw[anA h]
def ad2{q:Op}(hk:br q=0\/∃sz ag x,q=.ld sz ag x)(hv:bc P L self tm hp ct q=GR (v,ap,aQ)):bm tm hp q=GR v/\ap=hp/\aQ=ct:=by
 have ji:∀{q:Op},(match bm tm hp q with | some v=>GR (v,hp,ct) | none=>(GS:gZ))=GR (v,ap,aQ)->bm tm hp q=GR v/\ap=hp/\aQ=ct:=by
  intro q h
  cases hm:bm tm hp q with
  | none=>simp[hm] at h
  | some r=>
   simp only[hm,yc,yr] at h;obtain⟨rfl,rfl,rfl⟩:=h;exact⟨rfl,rfl,rfl⟩
 rcases hk with hk | ⟨sz,ag,x,rfl⟩
 .cases bR:q with
  | call md f xs=>subst bR;cases md<;>simp[br] at hk
  | kJ rs f xs=>subst bR;simp[br] at hk
  | mD rs s x y=>subst bR;simp[br] at hk
  | nh rs s b x y=>subst bR;simp[br] at hk
  | st s x y=>subst bR;simp[br] at hk
  | pZ kk x y z=>subst bR;simp[br] at hk
  | zd x=>subst bR;simp[br] at hk
  | eE s b x y=>subst bR;simp[br] at hk
  | p7 s x y=>subst bR;simp[br] at hk
  | box s x=>subst bR;simp[br] at hk
  | km n s z ps=>subst bR;simp[br] at hk
  | oP s b z x y=>subst bR;simp[br] at hk
  | Bi=>subst bR;simp[br] at hk
  | zc x=>subst bR;simp[br] at hk
  | _=>exact bR▸ji (q:=q) (by rw[bR] at hv ⊢;simp only[bc] at hv;exact hv)
 .exact ji (q:=.ld sz ag x) (by simp only[bc] at hv;exact hv)
section
variable {O:bE}{H:Hint}{ops:Array xa}{π:Nat->Nat}{rs:List aV}{bU:Nat->Env}{bK:Nat->Hp}{bJ:Nat->Nat}{vF:Nat->AV}{self:cp}{ro:Option Nat}{Q:uJ->Act->yo->Prop}
structure AW(O:bE)(H:Hint)(Gl:cp)(ops:Array xa)(π:Nat->Nat)(rs:List aV)(bU:Nat->Env)(bK:Nat->Hp)(bJ:Nat->Nat)(vF:Nat->AV):Prop where
 run:Rr O.prog O.aK Gl rs bU bK bJ vF
 len:rs.length=ops.size
 of:∀(i:Nat) (r:aV) (o:xa),rs[i]? =GR r->ops[π i]? =GR o->FC O.P H ops r o
 pair:∀(i j:Nat) (a b:aV),i<j->rs[i]? =GR a->rs[j]? =GR b->Ord ops (π i) (π j)\/FO a b ((rs.take j).drop (i+1))
 back:∀(i:Nat) (o:xa),ops[i]? =GR o->∀e,e∈o.after->Region.binds .any e=ydB->e.on<i
def lZ(rs:List aV)(i:Nat):Prop:=∃r,rs[i]? =GR r/\br r.op=2
def WR(rs:List aV):∀(k i:Nat),i+k=rs.length->∃c,i<=c/\c<=rs.length/\(∀j,i<=j->j<c->¬lZ rs j)/\(c=rs.length\/lZ rs c)
 | 0,i,h=>⟨i,yz _,by lia,fun j h1 h2=>by lia,.inl (by lia)⟩
 | k+1,i,h=>by
  rcases tv (lZ rs i) with hw | hw
  .grind
  .have ⟨c,h1,h2,h3,h4⟩:=WR rs k (i+1) (by lia)
   grind
def KH{rs:List aV}(hr:rs[i]? =GR r)(hw:¬lZ rs i):br r.op<=1:=by
 have h:br r.op≠2:=fun e=>hw ⟨r,hr,e⟩
 have:br r.op<=2:=by
  cases r.op with
  | zb k x lo hi=>cases k<;>simp[br]
  | len k x=>rcases k with _ | _ | k<;>simp[br]
  | call md f xs=>cases md<;>simp[br]
  | _=>simp[br]
 lia
def Tn(O:bE)(rs:List aV)(bU:Nat->Env)(D:Nat->Prop)(m:Mp)(S:Nat->Prop)(w:yo)(a:Act):Prop:=
 ∀t,∃j,j<=rs.length/\(∀(i:Nat) (r:aV),rs[i]? =GR r->r.dst=GR t->(D i↔i<j))/\af O.ae m S w (ak (bU j) t) (a.tmps.getD t undef)
def ati{D:Nat->Prop}{m:Mp}{w:yo}{a:Act}(hG:AW O H self ops π rs bU bK bJ vF)(hT:Tn O rs bU D m S w a)(hr:rs[i]? =GR r)(hi:¬D i)(fg:∀j,Ord ops (π j) (π i)->D j)(gJ:∀j,Ord ops (π i) (π j)->¬D j):∀t,t∈E6 r->af O.ae m S w (ak (bU i) t) (a.tmps.getD t undef):=by
 intro t ht;obtain⟨j,h1,h2,h3⟩:=hT t;have CI:i<rs.length:=(xM.1 hr).1;have e:ak (bU j) t=ak (bU i) t:=by
  rcases Nat.le_total j i with IL | rL
  .obtain ⟨k,rfl⟩:∃k,i=j+k:=⟨i-j,by omega⟩;refine (Km hG.run k (by omega) (fun l rl g1 g2 hl hd=>?_)).symm;have hnD:¬D l:=fun hD=>by have:=(h2 l rl hl hd).1 hD;omega
   rcases hG.pair l (j+k) rl r (by omega) hl hr with ho | hf
   .exact hnD (fg l ho)
   .exact ((OK hf.1).1 t hd).1 ht
  .obtain ⟨k,rfl⟩:∃k,j=i+k:=⟨j-i,by omega⟩;refine Km hG.run k h1 (fun l rl g1 g2 hl hd=>?_);have hD:D l:=(h2 l rl hl hd).2 (by omega);rcases vQ g1 with rfl | g1
   .exact hi hD
   .rcases hG.pair i l r rl g1 hr hl with ho | hf
    .exact gJ l ho hD
    .exact (OK hf.1).2 t hd ht
 rw[<-e];exact h3
def afo{D D':Nat->Prop}{m:Mp}{w w':yo}{a:Act}{u:ym}(hG:AW O H self ops π rs bU bK bJ vF)(hT:Tn O rs bU D m S w a)(hr:rs[i]? =GR r)(hi:¬D i)(fg:∀j,Ord ops (π j) (π i)->D j)(gJ:∀j,Ord ops (π i) (π j)->¬D j)(hD:∀j,D' j↔D j\/j=i)(hm:dT m m')(hS:∀b,S b->S' b)(hw:ic S w w')(hd:∀d,r.dst=GR d->d<a.tmps.size)(hv:af O.ae m' S' w' (vF i) u):Tn O rs bU D' m' S' w' (a.put r.dst u):=by
 intro t;have CI:i<rs.length:=(xM.1 hr).1;by_cases IM:r.dst=GR t
 .refine ⟨i+1,CI,fun l rl hl fT=>?_,?_⟩
  .rw [hD];constructor
   .rintro (h | h)
    .rcases vn l (i+1) with g | g
     .exact g
     .rcases hG.pair i l r rl (by omega) hr hl with ho | hf
      .exact (gJ l ho h).elim
      .exact (((OK hf.1).1 t IM).2 fT).elim
    .omega
   .intro h;rcases vQ (uf h) with h | h
    .exact .inr h
    .rcases hG.pair l i rl r h hl hr with ho | hf
     .exact .inl (fg l ho)
     .exact (((OK hf.1).1 t fT).2 IM).elim
  .rw [hG.run.tm i r hr,VI,VJ hd,yC IM,yC IM];exact hv
 .obtain ⟨j,h1,h2,h3⟩:=hT t;refine⟨j,h1,fun l rl hl fT=>?_,?_⟩
  .rw [hD,<-h2 l rl hl fT];constructor
   .rintro (h | h)
    .exact h
    .subst h;rw[hr] at hl;injection hl with hl
     subst hl;exact (IM fT).elim
   .exact .inl
  .rw [VJ hd,yq IM];exact n8 hm hS hw _ _ h3
def abS{tm:Env}{hp ap:Hp}{ct aQ id off sz qg t:Nat}{ag:Bool}{x y:X}{v v':AV}:∀{l:List (Nat×Bool×Nat)},nC tm id l=ydB->(sz,ag,t)∈l->az tm x=.ptr id off->
  cx tm hp ct (.st qg x y)=GR (v',ap,aQ)->gk hp sz ag (ak tm t)=GR v->gk ap sz ag (ak tm t)=GR v
 | [],_,h,_,_,_=>by cases h
 | (s,g,u)::r,h,hm,hx,hw,hv=>by
  simp only[nC,yf] at h;rcases we.1 hm with e | hm
  .simp only [yr] at e;obtain⟨rfl,rfl,rfl⟩:=e;have h1:=h.1
   split at h1
   .rename_i j o hj;have bL:j≠id:=by
     intro e
     simp_all
    rw[hj] at hv ⊢;simp only[cx,hx] at hw;have key:∀ob,ah (aJ hp id ob) j=ah hp j:=fun ob=>by rw[AD,yq (ydg bL)]
    split at hw
    .rename_i pu ex z cs Ef;generalize (yu _ _&&yG _ _&&cf _)=bb at hw
     cases bb with
     | false=>cases hw
     | true=>
      obtain⟨_,rfl,_⟩:=hw;simp only[gk,key] at hv ⊢;exact hv
    .cases hw
   .rename_i cs hj;rw[hj] at hv ⊢;simpa only[gk] using hv
   .cases h1
  .exact abS h.2 hm hx hw hv
def Uv{id j:Nat}(h:j≠id):∀(hp:Hp),ah (cS hp id) j=ah hp j
 | []=>rfl
 | (k,o)::r=>by
  simp only[cS,ah]
  cases h1:yu k id with
  | true=>
   have e:=yi h1;simp only[yx];rw[Uv h r]
   cases h2:yu k j with
   | true=>exact absurd (yi h2▸e) h
   | false=>rfl
  | false=>
   simp only[yS,ah];rw[Uv h r]
def apa{qg bb t:Nat}{ag:Bool}{y:X}{l:List (Nat×Bool×Nat)}(h:HW tm (az tm x) l=ydB)(hm:(sz,ag,t)∈l)(hw:cx tm hp ct (.eE qg bb x y)=GR (v',ap,aQ))(aG:∀id o,ah hp id=GR o->id<ct)(hv:gk hp sz ag (ak tm t)=GR v):gk ap sz ag (ak tm t)=GR v:=by
 have grow:∀{o:Obj},ap=(ct,o)::hp->gk ap sz ag (ak tm t)=GR v:=fun {o} e=>by
  subst e;refine Wa (fun id o' ni=>⟨o',?_,kP.refl o'⟩) hv
  rw[iU,yq (by have:=aG id o' ni;omega)];exact ni
 simp only[cx] at hw
 cases hs:sq hp qg (az tm y) with
 | none=>simp[hs] at hw
 | some q=>
  obtain⟨mm,new⟩:=q;simp only[hs] at hw;cases hx:az tm x<;>rw[hx] at hw h<;>simp only[HW,yD] at h<;>(try simp only at hw)
  case aj=>
   cases hb:yu mm 0 with
   | true=>simp only[hb,yx,yc,yr] at hw;rw[<-hw.2.1];exact hv
   | false=>
    rw[hb] at hw;simp only[yS] at hw;generalize (yG mm room&&(yG (mm*bb) room&&yP 0 qg))=b2 at hw
    cases b2 with
    | false=>cases hw
    | true=>simp only[yx,yc,yr] at hw;exact grow hw.2.1.symm
  case au ex n cs=>
   cases ex with
   | false=>simp at hw
   | true=>
    simp only at hw
    cases hb:yu mm 0 with
    | true=>simp only[hb,yx,yc,yr] at hw;rw[<-hw.2.1];exact hv
    | false=>
     rw[hb] at hw;simp only[yS] at hw;generalize (yG (n+mm) room&&(yG ((n+mm)*bb) room&&(yu cs.length (n*qg)&&yP 0 qg)))=b2 at hw
     cases b2 with
     | false=>cases hw
     | true=>simp only[yx,yc,yr] at hw;exact grow hw.2.1.symm
  case ay id o n=>
   split at hw
   .rename_i pu ex z cs Ef;generalize (yu z qg&&_)=b2 at hw
    cases b2 with
    | false=>cases hw
    | true=>
     simp only[yx,yc,yr] at hw;obtain⟨_,rfl,_⟩:=hw;clear Ef;have key:∀l,nC tm id l=ydB->(sz,ag,t)∈l->(∃j off,ak tm t=.ptr j off/\j≠id)\/∃cs,ak tm t=.bC cs:=by
      intro l
      induction l with
      | nil=>intro _ hm;cases hm
      | cons e l ih=>
       obtain⟨s,g,u⟩:=e;intro h hm;simp only[nC,yf] at h;rcases we.1 hm with e | hm
       .simp only [yr] at e;obtain⟨rfl,rfl,rfl⟩:=e;have h1:=h.1
        split at h1
        .rename_i j off hj;refine .inl ⟨j,off,hj,fun e=>?_⟩;subst e;simp at h1
        .rename_i cs hj;exact .inr ⟨cs,hj⟩
        .cases h1
       .exact ih h.2 hm
     rcases key l h hm with ⟨j,off,e,bL⟩ | ⟨dJ,e⟩
     .rw [e] at hv ⊢;simp only[gk] at hv ⊢;have aBM:ah hp j≠GS:=by
       intro e0;rw[e0] at hv;cases hv
      cases hj:ah hp j with
      | none=>exact absurd hj aBM
      | some ob=>
       have:=aG j ob hj
       rw[iU,yq (by omega),Uv bL,hj];rw[hj] at hv;exact hv
     .rw [e] at hv ⊢;simpa only[gk] using hv
   .cases hw
def abE{D:Nat->Prop}{i c:Nat}{r:aV}{sz t:Nat}{ag:Bool}(hG:AW O H self ops π rs bU bK bJ vF)(hr:rs[i]? =GR r)(hi:¬D i)(IN:r.guard=GS/\r.op=.ld sz ag (.t t))(hc:c<=rs.length)(hW:∀j,j<c->lZ rs j->D j)(gJ:∀j,Ord ops (π i) (π j)->¬D j)(aG:∀j,j<=c->∀id o,ah (bK j) id=GR o->id<bJ j):∀k,i+1+k<=c->gk (bK (i+1+k)) sz ag (ak (bU i) t)=GR (vF i)
 | 0,hk=>by
  have h1:=hG.run.step i r hr;simp only[fK,IN.1,sH,IN.2] at h1;obtain⟨h2,h3,h4⟩:=ad2 (.inr ⟨_,_,_,rfl⟩) h1;simp only[bm,az] at h2;rw[yY,h3];exact h2
 | k+1,hk=>by
  have ih:=abE hG hr hi IN hc hW gJ aG k (by omega);have hl:i+1+k<rs.length:=by omega
  have hj:rs[i+1+k]? =GR rs[i+1+k]:=by simp[hl]
  have aR:=hG.run.step _ _ hj;rw[show i+1+(k+1)=i+1+k+1 by omega];rcases tv (lZ rs (i+1+k)) with hw | hw
  .have hD:=hW _ (by omega) hw;rcases hG.pair i (i+1+k) r _ (by omega) hr hj with ho | hf
   .exact (gJ _ ho hD).elim
   .obtain ⟨To,mG⟩:=hf;obtain⟨cP,h5,h6⟩:=hw;rw[hj] at h5;injection h5 with h5
    subst h5;rcases mG with mG | mG
    .have h1k:br r.op=1:=by rw[IN.2];rfl
     simp only[Ki,h1k,h6] at mG;cases mG
    .unfold KE at mG;simp only[IN.1,IN.2] at mG;generalize jP:(rs[i+1+k]).op=q at mG;have Xs:Ft t (r::(rs.take (i+1+k)).drop (i+1))=ydB->ak (bU (i+1+k)) t=ak (bU i) t:=by
      intro aBN;have nk:=ack aBN;rw[show i+1+k=i+(1+k) by omega];refine Km hG.run (1+k) (by omega) (fun l rl g1 g2 Gj=>nk rl ?_);rcases vQ g1 with rfl | g1
      .rw [hr] at Gj;injection Gj with Gj;subst Gj;exact xJ
      .refine xr _ ?_
       have:((rs.take (i+1+k)).drop (i+1))[l-(i+1)]? =GR rl:=by
        rw[List.getElem?_drop,List.getElem?_take_of_lt (by omega),show i+1+(l-(i+1))=l by omega];exact Gj
       exact List.mem_of_getElem? this
     unfold fK at aR
     cases hg:sH (bU (i+1+k)) (rs[i+1+k]).guard with
     | none=>simp[hg] at aR
     | some b=>
      cases b with
      | false=>
       simp only[hg,yc,yr] at aR;rw[<-aR.2.1];exact ih
      | true=>
       simp only[hg,jP] at aR;cases q<;>simp only[yD] at mG
       case kJ Eg fx xs=>
        simp only[yf] at mG;have sO:=Pd mG.1;have CJ:=Xs mG.2;simp only[bc] at aR
        cases eF:fA O.prog O.aK self (bK (i+1+k)) (bJ (i+1+k)) .dyn (az (bU (i+1+k)) fx) (dV (bU (i+1+k)) xs) with
        | none=>simp[eF] at aR
        | some z=>
         obtain⟨v1,aZ,rK⟩:=z;simp only[eF] at aR
         cases hs:r9 (bU (i+1+k)) (bK (i+1+k)) aZ Eg with
         | false=>rw[hs] at aR;cases aR
         | true=>
          rw[hs] at aR;simp only[yx,yc,yr] at aR;obtain⟨_,h8,_⟩:=aR;rw[<-h8,<-CJ];exact Uu hs sO (by rw[CJ];exact ih)
       case mD Eg qg x v=>
        simp only[yf] at mG;have sO:=Pd mG.1;have CJ:=Xs mG.2;simp only[bc] at aR
        split at aR
        .rename_i id off hx
         cases hs:nC (bU (i+1+k)) id Eg with
         | false=>rw[hs] at aR;cases aR
         | true=>
          rw[hs] at aR;simp only[yx] at aR;rw[<-CJ];exact abS hs sO hx aR (by rw[CJ];exact ih)
        .cases aR
       case nh Eg qg b x v=>
        simp only[yf] at mG;have sO:=Pd mG.1;have CJ:=Xs mG.2;simp only[bc] at aR
        cases eF:cx (bU (i+1+k)) (bK (i+1+k)) (bJ (i+1+k)) (.eE qg b x v) with
        | none=>simp[eF] at aR
        | some z=>
         obtain⟨v1,aZ,rK⟩:=z;simp only[eF] at aR
         cases hs:(HW (bU (i+1+k)) (az (bU (i+1+k)) x) Eg||r9 (bU (i+1+k)) (bK (i+1+k)) aZ Eg) with
         | false=>rw[hs] at aR;cases aR
         | true=>
          rw[hs] at aR;simp only[yx,yc,yr] at aR;obtain⟨_,h8,_⟩:=aR;rw[<-h8,<-CJ];rcases (vU _ _).mp hs with hs | hs
          .exact apa hs sO eF (aG _ (by omega)) (by rw[CJ];exact ih)
          .exact Uu hs sO (by rw[CJ];exact ih)
  .exact Wa (adb (KH hj hw) aR (aG _ (by omega))).le ih
structure Inv(O:bE)(ops:Array xa)(rs:List aV)(bU:Nat->Env)(bK:Nat->Hp)(bJ:Nat->Nat)(D:Nat->Prop)(m0:Mp)(S0:Nat->Prop)(w0:yo)(n0:Nat)(d0:List yaH)(st c:Nat)(m:Mp)(S:Nat->Prop)(w:yo)(a:Act):Prop where
 ZZ:st<=c
 cn:c<=rs.length
 before:∀i,i<st->lZ rs i->D i
 IP:∀i,st<=i->i<c->¬lZ rs i
 cut:c=rs.length\/(lZ rs c/\¬D c)
 behind:∀(i:Nat) (r:aV),c<=i->rs[i]? =GR r->1<=br r.op->¬D i
 hp:aU O m S w (bK c) (bJ c)
 Z0:∀id p,m id=GR p->id<bJ st\/∃i,st<=i/\i<c/\D i/\bJ i<=id/\id<bJ (i+1)
 tm:Tn O rs bU D m S w a
 Tp:cr m0 S0 w0 (bK 0) m S w (bK c) (bJ 0)
 ge:bJ 0<=bJ c
 size:a.tmps.size=n0
 defers:a.defers=d0
 IQ:st=0\/lZ rs (st-1)
 IR:∀j,j<=c->∀id o,ah (bK j) id=GR o->id<bJ j
end
end
end
section
open Go
section
variable {O:bE}{H:Hint}{ops:Array xa}{π:Nat->Nat}{rs:List aV}{bU:Nat->Env}{bK:Nat->Hp}{bJ:Nat->Nat}{vF:Nat->AV}{self:cp}{ro:Option Nat}{Q:uJ->Act->yo->Prop}
variable {D D':Nat->Prop}{m0:Mp}{S0:Nat->Prop}{w0:yo}{n0:Nat}{d0:List yaH}{st c i:Nat}{m:Mp}{S:Nat->Prop}{w:yo}{a:Act}{r:aV}{o:xa}
def Pf(hG:AW O H self ops π rs bU bK bJ vF)(hI:Inv O ops rs bU bK bJ D m0 S0 w0 n0 d0 st c m S w a){x y:Nat}(hx:st<=x)(hxy:x<=y)(hy:y<=c):j0 (bK x) (bJ x) (bK y) (bJ y):=by
 obtain⟨k,rfl⟩:∃k,y=x+k:=⟨y-x,by omega⟩
 have:=hI.cn
 exact Pe hG.run (hI.IR x (by omega)) k (by omega) (fun j r h1 h2 hr=>KH hr (hI.IP j (by omega) (by omega)))
def PA(hG:AW O H self ops π rs bU bK bJ vF)(hI:Inv O ops rs bU bK bJ D m0 S0 w0 n0 d0 st c m S w a)(hr:rs[i]? =GR r)(hi:¬D i)(fg:∀j,Ord ops (π j) (π i)->D j)(gJ:∀j,Ord ops (π i) (π j)->¬D j)(hD:∀j,D' j↔D j\/j=i)(hd:∀d,r.dst=GR d->d<a.tmps.size)(hw:¬lZ rs i)(CE:br r.op=0\/i<c){w':yo}{u:ym}(k1:aU O m' S' w' (bK c) (bJ c))(k2:dT m m')(k3:∀id p,m' id=GR p->m id=GR p\/(st<=i/\i<c/\bJ i<=id/\id<bJ (i+1)))(k4:af O.ae m' S' w' (vF i) u)(k5:cr m S w (bK c) m' S' w' (bK c) (bJ c)):
  Inv O ops rs bU bK bJ D' m0 S0 w0 n0 d0 st c m' S' w' (a.put r.dst u) where
 ZZ:=hI.ZZ
 cn:=hI.cn
 before j hj Gm:=(hD j).2 (.inl (hI.before j hj Gm))
 IP:=hI.IP
 cut:=hI.cut.imp (fun h=>h) (fun h=>⟨h.1,fun hc=>((hD c).1 hc).elim h.2 (fun e=>hw (e▸h.1))⟩)
 behind j rj hj Gn hk Gp:=((hD j).1 Gp).elim (hI.behind j rj hj Gn hk) (fun e=>by
  subst e;rw[hr] at Gn;injection Gn with Gn
  subst Gn
  rcases CE with h | h<;>omega)
 hp:=k1
 Z0 id p hp:=by
  rcases k3 id p hp with h | ⟨h1,h2,h3,h4⟩
  .rcases hI.Z0 id p h with h | ⟨j,g1,g2,g3,g4,g5⟩
   .exact .inl h
   .exact .inr ⟨j,g1,g2,(hD j).2 (.inl g3),g4,g5⟩
  .exact .inr ⟨i,h1,h2,(hD i).2 (.inr rfl),h3,h4⟩
 tm:=afo hG hI.tm hr hi fg gJ hD k2 k5.sub (fun b hb=>k5.still b hb) hd k4
 Tp:=hI.Tp.trans (k5.A1 hI.ge)
 ge:=hI.ge
 size:=by rw[Py];exact hI.size
 defers:=by rw[UO];exact hI.defers
 IQ:=hI.IQ
 IR:=hI.IR
def afp(hG:AW O H self ops π rs bU bK bJ vF)(hI:Inv O ops rs bU bK bJ D m0 S0 w0 n0 d0 st c m S w a)(hr:rs[c]? =GR r)(hi:¬D c)(fg:∀j,Ord ops (π j) (π c)->D j)(gJ:∀j,Ord ops (π c) (π j)->¬D j)(hD:∀j,D' j↔D j\/j=c)(hd:∀d,r.dst=GR d->d<a.tmps.size)(hw:lZ rs c){w':yo}{u:ym}(k1:aU O m' S' w' (bK (c+1)) (bJ (c+1)))(k2:bJ c<=bJ (c+1))(k4:af O.ae m' S' w' (vF c) u)(k5:cr m S w (bK c) m' S' w' (bK (c+1)) (bJ c)):
  ∃c' D7,Inv O ops rs bU bK bJ D' m0 S0 w0 n0 d0 (c+1) c' m' D7 w' (a.put r.dst u):=by
 have eF:c<rs.length:=(xM.1 hr).1;obtain⟨c',h1,h2,h3,h4⟩:=WR rs (rs.length-(c+1)) (c+1) (by omega);obtain⟨k,rfl⟩:∃k,c'=c+1+k:=⟨c'-(c+1),by omega⟩;have hg:∀k',k'<=k->j0 (bK (c+1)) (bJ (c+1)) (bK (c+1+k')) (bJ (c+1+k')):=fun k' p9=>
  Pe hG.run k1.aG k' (by omega) (fun j r g1 g2 hr=>KH hr (h3 j g1 (by omega)))
 obtain⟨D7,g1,g2,g3,g4⟩:=Px k1 (hg k (yz _));have hml:dT m m':=fun id p h=>k5.old id p (hI.hp.lt id p h) h
 refine⟨c+1+k,D7,⟨by omega,h2,?_,h3,?_,?_,g1,fun id p h=>.inl (k1.lt id p h),?_,?_,?_,by rw[Py];exact hI.size,by rw[UO];exact hI.defers,.inr (by simpa using hw),?_⟩⟩
 .intro j hj Gm;rcases vQ (uf hj) with e | hj
  .exact (hD j).2 (.inr e)
  .rcases vn j st with g | g
   .exact (hD j).2 (.inl (hI.before j g Gm))
   .exact (hI.IP j g hj Gm).elim
 .refine h4.imp (fun h=>h) (fun h=>⟨h,fun hc=>?_⟩);obtain⟨rc,Z1,CE⟩:=h;rcases (hD _).1 hc with g | g
  .exact hI.behind _ rc (by omega) Z1 (by omega) g
  .omega
 .intro j rj hj Gn hk Gp;rcases (hD j).1 Gp with g | g
  .exact hI.behind j rj (by omega) Gn hk g
  .omega
 .exact afo hG hI.tm hr hi fg gJ hD hml (fun b hb=>g2 b (k5.sub b hb)) (fun b hb=>k5.still b hb) hd (n8 (fun _ _ h=>h) g2 (fun _ _=>rfl) _ _ k4)
 .exact (hI.Tp.trans (k5.A1 hI.ge)).trans (g4 (bJ 0))
 .have:=(hg k (yz _)).zi
  have:=hI.ge
  omega
 .intro j hj;rcases vn c j with g | g
  .obtain ⟨k',rfl⟩:∃k',j=c+1+k':=⟨j-(c+1),by omega⟩;exact (hg k' (by omega)).lt
  .exact hI.IR j g
def aq0{q:Op}(h:br q≠2):lh q=q:=by
 cases q<;>first
  | rfl
  | exact absurd rfl h
def acm{x y:aV}{l:List aV}(h:FO x y l):¬(br x.op=2/\1<=br y.op)/\(1<=br x.op->br y.op=2->x.guard=GS/\∃sz ag t,x.op=.ld sz ag (.t t)):=by
 have⟨_,h⟩:=h;have ex:KE x y l=ydB->x.guard=GS/\∃sz ag t,x.op=.ld sz ag (.t t):=by
  intro he;unfold KE at he
  split at he
  .rename_i sz ag t Eg fx xs h1 h2 h3;exact⟨h1,sz,ag,t,h2⟩
  .rename_i h1 h2 h3;exact⟨h1,_,_,_,h2⟩
  .rename_i h1 h2 h3;exact⟨h1,_,_,_,h2⟩
  .cases he
 have k2:∀q:Op,br q<=2:=fun q=>by
  cases q with
  | zb k x lo hi=>cases k<;>simp[br]
  | len k x=>rcases k with _ | _ | k<;>simp[br]
  | call md f xs=>cases md<;>simp[br]
  | _=>simp[br]
 constructor
 .rintro ⟨h1,h2⟩;rcases h with h | h
  .have:br y.op=1\/br y.op=2:=by have:=k2 y.op;lia
   rcases this with e | e<;>(simp only[Ki,h1,e] at h;cases h)
  .have ⟨_,sz,ag,t,e⟩:=ex h;rw[e] at h1;cases h1
 .intro h1 h2;rcases h with h | h
  .have:br x.op=1\/br x.op=2:=by have:=k2 x.op;lia
   rcases this with e | e<;>(simp only[Ki,h2,e] at h;cases h)
  .exact ex h
def aq1(hC:qH O self)(hH:fW O H)(hG:AW O H self ops π rs bU bK bJ vF)(hn:H.n<=n0)(hI:Inv O ops rs bU bK bJ D m0 S0 w0 n0 d0 st c m S w a)(hr:rs[i]? =GR r)(ho:ops[π i]? =GR o)(hi:¬D i)(fg:∀j,Ord ops (π j) (π i)->D j)(gJ:∀j,Ord ops (π i) (π j)->¬D j)(hD:∀j,D' j↔D j\/j=i){K:Act->yo->Prop}(hK:∀st' c' m' S' w' a',Inv O ops rs bU bK bJ D' m0 S0 w0 n0 d0 st' c' m' S' w' a'->K a' w'):wpOpIn (WF ro) 0 O.P ops Q (π i) K a w:=by
 have dj:=hG.of i r o hr ho;have Yf:=ati hG hI.tm hr hi fg gJ;have aR:=hG.run.step i r hr;have hd:∀d,r.dst=GR d->d<a.tmps.size:=by
  rw[dj.dst];exact ad1 dj.ok (by rw[hI.size];exact hn)
 have ma:=hI.ZZ;have mF:1<=br r.op->i<=c:=by
  intro hk;rcases vn c i with Z2 | Z2
  .have CI:i<rs.length:=(xM.1 hr).1;rcases hI.cut with h | ⟨⟨rc,Z1,CE⟩,Nx⟩
   .omega
   .rcases hG.pair c i rc r Z2 Z1 hr with h | h
    .exact (Nx (fg c h)).elim
    .exact ((acm h).1 ⟨CE,hk⟩).elim
  .exact Z2
 have hwc:lZ rs i->i=c:=by
  intro hw;obtain⟨cP,h1,h2⟩:=hw;rw[hr] at h1;injection h1 with h1
  subst h1;have h3:=mF (by omega);rcases vQ h3 with e | h3
  .exact e
  .rcases vn i st with g | g
   .exact (hi (hI.before i g ⟨r,hr,h2⟩)).elim
   .exact (hI.IP i g h3 ⟨r,hr,h2⟩).elim
 have aG:1<=br r.op->¬lZ rs i->i<c:=by
  intro hk hw;rcases vQ (mF hk) with e | h
  .subst e;rcases hI.cut with h | h
   .have CI:i<rs.length:=(xM.1 hr).1;omega
   .exact (hw h.1).elim
  .exact h
 have CE:¬lZ rs i->br r.op=0\/i<c:=fun hw=>by
  rcases xi (br r.op) with h | h
  .exact .inl h
  .exact .inr (aG h hw)
 unfold wpOpIn;simp only[ho];unfold fK at aR
 cases Tq:sH (bU i) r.guard with
 | none=>simp[Tq] at aR
 | some b=>
  have ZY:=ac8 dj.guard (fun t ht=>Yf t (by simp[E6,ht])) Tq;rw[ZY]
  cases b with
  | false=>
   simp only[Tq,yc,yr] at aR;obtain⟨hv,hh,hc⟩:=aR;simp only[yD,xv];refine⟨fun _ _=>trivial,?_⟩;have er:∀m S w,af O.ae m S w (vF i) undef:=fun m S w=>by rw[<-hv];simp[af,aA,undef]
   rw[<-dj.dst];rcases tv (lZ rs i) with hw | hw
   .have e:=hwc hw;subst e;obtain⟨c',D7,h⟩:=afp hG hI hr hi fg gJ hD hd hw (m':=m) (S':=S) (w':=w) (u:=undef) (by rw[<-hh,<-hc];exact hI.hp) (by omega) (er _ _ _) (by rw[<-hh];exact cr.refl)
    exact hK _ _ _ _ _ _ h
   .exact hK _ _ _ _ _ _ (PA hG hI hr hi fg gJ hD hd hw (CE hw) (m':=m) (S':=S) (w':=w) (u:=undef) hI.hp dT.refl (fun _ _ h=>.inl h) (er _ _ _) cr.refl)
  | true=>
   simp only[Tq] at aR;simp only[xN];have nk:=abR dj.op aR;have NE:cg O m S w (bF (bU i) (mq r.op)) a.tmps:=fun t=>by
    rcases tv (t∈mq r.op) with h | h
    .rw [Pz h];exact Yf t (by simp[E6,h])
    .have:ak (bF (bU i) (mq r.op)) t=.undef:=by
      clear Yf aR;revert h;generalize mq r.op=l;intro h
      induction l with
      | nil=>rfl
      | cons x l ih=>
       simp only[bF,ak];have hx:yu x t=ydC:=by
        cases hq:yu x t with
        | false=>rfl
        | true=>exact absurd (by rw[yi hq];exact xJ) h
       rw[hx];exact ih (fun h'=>h (xr _ h'))
     rw[this];simp only[af]
   have Br:bc O.prog O.aK self (bF (bU i) (mq r.op)) (bK i) (bJ i) (lh r.op)=GR (vF i,bK (i+1),bJ (i+1)):=
    ao9 (fun t ht=>Pz ht) aR
   have agc:¬lZ rs i->lh r.op=r.op:=fun hw=>aq0 (fun h=>hw ⟨r,hr,h⟩)
   have now:¬lZ rs i->bm (bF (bU i) (mq r.op)) (bK c) r.op=GR (vF i)->Oper.wpIn (WF ro) 0 O.P o a w K Q:=by
    intro hw ji;by_cases Ee:∃n sz z ps,r.op=.ru n sz z ps
    .obtain ⟨n,sz,z,ps,Ee⟩:=Ee;have Bo:br r.op=0:=by rw[Ee];rfl
     have aBO:bc O.prog O.aK self (bF (bU i) (mq r.op)) (bK c) (bJ c) r.op=GR (vF i,bK c,bJ c):=by
      rw[Ee] at ji ⊢;simp only[bc,ji]
     refine quiet_step (Hq:=bK c) (cH:=bJ c) hC hH (by omega) dj.op nk aBO dD.refl (yz _) hI.hp.aG (fun id h1 h2=>by omega) NE hI.hp (fun u m' S' w' k1 k2 k3 k4 k5=>?_);rw[<-dj.dst];exact hK _ _ _ _ _ _ (PA hG hI hr hi fg gJ hD hd hw (.inl Bo) k1 k2 (fun id p h=>.inl ((k3 id p h).resolve_right (by omega))) k4 k5)
    have jP:∃k,r.op=aW O.P H k o:=by
     rcases dj.op with h | ⟨cc,f,rr,_,_,h⟩ | ⟨_,_,_,_,_,_,_,h⟩ | ⟨_,_,_,_,_,_,_,h⟩ | ⟨_,_,_,_,_,_,h⟩
     .exact h
     .rw [h] at ji;simp[bm] at ji
     .rw [h] at ji;simp[bm] at ji
     .rw [h] at ji;simp[bm] at ji
     .exact (Ee ⟨_,_,_,_,h⟩).elim
    obtain⟨k,hk⟩:=jP;rw[hk] at ji;rw[hk] at NE;obtain⟨u,h1,h2⟩:=afb hH NE hI.hp ji;refine KX nk h1 (.inl rfl) ?_;rw[<-dj.dst];exact hK _ _ _ _ _ _ (PA hG hI hr hi fg gJ hD hd hw (CE hw) hI.hp dT.refl (fun _ _ h=>.inl h) h2 cr.refl)
   rcases tv (lZ rs i) with hw | hw
   .have e:=hwc hw;subst e;refine ad0 hC hH (aod dj.op) nk Br NE hI.hp (fun u m' S' w' k1 k2 k3 k4=>?_);rw[<-dj.dst];obtain⟨c',D7,h⟩:=afp hG hI hr hi fg gJ hD hd hw k1 k2 k3 k4;exact hK _ _ _ _ _ _ h
   .rcases xi (br r.op) with hk | hk
    .have Br:=agc hw▸Br;obtain⟨h1,_,_⟩:=ad2 (.inl hk) Br;exact now hw (by rw[ao0 hk (bK c) (bK i)];exact h1)
    .have IE:=aG hk hw;rcases vn i st with Yg | Yg
     .
      rcases hI.IQ with h0 | h0
      .omega
      .have aZ:D (st-1):=hI.before _ (by omega) h0;have bL:i≠st-1:=fun e=>hi (e▸aZ)
       obtain⟨rp,IS,ew⟩:=h0;rcases hG.pair i (st-1) r rp (by omega) hr IS with h | h
       .exact (gJ _ h aZ).elim
       .obtain ⟨hg,sz,ag,t,jP⟩:=(acm h).2 hk ew;have hl:=abE (c:=c) hG hr hi ⟨hg,jP⟩ hI.cn (fun j hj Gm=>by
         rcases vn j st with g | g
         .exact hI.before j g Gm
         .exact (hI.IP j g hj Gm).elim) gJ hI.IR (c-(i+1)) (by omega)
        rw[show i+1+(c-(i+1))=c by omega] at hl;refine now hw ?_;rw[jP];simp only[bm,az];rw[Pz (by simp[mq,kK])];exact hl
     .have lY:=Pf hG hI (x:=i+1) (y:=c) (by omega) IE (yz _);have Tt:=Pf hG hI (x:=st) (y:=i) (yz _) Yg (by omega)
      refine quiet_step (Hq:=bK c) (cH:=bJ c) hC hH (KH hr hw) dj.op nk (agc hw▸Br) lY.le lY.zi (hI.IR i (by omega)) ?_ NE hI.hp (fun u m' S' w' k1 k2 k3 k4 k5=>?_)
      .intro id h1 h2
       cases hm:m id with
       | none=>rfl
       | some p=>
        rcases hI.Z0 id p hm with h | ⟨j,q1,q2,q3,q4,q5⟩
        .have:=Tt.zi;omega
        .rcases Nat.lt_trichotomy j i with g | g | g
         .have:=(Pf hG hI (x:=j+1) (y:=i) (by omega) g (by omega)).zi;omega
         .subst g;exact (hi q3).elim
         .have:=(Pf hG hI (x:=i+1) (y:=j) (by omega) g (by omega)).zi;omega
      .rw [<-dj.dst];exact hK _ _ _ _ _ _ (PA hG hI hr hi fg gJ hD hd hw (.inr IE) k1 k2 (fun id p h=>(k3 id p h).imp (fun h=>h) (fun h=>⟨Yg,IE,h.1,h.2⟩)) k4 k5)
def left(n:Nat)(listed:Array Bool):Nat:=(List.range n).countP fun i=> !listed.getD i ydC
def aq2{n:Nat}{i:Nat}(hi:i<n)(hs:listed.size=n)(hl:listed.getD i ydB=ydC):left n (listed.setIfInBounds i ydB)+1=left n listed:=by
 have key:∀(l:List Nat),l.Nodup->(i∈l->(l.countP fun j=> !(listed.setIfInBounds i ydB).getD j ydC)+1=l.countP fun j=> !listed.getD j ydC)/\(i∉l->(l.countP fun j=> !(listed.setIfInBounds i ydB).getD j ydC)=l.countP fun j=> !listed.getD j ydC):=by
  intro l
  induction l with
  | nil=>intro _;exact⟨fun h=>(by cases h),fun _=>rfl⟩
  | cons x l ih=>
   intro nk;have hx:x≠i->(listed.setIfInBounds i ydB).getD x ydC=listed.getD x ydC:=fun h=>getD_set_ne ydC (ydg h)
   refine⟨fun hm=>?_,fun hm=>?_⟩
   .rw [ybS,ybS];by_cases e:x=i
    .simp_all
    .grind
   .grind
 exact (key _ List.nodup_range).1 (tE.2 hi)
def apb{n:Nat}(h:left n listed=0):∀i,i<n->listed.getD i ydC=ydB:=by
 unfold left at h
 simp_all
def apc(hs:listed.size=ops.size)(hb:∀(i:Nat) (o:xa),ops[i]? =GR o->∀e,e∈o.after->Region.binds .any e=ydB->e.on<i)(h:Region.ready .any ops listed=[]):∀i,i<ops.size->listed.getD i ydC=ydB:=by
 intro i
 induction i using vY with
 | _ i ih=>
  intro hi
  cases hq:listed.getD i ydC with
  | true=>rfl
  | false=>
   have:i∈Region.ready .any ops listed:=by
    refine mem_ready.2 ⟨?_,ops[i],by simp[hi],fun e he Ai=>?_⟩
    .have aG:i<listed.size:=by lia
     simp only[wm,aG,tf,wV] at hq ⊢;exact hq
    .have:=hb i ops[i] (by simp[hi]) e he Ai
     exact ih e.on this (by lia)
   rw[h] at this;cases this
def atj(hG:AW O H self ops π rs bU bK bJ vF)(hI:Inv O ops rs bU bK bJ D m0 S0 w0 n0 d0 st c m S w a)(mW:∀i,i<rs.length->D i):
  aU O m S w (bK rs.length) (bJ rs.length)/\cg O m S w (bU rs.length) a.tmps/\cr m0 S0 w0 (bK 0) m S w (bK rs.length) (bJ 0)/\bJ 0<=bJ rs.length:=by
 have hc:c=rs.length:=by
  rcases hI.cut with h | ⟨⟨r,h1,_⟩,h2⟩
  .exact h
  .exact (h2 (mW c (xM.1 h1).1)).elim
 subst hc;refine⟨hI.hp,fun t=>?_,hI.Tp,hI.ge⟩;obtain⟨j,h1,h2,h3⟩:=hI.tm t;obtain⟨k,hk⟩:∃k,rs.length=j+k:=⟨rs.length-j,by omega⟩
 have:=Km (t:=t) (i:=j) hG.run k (by omega) (fun l r g1 g2 hl hd=>by
  have:=(h2 l r hl hd).1 (mW l (xM.1 hl).1)
  omega)
 rw[<-hk] at this;rw[this];exact h3
structure KZ(n:Nat)(π:Nat->Nat):Prop where
 inj:∀i j,π i=π j->i=j
 sur:∀x,x<n->∃i,i<n/\π i=x
 lt:∀i,i<n->π i<n
def avT(hC:qH O self)(hH:fW O H)(hG:AW O H self ops π rs bU bK bJ vF)(hπ:KZ ops.size π)(hn:H.n<=n0)(hQ:∀a' m' S' w',aU O m' S' w' (bK rs.length) (bJ rs.length)->bJ 0<=bJ rs.length->cg O m' S' w' (bU rs.length) a'.tmps->cr m0 S0 w0 (bK 0) m' S' w' (bK rs.length) (bJ 0)->a'.tmps.size=n0->a'.defers=d0->Q .normal a' w'):
  ∀(bw:Nat) (listed:Array Bool) (st c:Nat) (m:Mp) (S:Nat->Prop) (w:yo) (a:Act),listed.size=ops.size->left ops.size listed=bw->WQ ops (fun i=>listed.getD i ydC=ydB)->
   Inv O ops rs bU bK bJ (fun i=>listed.getD (π i) ydC=ydB) m0 S0 w0 n0 d0 st c m S w a->wpAnyIn (WF ro) 0 O.P .any ops Q bw listed a w:=by
 have fin:∀(listed:Array Bool) (st c:Nat) (m:Mp) (S:Nat->Prop) (w:yo) (a:Act),Inv O ops rs bU bK bJ (fun i=>listed.getD (π i) ydC=ydB) m0 S0 w0 n0 d0 st c m S w a->(∀i,i<ops.size->listed.getD i ydC=ydB)->Q .normal a w:=by
  intro listed st c m S w a hI mW;obtain⟨h1,h2,h3,h4⟩:=atj hG hI (fun i hi=>mW _ (hπ.lt i (by rw[<-hG.len];exact hi)))
  exact hQ a m S w h1 h4 h2 h3 hI.size hI.defers
 intro bw
 induction bw with
 | zero=>
  intro listed st c m S w a hs hl hc hI;have mW:=apb hl;refine⟨?_,fin listed st c m S w a hI mW⟩;rw[List.eq_nil_iff_forall_not_mem];intro i hm;obtain⟨h1,o,ho,_⟩:=mem_ready.1 hm;have hi:=(xx.1 ho).1
  have:=mW i hi
  have aG:i<listed.size:=by omega
  simp only[wm,aG,tf,wV] at h1 this;rw[this] at h1;cases h1
 | succ bw ih=>
  intro listed st c m S w a hs hl hc hI;refine⟨fun h=>fin listed st c m S w a hI (apc hs hG.back h),fun x hm=>?_⟩;obtain⟨h1,o,ho,h2⟩:=mem_ready.1 hm;have hx:x<ops.size:=(xx.1 ho).1;obtain⟨i,hi,rfl⟩:=hπ.sur x hx;have hr:rs[i]? =GR (rs[i]'(by rw[hG.len];exact hi)):=by simp[hG.len,hi]
  have aG:π i<listed.size:=by omega
  have hni:¬listed.getD (π i) ydC=ydB:=by
   simp only[wm,aG,tf,wV] at h1 ⊢;rw[h1];simp
  have Z3:∀y,(listed.setIfInBounds (π i) ydB).getD y ydC=ydB↔listed.getD y ydC=ydB\/y=π i:=by
   intro y;by_cases e:y=π i
   .subst e;simp[aG]
   .rw [getD_set_ne ydC (ydg e)];simp[e]
  have hD:∀j,(listed.setIfInBounds (π i) ydB).getD (π j) ydC=ydB↔listed.getD (π j) ydC=ydB\/j=i:=by
   intro j;rw[Z3];exact or_congr Iff.rfl ⟨fun e=>hπ.inj _ _ e,fun e=>by rw[e]⟩
  refine aq1 (D:=fun i=>listed.getD (π i) ydC=ydB) hC hH hG hn hI hr ho hni (fun j hj=>ada hc (π i) o ho h2 (π j) hj) (fun j hj Gp=>?_) hD (fun st' c' m' S' w' a' Z4=>ih (listed.setIfInBounds (π i) ydB) st' c' m' S' w' a' (by simp[hs]) ?_ ?_ Z4)
  .have hjl:π j<ops.size:=by
    rcases vn (π j) ops.size with h | h
    .exact h
    .rw [wm,yaY (by omega)] at Gp;simp at Gp
   exact hni (aqZ hc (show ops[π j]? =GR ops[π j] by simp[hjl]) Gp hj)
  .have:=aq2 hx hs h1
   omega
  .intro j oj NG hj e he hb;rw[Z3];rcases (Z3 j).1 hj with g | g
   .exact .inl (hc j oj NG g e he hb)
   .subst g;rw[ho] at NG;injection NG with NG
    subst NG;exact .inl (h2 e he hb)
end
end
section
open Go
section
variable {pm:List Nat}{n:Nat}{P:xp}{s s':St}
def aof{F:Fence}{Q:uJ->Act->yo->Prop}{a:Act}{w:yo}{c:vD}(h:c.wpIn F n P Q a w)(hg:∀l a w,¬Q (.goto l) a w):(Code.scope c).wpIn F n P Q a w:=by
 intro b k cs dj hb hr;have h0:(lone (b.atR a (.code (.scope c)::k)) cs w).fenced P F:=fenced_calm hb hr rfl;have s0:step P (lone (b.atR a (.code (.scope c)::k)) cs w)=.next (lone (b.atR a (.code c:: .inScope c::k)) cs w):=step_lone_go (by simp[stepG,stepG.exec,Frame.atR]);have⟨e,a₁,w₁,hq,FM⟩:=h b (.inScope c::k) cs dj hb hr;have hx:∀id,exitTo id (.inScope c::k)=exitTo id k:=fun id=>by simp[exitTo]
 cases e with
 | normal=>
  have s1:step P (lone (b.atR a₁ (.inScope c::k)) cs w₁)=.next (lone (b.atR a₁ k) cs w₁):=step_lone_go (by simp[stepG,stepG.exec,Frame.atR]);exact⟨.normal,a₁,w₁,hq,.head h0 s0 (StepsIn.trans FM (.one (fenced_calm hb hr rfl) s1))⟩
 | exit id=>
  exact⟨.exit id,a₁,w₁,hq,fun k' hk=>.head h0 s0 (FM.1 k' (by rw[hx];exact hk)),fun bO hk=>let ⟨k₁,h1,h2⟩:=FM.2 bO (by rw[hx];exact hk);⟨k₁,h1,.head h0 s0 h2⟩⟩
 | goto l=>exact (hg _ _ _ hq).elim
 | ret=>exact⟨_,a₁,w₁,hq,.of_steps (.one h0 s0) FM⟩
 | panic ch=>exact⟨_,a₁,w₁,hq,.of_steps (.one h0 s0) FM⟩
 | outgrown=>exact⟨_,a₁,w₁,hq,.of_steps (.one h0 s0) FM⟩
def zX:Ex->uJ
 | .normal=>.normal
 | .ret=>.ret
 | .exit id=>.exit id
def Marks(lo:Nat)(S:Nat->Prop)(w:yo)(ds:List yaH):Prop:=∃rs:List Nat,ds=rs.map (fun r=>{target:=.collected r,args:=#[]})/\rs.Nodup/\
 ∀r,r∈rs->w.heap[r]? =GR (.deferred (GR []))/\¬S r/\lo<=r
def BW(ro:Option Nat)(w:yo):Prop:=∀l,ro=GR l->∃r:tq,w.heap[l]? =GR (.loop r)
section
variable {O:bE}{m:Mp}{S:Nat->Prop}{w:yo}{hp:Hp}{ct:Nat}
def ad3(hh:aU O m S w hp ct){b:Nat}(h:eO m hp b):∀x,w.heap[b]?≠GR (.deferred x):=by
 intro x hx;obtain⟨id,o,p,h1,h2,rfl⟩:=h;have h3:=hh.obj id o p h1 h2
 cases o with
 | cells rw pu ex sz cs=>have⟨q,arr,t,g1,g2,_⟩:=h3;rw[h2] at g1;injection g1 with g1;subst g1;rw[hx] at g2;cases g2
 | mp rw ks vs=>have⟨q,es,clock,g1,g2,_⟩:=h3;rw[h2] at g1;injection g1 with g1;subst g1;rw[hx] at g2;cases g2
 | si s pos=>have⟨q,t,g1,g2,_⟩:=h3;rw[h2] at g1;injection g1 with g1;subst g1;rw[hx] at g2;cases g2
 | lp tm ps as_ body st pe=>have⟨q,l,hi,g1,g2,_⟩:=h3;rw[h2] at g1;injection g1 with g1;subst g1;rw[hx] at g2;cases g2
def C7(hh:aU O m S w hp ct){w':yo}{lo:Nat}(hf:cr m S w hp m' S' w' ap base){ds:List yaH}(h:Marks lo S w ds):Marks lo S' w' ds:=by
 have⟨rs,h1,h2,h3⟩:=h;refine⟨rs,h1,h2,fun r hr=>?_⟩;have⟨this,h4,h5⟩:=h3 r hr;have aG:=(xx.1 this).1;have rI:¬eO m hp r:=fun ho=>ad3 hh ho _ this
 refine⟨(hf.same r aG rI).trans this,fun hs=>?_,h5⟩;rcases hf.new r hs with h | h | h
 .grind
 .grind
 .lia
def Pg{w':yo}(hf:cr m S w hp m' S' w' ap base)(h:BW ro w):BW ro w':=fun l hl=>
 let ⟨r,hr⟩:=h l hl
 hf.loops l r hr
def fC(O:bE)(m:Mp)(S:Nat->Prop)(w:yo)(s:St)(ex:Ex)(s':St)(n lo:Nat)(e:uJ)(a':Act)(w':yo):Prop:=
 e=zX ex/\∃m' S',cg O m' S' w' s'.tm a'.tmps/\aU O m' S' w' s'.hp s'.ct/\s'.base=s.base/\s.base<=s'.ct/\cr m S w s.hp m' S' w' s'.hp s.base/\a'.tmps.size=n/\Marks lo S' w' a'.defers
def DB(O:bE)(h:Nat)(c:vD)(s:St)(ex:Ex)(s':St):Prop:=
 ∀(ro:Option Nat) (lo:Nat) (m:Mp) (S:Nat->Prop) (w:yo) (a:Act),BW ro w->cg O m S w s.tm a.tmps->aU O m S w s.hp s.ct->s.base<=s.ct->(O.hint h).n<=a.tmps.size->O.w0.heap.size<=lo->lo<=w.heap.size->Marks lo S w a.defers->
  c.wpIn (WF ro) 0 O.P (fC O m S w s ex s' a.tmps.size lo) a w
structure jo(O:bE):Prop where
 hint:∀h,fW O (O.hint h)
 mixed:O.P.follows .mixedOrders=ydB
 prog:∀n F,O.prog n=GR F->∃fn,O.P.funcs[O.ae n]? =GR fn/\Hi O.P (O.hint n) fn=GR F/\fn.name≠ "runtime.NumGoroutine"
 aK:∀n sp ax r,O.aK.pure n=GR sp->sp ax=GR r->eR O n ax r
 HX:∀n sp hp ct ax v ap aQ,O.aK.heap n=GR sp->sp hp ct ax=GR (v,ap,aQ)->DA O n hp ct ax v ap aQ
def G5{P:xp}{H:Hint}{ops:Array xa}:∀(rs:List aV) (l:List xa) (done:List aV) (ms:List Nat),gH P H ops rs l->gH P H ops (mS done rs ms) l
 | [],l,done,ms,h=>by
  cases ms<;>simpa only[mS] using h
 | r::rs,[],done,ms,h=>by simp[gH] at h
 | r::rs,o::l,done,[],h=>by
  have⟨d,g,op⟩:=r;cases op<;>simpa only[mS] using h
 | r::rs,o::l,done,m::ms,h=>by
  simp only[gH] at h;have⟨h1,h2⟩:=h;have⟨d,g,op⟩:=r
  cases op with
  | kJ Eg f xs=>
   simp only[mS,gH];refine⟨?_,G5 rs l _ ms h2⟩;rcases h1 with h1 | ⟨_,h1⟩
   .refine .inl ⟨?_,h1.dst,h1.ok,h1.guard⟩;have⟨c,f',g1,g2,g3,g4⟩:=VH h1.op;rw[g3,g4];exact .inr (.inl ⟨c,f',_,g1,g2,rfl⟩)
   .simp [bad] at h1
  | st sz x y=>
   simp only[mS,gH];refine⟨?_,G5 rs l _ ms h2⟩;rcases h1 with h1 | ⟨_,h1⟩
   .refine .inl ⟨?_,h1.dst,h1.ok,h1.guard⟩;unfold stOp
    split
    .exact h1.op
    .have ⟨t,x',y',g1,g2,g3,g4⟩:=azQ h1.op;exact .inr (.inr (.inl ⟨t,x',y',sz,_,g1,g2,by rw[g3,g4]⟩))
   .simp [bad] at h1
  | eE sz b x y=>
   simp only[mS,gH];refine⟨?_,G5 rs l _ ms h2⟩;rcases h1 with h1 | ⟨_,h1⟩
   .refine .inl ⟨?_,h1.dst,h1.ok,h1.guard⟩;unfold aiz
    split
    .exact h1.op
    .have ⟨k,hk⟩:=avS h1.op;exact .inr (.inr (.inr (.inl ⟨k,_,sz,b,x,y,hk,rfl⟩)))
   .simp [bad] at h1
  | _=>
   simp only[mS,gH];exact⟨h1,G5 rs l _ ms h2⟩
end
section
variable {O:bE}{self:cp}
def PB{P:xp}{H:Hint}{ops:Array xa}:∀{rs:List aV} {l:List xa},gH P H ops rs l->rs.length=l.length/\∀(i:Nat) (r:aV) (o:xa),rs[i]? =GR r->l[i]? =GR o->FC P H ops r o\/(r.guard=GS/\r.op=bad)
 | [],[],_=>⟨rfl,fun i r o h=>by simp at h⟩
 | [],_::_,h=>by simp[gH] at h
 | _::_,[],h=>by simp[gH] at h
 | r::rs,o::l,h=>by
  have⟨h1,h2⟩:=PB h.2;refine⟨by simp[h1],fun i r' o' hr ho=>?_⟩
  cases i with
  | zero=>simp at hr ho;subst hr;subst ho;exact h.1
  | succ i=>exact h2 i r' o' (by simpa using hr) (by simpa using ho)
def atk{H:Hint}{o:xa}{z:List AV}(hq:qX P H (.km n sz z ps) o):∃k,Op.km n sz z ps=aW P H k o:=by
 rcases hq with h | ⟨_,_,_,_,_,h3⟩ | ⟨_,_,_,_,_,_,_,h3⟩ | ⟨_,_,_,_,_,_,_,h3⟩ | ⟨_,_,_,_,_,_,h3⟩
 .exact h
 .cases h3
 .cases h3
 .cases h3
 .cases h3
def ad4{P:xp}{H:Hint}{ops:Array xa}{all:List aV}:∀(rs:List aV) (l:List xa),gH P H ops rs l->gH P H ops (Fu all rs) l
 | [],[],h=>h
 | [],_::_,h=>by simp[gH] at h
 | r::rs,[],h=>by simp[gH] at h
 | r::rs,o::l,h=>by
  simp only[gH] at h;obtain⟨h1,h2⟩:=h;simp only[Fu,gH];refine⟨?_,ad4 rs l h2⟩;obtain⟨d,g,op⟩:=r
  cases op with
  | km n sz z ps=>
   simp only
   cases Qk d all with
   | false=>exact h1
   | true=>
    simp only[yx];rcases h1 with h1 | ⟨_,h1⟩
    .refine .inl ⟨?_,h1.dst,h1.ok,h1.guard⟩;obtain⟨k,hk⟩:=atk h1.op;exact .inr (.inr (.inr (.inr ⟨k,n,sz,z,ps,hk,rfl⟩)))
    .simp [bad] at h1
  | _=>exact h1
def DC(l:List xa):List Nat->List xa
 | []=>[]
 | x::r=>match l[x]? with | some o=>o::DC l r | none=>DC l r
def Wg{P:xp}{H:Hint}{ops:Array xa}{rs:List aV}{l:List xa}(h:gH P H ops rs l):∀(pm:List Nat),gH P H ops (Dy rs pm) (DC l pm)
 | []=>trivial
 | x::r=>by
  obtain⟨h1,h2⟩:=PB h;simp only[Dy,DC]
  cases hr:rs[x]? with
  | none=>
   have:l[x]? =GS:=by rw[List.getElem?_eq_none_iff] at hr ⊢;omega
   rw[this];exact Wg h r
  | some q=>
   have aG:=(xM.1 hr).1;have hl:l[x]? =GR (l[x]'(by omega)):=by rw[xn]
   rw[hl];exact⟨h2 x q _ hr hl,Wg h r⟩
def ade{l:List xa}:∀(pm:List Nat),(∀x,x∈pm->x<l.length)->(DC l pm).length=pm.length/\∀(i:Nat),(DC l pm)[i]? =(pm[i]?).bind (l[·]?)
 | [],_=>⟨rfl,fun i=>by simp[DC]⟩
 | x::r,h=>by
  have hx:=h x xJ;obtain⟨h1,h2⟩:=ade r (fun y hy=>h y (xr _ hy));have hl:l[x]? =GR l[x]:=by rw[xn]
  simp only[DC,hl];refine⟨by simp[h1],fun i=>?_⟩
  cases i with
  | zero=>simp[hl]
  | succ i=>simpa using h2 i
def abT{m:Nat}:∀(pm:List Nat) (k i:Nat),vM (Hg m pm k) i=ydB->k<=i/\∃x,pm[i-k]? =GR x/\vM m x=ydB
 | [],k,i,h=>by simp[Hg] at h
 | x::r,k,i,h=>by
  simp only[Hg,ycp,vU] at h;rcases h with h | h
  .cases hx:vM m x with
   | false=>simp[hx] at h
   | true=>
    simp only[hx,yx,Nat.testBit_two_pow,xj] at h;subst h;exact⟨yz _,x,by simp,hx⟩
  .obtain ⟨h1,y,h2,h3⟩:=abT r (k+1) i h;refine⟨by omega,y,?_,h3⟩;rw[show i-k=(i-(k+1))+1 by omega,yaZ];exact h2
def abU{ms pm all:List Nat}:∀(l:List Nat) (j:Nat),(Dg ms pm all l)[j]? =(l[j]?).map fun x=>Hg (ms.getD x 0) pm 0
 | [],j=>by simp[Dg]
 | x::r,0=>by simp[Dg]
 | x::r,j+1=>by simpa[Dg] using abU r j
def anB(h:KU n pm (AT pm n)=ydB):pm.length=n/\(∀x,x∈pm->x<n)/\KZ n (fun i=>pm.getD i i):=by
 simp only[KU,yf] at h;obtain⟨h1,h2⟩:=h;have hl:=yi h1;have CI:(AT pm n).length=n:=by simp[AT]
 have h3:∀i,i<n->pm.getD i i<n/\(AT pm n).getD i i<n/\(AT pm n).getD (pm.getD i i) i=i/\pm.getD ((AT pm n).getD i i) i=i:=fun i hi=>by
  have:=ybR.1 h2 i (tE.2 hi)
  simp only[yf] at this;obtain⟨a,b,c,d⟩:=this;exact⟨se.1 a,se.1 b,yi c,yi d⟩
 have out:∀i,n<=i->pm.getD i i=i:=fun i hi=>by rw[yV,List.getElem?_eq_none (by omega)];rfl
 generalize AT pm n=inv at h3 CI;have aiJ:∀(l:List Nat) (i a b:Nat),i<l.length->l.getD i a=l.getD i b:=fun l i a b hi=>by
  rw[yV,yV,xn hi];rfl
 refine⟨hl,fun x hx=>?_,⟨fun i j rL=>?_,fun x hx=>?_,fun i hi=>(h3 i hi).1⟩⟩
 .obtain ⟨i,hi,rfl⟩:=List.getElem_of_mem hx
  have:=(h3 i (by omega)).1
  rwa[yV,xn hi] at this
 .have rL:pm.getD i i=pm.getD j j:=rL;by_cases hi:i<n
  .by_cases hj:j<n
   .have a:=(h3 i hi).2.2.1;have b:=(h3 j hj).2.2.1;rw[rL] at a;rw[aiJ inv _ i j (by rw[CI];exact (h3 j hj).1)] at a
    exact a.symm.trans b
   .rw [out j (by omega)] at rL
    have:=(h3 i hi).1
    omega
  .by_cases hj:j<n
   .rw [out i (by omega)] at rL
    have:=(h3 j hj).1
    omega
   .rw [out i (by omega),out j (by omega)] at rL;exact rL
 .obtain ⟨_,b,_,d⟩:=h3 x hx;exact⟨_,b,by show pm.getD _ _=x;rw[aiJ pm _ _ x (by omega)];exact d⟩
def anC{H:Hint}{ops:Array xa}{rs:List aV}(cL:(rX ops.toList 0&&AI [] rs (mv [] ops.toList))=ydB)(Yh:gH P H ops rs ops.toList)(hv:dF Pp L Gl rs s=GR s'):
  ∃rs π,KZ ops.size π/\rX ops.toList 0=ydB/\(rs.length=ops.size/\∀(i:Nat) (r:aV) (o:xa),rs[i]? =GR r->ops[π i]? =GR o->FC P H ops r o\/(r.guard=GS/\r.op=bad))/\
    (∀(i j:Nat) (x y:aV),i<j->rs[i]? =GR x->rs[j]? =GR y->Ord ops (π i) (π j)\/FO x y ((rs.take j).drop (i+1)))/\dF Pp L Gl rs s=GR s':=by
 simp only[yf] at cL;obtain⟨hlen,ah⟩:=PB Yh;refine⟨rs,fun i=>i,⟨fun _ _ h=>h,fun x h=>⟨x,h,rfl⟩,fun _ h=>h⟩,cL.1,⟨by rw[hlen];simp,fun i r o hr ho=>ah i r o hr (by simpa using ho)⟩,fun i j x y rL hx hy=>?_,hv⟩
 obtain⟨mm,g1,g2⟩:=Ut (done:=[]) (i:=i) (j:=j) (a:=x) (b:=y) cL.2 (by simpa using hx) hy (by simpa using rL);refine g2.imp (fun g=>?_) (fun g=>by simpa using g);unfold Ord;rw[yV,g1];exact g
def anj{H:Hint}{ops:Array xa}{l:List aV}{Af:List Nat}(Gq:gH P H ops l ops.toList)(Z5:Dg (mv [] ops.toList) pm pm pm=Af)(q1:rX ops.toList 0=ydB)(q2:KU ops.size pm (AT pm ops.size)=ydB)(q3:AI [] (mS [] (Dy (Fu l l) pm) Af) Af=ydB)(hv:dF Pp L Gl (mS [] (Dy (Fu l l) pm) Af) s=GR s'):
  ∃rs π,KZ ops.size π/\rX ops.toList 0=ydB/\(rs.length=ops.size/\∀(i:Nat) (r:aV) (o:xa),rs[i]? =GR r->ops[π i]? =GR o->FC P H ops r o\/(r.guard=GS/\r.op=bad))/\
    (∀(i j:Nat) (x y:aV),i<j->rs[i]? =GR x->rs[j]? =GR y->Ord ops (π i) (π j)\/FO x y ((rs.take j).drop (i+1)))/\dF Pp L Gl rs s=GR s':=by
 obtain⟨hl,aG,hπ⟩:=anB q2;have h1:=G5 _ _ [] Af (Wg (ad4 (all:=l) _ _ Gq) pm);obtain⟨h2,h3⟩:=PB h1;obtain⟨h4,h5⟩:=ade (l:=ops.toList) pm (fun x hx=>by simpa using aG x hx);refine⟨_,_,hπ,q1,⟨by rw[h2,h4,hl],fun i r o hr ho=>h3 i r o hr ?_⟩,fun i j x y rL hx hy=>?_,hv⟩
 .have hi:i<pm.length:=by have:=(xM.1 hr).1;omega
  rw[h5,xn hi,wM];rw[yV,xn hi,wV] at ho;simpa using ho
 .have hj:j<pm.length:=by have:=(xM.1 hy).1;omega
  obtain⟨mm,g1,g2⟩:=Ut (done:=[]) (i:=i) (j:=j) (a:=x) (b:=y) q3 (by simpa using hx) hy (by simpa using rL);refine g2.imp (fun g=>?_) (fun g=>by simpa using g);rw[<-Z5,abU,xn hj,wS,yc] at g1;subst g1;obtain⟨_,z,g3,g4⟩:=abT _ _ _ g;unfold Ord
  rw[yV (l:=pm),xn hj,wV]
  rw[yV (l:=pm),show pm[i]? =GR z by simpa using g3,wV];exact g4
def ape{m:Mp}{w:yo}(hh:aU O m S w hp ct):Calm w {w with drawn:=w.drawn+1}:=⟨rfl,rfl,rfl,yz _,fun _ _=>rfl⟩
def avU(hO:jo O)(hC:qH O self)(h:Nat)(id:Nat)(ops:Array xa)(draw:Bool)(k:Nat)(hv:dF O.prog O.aK self (PR O.P (O.hint h) ops draw k).1 s=GR s'):DB O h (.region id ops draw) s .normal s':=by
 intro ro lo m S w a dj ht hh hb hn aY fU cy;unfold PR at hv;have Gq:=acj (P:=O.P) (H:=O.hint h) (ops:=ops) ops.toList k;generalize hq:E0 O.P (O.hint h) ops ops.toList k=q at hv Gq;obtain⟨l,k'⟩:=q;simp only at hv Gq;have post:∀{a':Act} {m':Mp} {S':Nat->Prop} {w':yo},aU O m' S' w' s'.hp s'.ct->s.ct<=s'.ct->cg O m' S' w' s'.tm a'.tmps->cr m S w s.hp m' S' w' s'.hp s.ct->a'.tmps.size=a.tmps.size->a'.defers=a.defers->s'.base=s.base->fC O m S w s .normal s' a.tmps.size lo .normal a' w':=by
  intro a' m' S' w' h1 h2 h3 h4 h5 h6 h7;exact⟨rfl,m',S',h3,h1,h7,by omega,h4.A1 hb,h5,by rw[h6];exact C7 hh h4 cy⟩
 cases draw with
 | false=>
  simp only[yS] at hv;refine wpIn_region ?_;rw[List.range_eq_range'];have hl:ops.size=ops.toList.length:=by simp
  rw[hl];exact afm hC (hO.hint h) ops.toList l 0 s s' a m S w (fun j=>by simp) Gq hv ht hh hn (fun a' m' S' w' h1 h2 h3 h4 h5 h6 h7=>post h1 h2 h3 h4 h5 h6 h7)
 | true=>
  simp only[yx] at hv;have Gr:∃rs π,KZ ops.size π/\rX ops.toList 0=ydB/\(rs.length=ops.size/\∀(i:Nat) (r:aV) (o:xa),rs[i]? =GR r->ops[π i]? =GR o->FC O.P (O.hint h) ops r o\/(r.guard=GS/\r.op=bad))/\
    (∀(i j:Nat) (x y:aV),i<j->rs[i]? =GR x->rs[j]? =GR y->Ord ops (π i) (π j)\/FO x y ((rs.take j).drop (i+1)))/\dF O.prog O.aK self rs s=GR s':=by
   have Yh:=G5 l ops.toList [] (mv [] ops.toList) Gq
   cases cL:(rX ops.toList 0&&AI [] (mS [] l (mv [] ops.toList)) (mv [] ops.toList)) with
   | true=>
    rw[cL] at hv;exact anC cL Yh hv
   | false=>
    rw[cL] at hv;simp only[yS] at hv;generalize hpm:places l (mv [] ops.toList)=pm at hv;generalize Z5:Dg (mv [] ops.toList) pm pm pm=Af at hv
    cases Ru:(rX ops.toList 0&&(KU ops.size pm (AT pm ops.size)&&AI [] (mS [] (Dy (Fu l l) pm) Af) Af)) with
    | false=>
     rw[Ru] at hv;simp[dF,bad,bc,fA,az] at hv
    | true=>
     rw[Ru] at hv;simp only[yx] at hv;simp only[yf] at Ru;obtain⟨q1,q2,q3⟩:=Ru;exact anj Gq Z5 q1 q2 q3 hv
  clear hv;obtain⟨rs,π,hπ,azR,⟨hlen,ah⟩,azS,hv⟩:=Gr
  .obtain ⟨bU,bK,bJ,vF,hR,e1,e2,e3,e4,e5,e6,e7⟩:=afn hv;have hG:AW O (O.hint h) self ops π rs bU bK bJ vF:=by
    refine⟨hR,hlen,fun i r o hr ho=>?_,azS,fun i o ho e he hbd=>?_⟩
    .rcases ah i r o hr ho with g | ⟨g1,g2⟩
     .exact g
     .have:=hR.step i r hr
      simp[fK,g1,sH,g2,bad,bc,fA,az] at this
    .have:=abz azR (j:=i) (o:=o) (by simpa using ho) e he hbd
     omega
   refine wpIn_region_any hO.mixed ?_;have LZ:=ape hh;have kQ:=ES hh LZ (S':=S) (fun _ h=>h) (fun _ h=>.inl h) hh.slt
   have To:cr m S w s.hp m S {w with drawn:=w.drawn+1} s.hp (bJ 0):=C9 hh LZ (fun _ h=>h) (fun _ h=>.inl h);obtain⟨c,c1,c2,c3,c4⟩:=WR rs rs.length 0 (by omega);have hg:∀k',k'<=c->j0 (bK 0) (bJ 0) (bK (0+k')) (bJ (0+k')):=fun k' p9=>
    Pe hR (by rw[e2,e3];exact hh.aG) k' (by omega) (fun j r g1 g2 hr=>KH hr (c3 j g1 (by omega)))
   have lY:=hg c (yz _);rw[yd] at lY;obtain⟨S1,g1,g2,g3,g4⟩:=Px (by rw[e2,e3];exact kQ:aU O m S {w with drawn:=w.drawn+1} (bK 0) (bJ 0)) lY
   have AU:∀i,(uK ops.size ydC).getD i ydC=ydB->False:=fun i hi=>by
    simp only[wm] at hi;by_cases aG:i<ops.size
    .simp [aG] at hi
    .rw [yaY (by simpa using aG)] at hi;simp at hi
   refine avT (m0:=m) (S0:=S) (w0:=w) (n0:=a.tmps.size) (d0:=a.defers) hC (hO.hint h) hG hπ hn (fun a' m' S' w' h1 h2 h3 h4 h5 h6=>?_) ops.size _ 0 c m S1 _ a (by simp) ?_ (fun j o _ hj=>(AU j hj).elim) ?_
   .rw [e5,e6] at h1;rw[e3,e6] at h2;rw[e4] at h3;rw[e2,e3,e5] at h4;exact post h1 h2 h3 h4 h5 h6 e7
   .unfold left;rw[List.countP_eq_length.2]
    .simp
    .intro i hi;simp only[ub]
     cases hq:(uK ops.size ydC).getD i ydC with
     | false=>rfl
     | true=>exact (AU i hq).elim
   .refine ⟨tL _,c2,fun i hi=>by omega,c3,c4.imp (fun h=>h) (fun h=>⟨h,fun hd=>AU _ hd⟩),fun i r _ _ _ hd=>AU _ hd,g1,fun id p hp=>.inl (by rw[e3];exact hh.lt id p hp),fun t=>⟨0,tL _,fun i r _ _=>⟨fun hd=>(AU _ hd).elim,fun h=>by omega⟩,?_⟩,?_,lY.zi,rfl,rfl,.inl rfl,fun j hj=>?_⟩
    .rw [e1];exact n8 (fun _ _ h=>h) (fun b hb=>g2 b hb) (fun b hb=>LZ.same b (hh.slt b hb)) _ _ (ht t)
    .rw [e2];have g5:=g4 (bJ 0);rw[e2] at g5;exact To.trans g5
    .have:=(hg j hj).lt
     rw[yd] at this;exact this
end
end
end
section
open Go
section
variable {ps:List Nat}{b l:Nat}{P:xp}
section
variable {O:bE}{m:Mp}{S:Nat->Prop}{w:yo}{hp:Hp}{ct:Nat}
def acn(hh:aU O m S w hp ct){g:Nat}{w':yo}(hw:One w w' g)(hg:¬S g)(ho:¬eO m hp g)(aY:O.w0.heap.size<=g):aU O m S w' hp ct:=by
 have aR:ic S w w':=fun b hb=>hw.other b (fun e=>hg (e▸hb))
 refine⟨fun id o p h1 h2=>?_,hh.lt,hh.inj,fun b hb=>by rw[hw.size];exact hh.slt b hb,fun id p h=>by rw[hw.size];exact hh.blt id p h,hh.low,fun b hb=>?_,by rw[hw.size];exact hh.ig,hh.aG⟩
 .exact AB (fun _ _ h=>h) (fun _ h=>h) aR (fun q hq=>hw.other _ (fun e=>ho ⟨id,o,q,h1,hq,e⟩)) (fun _ _ h=>h) (hh.obj id o p h1 h2)
 .rw [hw.other b (by lia)];exact hh.nI b hb
def aco{o:yaG}(h:w.heap[b]? =GR o)(hc:∀c t f,o≠.cells c t f):(getObj b).run P w=.ok o w:=by
 simp only[getObj,Sem.run,h]
def O1{o x:yaG}(h:w.heap[b]? =GR o)(hc:∀c t f,o≠.cells c t f):(setObj b x).run P w=.ok () {w with heap:=w.heap.setIfInBounds b x}:=by
 simp only[setObj,Sem.run,h]
def J9{r:tq}(h:w.heap[b]? =GR (.loop r)):(Instr.getLoop b).run P w=.ok r w:=by
 simp only[Instr.getLoop,Sem.run_bind,aco (P:=P) h (fun _ _ _=>by simp),Result.andThen_ok,Sem.run_pure]
def KI(hh:aU O m S w hp ct){st:Nat}{p:Pl}(hg:ah hp l=GR (.lp tm ps as_ body st pe))(hm:m l=GR p):
  ∃(r:tq) (h:Nat),w.heap[p.b]? =GR (.loop r)/\¬S p.b/\r.state=DI st/\st<=2/\r.pending=BV pe/\cg O m S w tm r.tmps/\r.params.toList=ps/\D6 O.P (O.hint h) as_ r.assign/\D6 O.P (O.hint h) body r.body/\
   (O.hint h).n<=r.tmps.size/\B5 (O.hint h).n ps=ydB:=by
 have⟨q,r,h,g1,g2,g3⟩:=hh.obj l _ p hg hm
 grind
def adf(hh:aU O m S w hp ct){st:Nat}{p:Pl}(hg:ah hp l=GR (.lp tm ps as_ body st pe))(hm:m l=GR p){r:tq}(hr:w.heap[p.b]? =GR (.loop r)){st':Nat}{pe':A0}(h2:st'<=2):
  aU O m S {w with heap:=w.heap.setIfInBounds p.b (.loop {r with state:=DI st',pending:=BV pe'})} (aJ hp l (.lp tm ps as_ body st' pe')) ct/\
  cr m S w hp m S {w with heap:=w.heap.setIfInBounds p.b (.loop {r with state:=DI st',pending:=BV pe'})} (aJ hp l (.lp tm ps as_ body st' pe')) ct:=by
 have⟨r',h,g1,g2,g3,g4,g5,g6,g7,g8,g9,g10,g11⟩:=KI hh hg hm;rw[hr] at g1;injection g1 with g1
 injection g1 with g1
 subst g1;have gW:=GX w p.b (.loop {r with state:=DI st',pending:=BV pe'})
 refine Ks hh hg hm g2 gW ⟨p,{r with state:=DI st',pending:=BV pe'},h,hm,OX hr,g2,rfl,h2,rfl,?_,g7,g8,g9,g10,g11⟩ (fun _ _=>⟨_,OX hr⟩);exact C6 (fun _ _ h=>h) (fun _ h=>h) (fun b hb=>gW.other b (fun e=>g2 (e▸hb))) g6
def adg{n:Nat}:∀{ps:List Nat} {vs:List AV} {us:List ym} {tm tm':Env} {tmps:Array ym},zQ tm ps vs=GR tm'->aA O.ae m S w vs us->cg O m S w tm tmps->n<=tmps.size->B5 n ps=ydB->
  ps.length=us.length/\cg O m S w tm' ((ps.zip us).foldl (fun t (x:Nat×ym)=>t.setIfInBounds x.1 x.2) tmps)/\((ps.zip us).foldl (fun t (x:Nat×ym)=>t.setIfInBounds x.1 x.2) tmps).size=tmps.size
 | [],[],us,tm,tm',tmps,h,hr,ht,hn,ha=>by
  simp only[zQ,yc] at h;simp only[aA] at hr
  simp_all
 | [],_::_,us,tm,tm',tmps,h,hr,ht,hn,ha=>by simp[zQ] at h
 | _::_,[],us,tm,tm',tmps,h,hr,ht,hn,ha=>by simp[zQ] at h
 | p::ps,v::vs,us,tm,tm',tmps,h,hr,ht,hn,ha=>by
  simp only[zQ] at h;obtain⟨u,t,rfl,h1,h2⟩:=hr;simp only[B5,yf] at ha;have hp:=se.1 ha.1;have ht1:cg O m S w ((p,v)::tm) (tmps.setIfInBounds p u):=VK (a:=⟨tmps,[]⟩) (d:=GR p) ht (fun i hi=>by injection hi with hi;show i<tmps.size;lia) h1
  have⟨g1,g2,g3⟩:=adg (n:=n) h h2 ht1 (by simpa using hn) ha.2
  simp_all
def aq3(ps:Array Tmp)(args:Array ym)(tmps:Array ym):(ps.zip args).foldl (fun tmps (x:Tmp×ym)=>tmps.setIfInBounds x.1 x.2) tmps=(ps.toList.zip args.toList).foldl (fun t (x:Nat×ym)=>t.setIfInBounds x.1 x.2) tmps:=by
 rw[<-Array.foldl_toList,Array.toList_zip]
def ank{r:tq}(h:w.heap[b]? =GR (.loop r))(jump:Option vD):
  (Instr.endRound b jump).run P w=.ok (.bool jump.isNone) {w with heap:=w.heap.setIfInBounds b (.loop {r with state:=if jump.isNone then .ready else .done,pending:=jump})}:=by
 simp only[Instr.endRound,Sem.run_bind,J9 h,Result.andThen_ok,O1 (P:=P) h (fun _ _ _=>by simp),Sem.run_pure]
def am6{r:tq}(h:w.heap[b]? =GR (.loop r))(hs:r.state=.ready):
  (Instr.beginRound b).run P w=.ok () {w with heap:=w.heap.setIfInBounds b (.loop {r with state:=.busy})}:=by
 simp only[Instr.beginRound,Sem.run_bind,J9 h,Result.andThen_ok,O1 (P:=P) h (fun _ _ _=>by simp),hs,Sem.run_pure]
def aq4(hS:∀v s ex s',self v s=GR (ex,s')->∀c h l k,(comp O.P (O.hint h) c l k).1=v->DB O h c s ex s'){xs:List AV}(hv:kG self hp ct l xs=GR (v,ap,aQ)):af9 O hp ct l xs v ap aQ:=by
 intro m S w args p hh hm fF;unfold kG at hv
 split at hv
 case h_2=>cases hv
 rename_i tm ps as_ body pe hg;have⟨r,h,g1,g2,g3,g4,g5,g6,g7,⟨ca,ka,g8⟩,⟨cb,kb,g9⟩,g10,g11⟩:=KI hh hg hm
 cases hb:zQ tm ps xs with
 | none=>simp[hb] at hv
 | some tm'=>
  simp only[hb] at hv;have⟨b1,b2,b3⟩:=adg hb fF g6 g10 g11;rw[<-g7] at b1 b2 b3;have eZ:args.size=r.params.size:=by
   grind
  let tmps:Array ym:=(r.params.zip args).foldl (fun tmps (x:Tmp×ym)=>tmps.setIfInBounds x.1 x.2) r.tmps
  have aiK:tmps=(r.params.toList.zip args.toList).foldl (fun t (x:Nat×ym)=>t.setIfInBounds x.1 x.2) r.tmps:=aq3 _ _ _;refine⟨r.fn,tmps,r.assign,r.body,?_,?_⟩
  .simp only [Instr.yield,Sem.run_bind,J9 g1,Result.andThen_ok,eZ,uO,ydv,xv,Sem.run_pure];rfl
  refine roundIn_of_wpIn (F:=Fence.wide) trivial ?_
  cases h1:self as_ ⟨tm',hp,ct,ct⟩ with
  | none=>simp[h1] at hv
  | some q=>
   have⟨ex1,s1⟩:=q
   cases ex1 with
   | ret=>simp[h1] at hv
   | exit id=>simp[h1] at hv
   | normal=>
    simp only[h1] at hv;have fk:=hS _ _ _ _ h1 r.assign h ca ka g8;have dj:∀w',cr m S w hp m S w' hp ct->BW (GR p.b) w':=fun w' hf=>Pg hf (fun l hl=>⟨r,by injection hl with hl;subst hl;exact g1⟩)
    refine wpIn_mono (fk (GR p.b) w.heap.size m S w ⟨tmps,[]⟩ (dj w cr.refl) (by rw[aiK];exact b2) hh (yz _) (by show _<=tmps.size;rw[aiK,b3];exact g10) hh.ig (yz _) ⟨[],rfl,by simp,by simp⟩) ?_
    rintro e a1 w1 ⟨rfl,m1,S1,k1,k2,k3,k4,k5,k6,k7⟩;simp only[zX,Exit.then];have zj:m1 l=GR p:=k5.old l p (hh.lt l p hm) hm
    split at hv
    case h_2=>cases hv
    rename_i jC Bj D4 Fv ze lY;have⟨r1,kQ,f1,f2,f3,f4,f5,f6,f7,f8,f9,f10,f11⟩:=KI k2 lY zj;have Z6:=am6 (P:=O.P) f1 f3;have⟨q1,q2⟩:=adf k2 lY zj f1 (st':=1) (pe':=ze) (by lia)
    have fD:({r1 with state:=DI 1,pending:=BV ze}:tq)={r1 with state:=.busy}:=by rw[<-f5];rfl
    rw[fD] at q1 q2;refine⟨_,Z6,?_⟩
    cases h2:self body ⟨s1.tm,aJ s1.hp l (.lp jC Bj D4 Fv 1 ze),s1.ct,s1.ct⟩ with
    | none=>simp[h2] at hv
    | some q=>
     have⟨ex,s2⟩:=q;simp only[h2] at hv;have Eb:=hS _ _ _ _ h2 r.body h cb kb g9
     have aBP:BW (GR p.b) {w1 with heap:=w1.heap.setIfInBounds p.b (.loop {r1 with state:=.busy})}:=fun l hl=>by
      grind
     have Z7:cg O m1 S1 {w1 with heap:=w1.heap.setIfInBounds p.b (.loop {r1 with state:=.busy})} s1.tm a1.tmps:=
      C6 (fun _ _ h=>h) (fun _ h=>h) (fun b hb=>q2.still b hb) k1
     have aBQ:(O.hint h).n<=a1.tmps.size:=by
      grind
     refine wpIn_mono (Eb (GR p.b) w.heap.size m1 S1 _ a1 aBP Z7 q1 (yz _) aBQ hh.ig (y7 k5.size q2.size) (C7 k2 q2 k7)) ?_;rintro e a2 w2 ⟨rfl,m2,S2,j1,j2,j3,j4,j5,j6,j7⟩;have NH:m2 l=GR p:=j5.old l p (k2.lt l p zj) zj
     split at hv
     case h_2=>cases hv
     rename_i rz Cz Nv LV pe2 Aj;have⟨r2,NI,d1,d2,d3,d4,d5,d6,d7,d8,d9,d10,d11⟩:=KI j2 Aj NH;have aBR:cr m S w hp m2 S2 w2 s2.hp ct:=(k5.trans (q2.A1 k4)).trans (j5.A1 k4);have aiL:ct<=s2.ct:=y7 k4 j4;have fin:∀(jump:Option vD) (st':Nat) (pe':A0),BV pe'=jump->DI st'=(if jump.isNone then .ready else .done)->st'<=2->
       ∃v' w',(Instr.endRound p.b jump).run O.P w2=.ok v' w'/\BN O m S w hp ct (.bool jump.isNone) (aJ s2.hp l (.lp rz Cz Nv LV st' pe')) s2.ct (.returned v') w':=by
      intro jump st' pe' e1 e2 e3;have⟨z1,z2⟩:=adf j2 Aj NH d1 (st':=st') (pe':=pe') e3;rw[e1,e2] at z1 z2;exact⟨_,_,ank d1 jump,_,m2,S2,rfl,z1,aiL,by simp[af],aBR.trans (z2.A1 aiL)⟩
     cases ex with
     | normal=>
      simp only[yc,yr] at hv;obtain⟨rfl,rfl,rfl⟩:=hv;simp only[zX,roundPost];exact fin GS 0 .none rfl rfl (by lia)
     | ret=>
      simp only[WK,yc,yr] at hv;obtain⟨rfl,rfl,rfl⟩:=hv;simp only[zX,roundPost];exact fin (GR .ret) 2 .ret rfl rfl (by lia)
     | exit id=>
      simp only[WK,yc,yr] at hv;obtain⟨rfl,rfl,rfl⟩:=hv;simp only[zX,roundPost];exact fin (GR (.exit id)) 2 (.exit id) rfl rfl (by lia)
end
end
end
section
open Go
section
variable {O:bE}{self:cp}
def G6{P:xp}{f:yah}{fn:ybc}{args:Array ym}{w:yo}(hf:P.funcs[f]? =GR fn)(hb:fn.body.isSome=ydB)(hn:fn.name≠ "runtime.NumGoroutine"):(callFunc f args).run P w=.ok (.enter f args) w:=by
 have h1:fn.body≠GS:=fun e=>by rw[e] at hb;cases hb
 simp[callFunc,program,Sem.run,hf,h1,hn]
def UC{P:xp}{H:Hint}{fn:ybc}{F:aw}(h:Hi P H fn=GR F):∃c,fn.body=GR c/\F.body=(comp P H c 0 0).1/\sd P fn.results.toList=GR F.dC/\H.n<=fn.ntmps:=by
 unfold Hi at h
 split at h
 .rename_i c rs h1 h2
  cases hb:yG H.n fn.ntmps with
  | false=>rw[hb] at h;cases h
  | true=>
   rw[hb] at h;simp only[yx,yc] at h;subst h
   simp_all
 .cases h
def aq5{m:Mp}{w:yo}{a:Act}(fn:yah)(ps:Array Tmp)(assign body:vD){h:Nat}(hh:aU O m S w hp ct)(ht:cg O m S w tm a.tmps)(dj:BW ro w)(Z8:D6 O.P (O.hint h) as_ assign)(Z9:D6 O.P (O.hint h) b' body)(hn:(O.hint h).n<=a.tmps.size)(jQ:B5 (O.hint h).n ps.toList=ydB){lo:Nat}(fU:lo<=w.heap.size)(cy:Marks lo S w a.defers):
  ∃l mark w1,(Instr.enterLoop fn a.tmps ps assign body ro).run O.P w=.ok (l,mark) w1/\aU O (gn m ct ⟨l,0,0,0⟩) S w1 ((ct,.lp tm ps.toList as_ b' 0 .none)::hp) (ct+1)/\
   cr m S w hp (gn m ct ⟨l,0,0,0⟩) S w1 ((ct,.lp tm ps.toList as_ b' 0 .none)::hp) ct/\m ct=GS/\Marks lo S w1 (mark++a.defers)/\w.heap.size<=l:=by
 have bM:m ct=GS:=by
  cases hq:m ct with
  | none=>rfl
  | some p=>have:=hh.lt ct p hq;omega
 have lay:∀(w':yo) (d:Nat),Calm w w'->Marks lo S w' a.defers->
   aU O (gn m ct ⟨w'.heap.size,0,0,0⟩) S (w'.alloc (.loop {state:=.ready,pending:=GS,fn:=fn,tmps:=a.tmps,params:=ps,assign:=assign,body:=body,defers:=d})) ((ct,.lp tm ps.toList as_ b' 0 .none)::hp) (ct+1)/\
   cr m S w hp (gn m ct ⟨w'.heap.size,0,0,0⟩) S (w'.alloc (.loop {state:=.ready,pending:=GS,fn:=fn,tmps:=a.tmps,params:=ps,assign:=assign,body:=body,defers:=d})) ((ct,.lp tm ps.toList as_ b' 0 .none)::hp) ct:=by
  intro w' d hw aiM;have kQ:aU O m S w' hp ct:=ES hh hw (fun _ h=>h) (fun _ h=>.inl h) (fun b hb=>yF (hh.slt b hb) hw.size);have To:cr m S w hp m S w' hp ct:=C9 hh hw (fun _ h=>h) (fun _ h=>.inl h);have hg:j0 hp ct ((ct,.lp tm ps.toList as_ b' 0 .none)::hp) (ct+1):=by
   refine⟨fun id o ho=>⟨o,?_,kP.refl o⟩,by omega,fun id o ho=>?_,fun id o ho hi=>?_⟩
   .rw [iU,yq (by have:=hh.aG id o ho;omega)];exact ho
   .rw [iU] at ho;by_cases hc:ct=id
    .omega
    .simp only [hc,xv] at ho;have:=hh.aG id o ho;omega
   .rw [iU,yq (by omega)] at ho;exact⟨o,ho⟩
  have cA:∀i q,ah ((ct,Obj.lp tm ps.toList as_ b' 0 .none)::hp) i=GR q->i≠ct->ah hp i=GR q:=fun i q h hi=>by
   rw[iU,yq (fun e=>hi e.symm)] at h;exact h
  have NI:aU O m S w' ((ct,.lp tm ps.toList as_ b' 0 .none)::hp) (ct+1):=by
   have bL:∀id p,m id=GR p->id≠ct:=fun id p hm e=>by have:=hh.lt id p hm;omega
   exact⟨fun id o p ho hm=>kQ.obj id o p (cA id o ho (bL id p hm)) hm,fun id p hm=>by have:=hh.lt id p hm;omega,
    fun i j oi oj pi pj hi hj bM iJ e=>kQ.inj i j oi oj pi pj (cA i oi hi (bL i pi bM)) (cA j oj hj (bL j pj iJ)) bM iJ e,kQ.slt,kQ.blt,kQ.low,kQ.nI,kQ.ig,hg.lt⟩
  have rH:gl O (gn m ct ⟨w'.heap.size,0,0,0⟩) S (w'.alloc (.loop {state:=.ready,pending:=GS,fn:=fn,tmps:=a.tmps,params:=ps,assign:=assign,body:=body,defers:=d})) ct (.lp tm ps.toList as_ b' 0 .none):=by
   refine⟨⟨w'.heap.size,0,0,0⟩,_,h,eB,heap_alloc_new w' _,?_,rfl,by omega,rfl,?_,rfl,Z8,Z9,hn,jQ⟩
   .intro hS
    have:=kQ.slt _ hS
    simp at this
   .exact C6 (mh bM) (fun _ h=>h) (fun b hb=>(Kc kQ _ b hb).trans (hw.same b (hh.slt b hb))) ht
  obtain⟨S',k1,k2,k3⟩:=adR (i:=ct) (p:=⟨w'.heap.size,0,0,0⟩) NI bM (by omega) rfl (fun o ho=>by
   rw[iU] at ho;simp only[xN,yc] at ho;subst ho
   exact .inl ⟨rH,by simp[kY]⟩)
  have k1':aU O (gn m ct ⟨w'.heap.size,0,0,0⟩) S (w'.alloc (.loop {state:=.ready,pending:=GS,fn:=fn,tmps:=a.tmps,params:=ps,assign:=assign,body:=body,defers:=d})) ((ct,.lp tm ps.toList as_ b' 0 .none)::hp) (ct+1):=by
   have NB:∀id q,m id=GR q->q.b≠w'.heap.size:=fun id q hq=>by have:=kQ.blt id q hq;lia
   refine⟨?_,k1.lt,k1.inj,fun b hb=>k1.slt b (k2 b hb),k1.blt,k1.low,k1.nI,k1.ig,k1.aG⟩;intro id o q ho hm;by_cases hc:id=ct
   .subst hc;rw[iU] at ho
    grind
   .rw [eX hc] at hm;exact AB (mh bM) (fun _ h=>h) (Kc kQ _) (fun q' bR=>alloc_old (kQ.blt id q' bR)) (fun _ _ h=>h) (kQ.obj id o q (cA id o ho hc) hm)
  refine⟨k1',To.trans ⟨rfl,rfl,rfl,by simp,fun b hb _=>alloc_old hb,fun _ h=>h,fun b hb=>Kc kQ _ b hb,fun b hb=>.inl hb,?_,fun i q _ hq=>mh bM i q hq,fun b r hb=>⟨r,(alloc_old (xx.1 hb).1).trans hb⟩⟩⟩;rintro b ⟨i,o,q,g1,g2,g3⟩;by_cases hc:i=ct
  .subst hc;rw[eB] at g2
   grind
  .rw [eX hc] at g2;exact .inl ⟨i,o,q,cA i o g1 hc,g2,g3⟩
 cases ro with
 | none=>
  have LZ:Calm w (w.alloc (.deferred (GR []))):=⟨rfl,rfl,rfl,by simp,fun b hb=>alloc_old hb⟩;have⟨rs,r1,r2,r3⟩:=cy;have aBS:Marks lo S (w.alloc (.deferred (GR []))) a.defers:=⟨rs,r1,r2,fun r hr=>⟨(alloc_old (xx.1 (r3 r hr).1).1).trans (r3 r hr).1,(r3 r hr).2⟩⟩;have⟨k1,k2⟩:=lay (w.alloc (.deferred (GR []))) w.heap.size LZ aBS
  refine⟨(w.alloc (.deferred (GR []))).heap.size,[{target:=.collected w.heap.size,args:=#[]}],_,?_,k1,k2,bM,?_,by simp⟩
  .simp [Instr.enterLoop,newObj,Sem.run]
  .have hold:∀(b:Nat) (x:yaG),(w.alloc (.deferred (GR []))).heap[b]? =GR x->((w.alloc (.deferred (GR []))).alloc (.loop {state:=.ready,pending:=GS,fn:=fn,tmps:=a.tmps,params:=ps,assign:=assign,body:=body,defers:=w.heap.size})).heap[b]? =GR x:=fun b x hb=>
    (alloc_old (xx.1 hb).1).trans hb
   refine⟨w.heap.size::rs,by rw[r1];rfl,?_,?_⟩
   .grind
   .intro r hr;rcases we.1 hr with rfl | hr
    .exact ⟨hold _ _ (heap_alloc_new w _),fun hs=>by have:=hh.slt _ hs;lia,fU⟩
    .exact ⟨hold _ _ ((alloc_old (xx.1 (r3 r hr).1).1).trans (r3 r hr).1),(r3 r hr).2⟩
 | some l0=>
  have⟨r0,lA⟩:=dj l0 rfl;have⟨k1,k2⟩:=lay w r0.defers Calm.refl cy;refine⟨w.heap.size,[],_,?_,k1,k2,bM,?_,yz _⟩
  .simp [Instr.enterLoop,J9 lA,newObj,Sem.run]
  .exact C7 hh k2 cy
def azT(hO:jo O)(hC:qH O self){h:Nat}{f:xz}{ps:Array Tmp}{assign body:vD}(Z8:D6 O.P (O.hint h) as_ assign)(Z9:D6 O.P (O.hint h) b' body)(jQ:B5 (O.hint h).n ps.toList=ydB){s:St}{ex:Ex}(hv:bI O.prog O.aK self (.rf (aO (O.hint h) f) ps.toList as_ b') s=GR (ex,s')):DB O h (.rangeFunc f ps assign body) s ex s':=by
 intro ro lo m S w a dj ht hh hb hn aY fU cy;simp only[bI] at hv
 split at hv
 case h_2=>cases hv
 rename_i n first cap hx
 split at hv
 case h_1=>cases hv
 rename_i hL
 cases he:jZ O.prog O.aK self ((s.ct,.lp s.tm ps.toList as_ b' 0 .none)::s.hp) (s.ct+1) n (first++(.fn (.y s.ct) [] []::cap)) with
 | none=>simp[he] at hv
 | some q=>
  have⟨v,aZ,rK⟩:=q;simp only[he] at hv
  split at hv
  case h_2=>cases hv
  rename_i rz Cz Nv LV st pe Aj
  cases aR:yu st 1 with
  | true=>rw[aR] at hv;cases hv
  | false=>
   rw[aR] at hv;simp only[yS] at hv;refine wpIn_rangeFunc (fun fn _=>?_);have⟨l,mark,w1,e1,e2,e3,e4,e5,e6⟩:=aq5 (ro:=ro) fn ps assign body hh ht dj Z8 Z9 hn jQ fU cy;have rf:=cl (hO.hint h) ht f;rw[hx] at rf;simp only[af] at rf;have⟨fi,ca,hf,r2,r3⟩:=rf;have hle:=mh e4 (p:=⟨l,0,0,0⟩);have HY:ic S w w1:=fun b hb=>e3.still b hb
   have fF:aA O.ae (gn m s.ct ⟨l,0,0,0⟩) S w1 (first++(.fn (.y s.ct) [] []::cap)) (fi++#[Value.func (.yield l) #[] #[]]++ca).toList:=by
    have:=nZ (jM hle (fun _ h=>h) HY _ _ r2) (nZ (a:=[.fn (.y s.ct) [] []]) (x:=[Value.func (.yield l) #[] #[]]) (by
     simp only[aA]
     exact⟨_,[],rfl,by simp only[af];exact⟨_,eB,rfl⟩,rfl⟩) (jM hle (fun _ h=>h) HY _ _ r3))
    grind
   have Xt:=hC.heap _ _ _ _ _ _ _ he _ S w1 _ e2 fF;have hP:∃F,O.prog n=GR F:=by
    unfold jZ at he;rw[hL] at he
    cases hq:O.prog n with
    | none=>simp[hq] at he
    | some F=>exact⟨F,rfl⟩
   have⟨F,hF⟩:=hP;have⟨fn',q1,q2,q3⟩:=hO.prog n F hF;have⟨cb,q4,_⟩:=UC q2;have gA:(callFunc (O.ae n) (fi++#[Value.func (.yield l) #[] #[]]++ca)).run O.P w1=.ok (.enter (O.ae n) (fi++#[Value.func (.yield l) #[] #[]]++ca)) w1:=G6 q1 (by rw[q4];rfl) q3
   refine⟨l,mark,w1,{target:=.fn (.func (O.ae n)) ca,args:=fi++#[Value.func (.yield l) #[] #[]]},w1,O.ae n,fi++#[Value.func (.yield l) #[] #[]]++ca,w1,e1,?_,fun _ _=>trivial,?_,fun hd=>by simp[WF,Fence.wide] at hd,?_⟩
   .show Sem.run O.P (Deferred.ofValue (a.eval f) _) w1=_
    rw[hf];simp[Deferred.ofValue,Act.eval]
   .simp only [invoke];exact gA
   .rcases Xt with ⟨_,Xt⟩ | ⟨u,w',h1,_⟩
    case inr=>rw[gA] at h1;cases h1
    have avV:CallsIn (WF ro) 0 O.P (O.ae n) (fi++#[Value.func (.yield l) #[] #[]]++ca) w1 (BN O (gn m s.ct ⟨l,0,0,0⟩) S w1 ((s.ct,.lp s.tm ps.toList as_ b' 0 .none)::s.hp) (s.ct+1) v aZ rK):=Xt;refine CallsIn.mono avV ?_;rintro e w3 ⟨u,m',S',rfl,k1,k2,k3,k4⟩;have kD:m' s.ct=GR ⟨l,0,0,0⟩:=k4.old s.ct _ (yca _) eB;have⟨r,NI,d1,d2,d3,d4,d5,d6,_⟩:=KI k1 Aj kD;have Bs:(r.state==LoopState.busy)=ydC:=by
     rw[d3];rcases st with _ | _ | st
     .rfl
     .simp_all
     .have:st=0:=by lia
      subst this;rfl
    have gW:=GX w3 l (.loop {r with state:=.exhausted});have hdl:=adZ k1 s.ct;have rI:¬eO m' (cS aZ s.ct) l:=abO k1 Aj kD
    have z1:aU O m' S' {w3 with heap:=w3.heap.setIfInBounds l (.loop {r with state:=.exhausted})} (VE.cS aZ s.ct) rK:=acn hdl gW d2 rI (by have:=hh.ig;lia)
    have z2:cr m' S' w3 aZ m' S' {w3 with heap:=w3.heap.setIfInBounds l (.loop {r with state:=.exhausted})} (VE.cS aZ s.ct) s.base:=by
     refine⟨rfl,rfl,rfl,by rw[gW.size];exact yz _,fun b _ hb=>gW.other b (fun e=>hb (e▸KW Aj kD)),fun _ h=>h,fun b hb=>gW.other b (fun e=>d2 (e▸hb)),fun b hb=>.inl hb,fun b hb=>.inl (afk hb),fun _ _ _ h=>h,fun b x hb=>?_⟩
     grind
    have Yi:cr m S w s.hp m' S' {w3 with heap:=w3.heap.setIfInBounds l (.loop {r with state:=.exhausted})} (VE.cS aZ s.ct) s.base:=
     ((e3.A1 hb).trans (k4.A1 (by lia))).trans z2
    have Rv:(Instr.endLoop l).run O.P w3=.ok (BV pe) {w3 with heap:=w3.heap.setIfInBounds l (.loop {r with state:=.exhausted})}:=by
     simp only[Instr.endLoop,Sem.run_bind,J9 d1,Result.andThen_ok,Bs,yD,xv,Sem.run_pure,O1 (P:=O.P) d1 (fun _ _ _=>by simp),d5]
    have aiM:Marks lo S' {w3 with heap:=w3.heap.setIfInBounds l (.loop {r with state:=.exhausted})} (mark++a.defers):=C7 k1 z2 (C7 e2 k4 e5)
    have Ak:cg O m' S' {w3 with heap:=w3.heap.setIfInBounds l (.loop {r with state:=.exhausted})} s.tm a.tmps:=by
     refine C6 (fun id p hp=>?_) Yi.sub (fun b hb=>Yi.still b hb) ht;have h1:=hh.lt id p hp;exact k4.old id p (by lia) (hle id p hp)
    have post:∀ex',s'={s with hp:=VE.cS aZ s.ct,ct:=rK}->ex=ex'->fC O m S w s ex s' a.tmps.size lo (zX ex') {a with defers:=mark++a.defers} {w3 with heap:=w3.heap.setIfInBounds l (.loop {r with state:=.exhausted})}:=by
     rintro ex' rfl rfl;exact⟨rfl,m',S',Ak,z1,rfl,by show s.base<=rK;lia,Yi,rfl,aiM⟩
    refine⟨_,_,Rv,?_⟩
    cases pe with
    | none=>
     simp only[yc,yr] at hv;exact post .normal hv.2.symm hv.1.symm
    | ret=>
     simp only[yc,yr] at hv;exact wpIn_ret (post .ret hv.2.symm hv.1.symm)
    | exit id=>
     simp only[yc,yr] at hv;exact wpIn_exit (post (.exit id) hv.2.symm hv.1.symm)
end
end
def Le(f g:cp):Prop:=∀c s r,f c s=GR r->g c s=GR r
section
variable {P:aE}{L:Lib}{f g:cp}
def Ur(h:Le f g)(n:Nat)(ax:List AV)(r:AV)(hr:bZ P L f n ax=GR r):bZ P L g n ax=GR r:=by
 unfold bZ at hr ⊢
 cases hL:L.pure n with
 | some sp=>simpa only[hL] using hr
 | none=>
  simp only[hL] at hr ⊢
  cases hP:P n with
  | none=>simp[hP] at hr
  | some F=>
   simp only[hP] at hr ⊢
   cases hf:f F.body ⟨fw 0 ax,[],0,0⟩ with
   | none=>simp[hf] at hr
   | some q=>rw[h _ _ _ hf];simpa only[hf] using hr
def UD(h:Le f g)(hp:Hp)(ct:Nat)(n:Nat)(ax:List AV)(r:AV×Hp×Nat)(hr:jZ P L f hp ct n ax=GR r):jZ P L g hp ct n ax=GR r:=by
 unfold jZ at hr ⊢
 cases hL:L.heap n with
 | some sp=>simpa only[hL] using hr
 | none=>
  simp only[hL] at hr ⊢
  cases hP:P n with
  | none=>simp[hP] at hr
  | some F=>
   simp only[hP] at hr ⊢
   cases hf:f F.body ⟨fw 0 ax,hp,ct,ct⟩ with
   | none=>simp[hf] at hr
   | some q=>rw[h _ _ _ hf];simpa only[hf] using hr
def abF(h:Le f g)(hp:Hp)(ct:Nat)(l:Nat)(xs:List AV)(r:AV×Hp×Nat)(hr:kG f hp ct l xs=GR r):kG g hp ct l xs=GR r:=by
 unfold kG at hr ⊢
 cases hl:ah hp l with
 | none=>simp[hl] at hr
 | some o=>
  simp only[hl] at hr ⊢
  split at hr
  .rename_i tm ps as_ body pe Al
   cases hb:zQ tm ps xs with
   | none=>simp[hb] at hr
   | some tm'=>
    simp only[hb] at hr ⊢
    cases h1:f as_ ⟨tm',hp,ct,ct⟩ with
    | none=>simp[h1] at hr
    | some q=>
     rw[h _ _ _ h1];simp only[h1] at hr ⊢
     split at hr
     .rename_i s1 aBT
      split at hr
      .rename_i jC Bj D4 Fv ze aBU
       cases h2:f body ⟨s1.tm,aJ s1.hp l (.lp jC Bj D4 Fv 1 ze),s1.ct,s1.ct⟩ with
       | none=>simp[h2] at hr
       | some q2=>rw[h _ _ _ h2];simpa only[h2] using hr
      .simp at hr
     .simp at hr
  .simp at hr
def abV(h:Le f g)(hp:Hp)(ct:Nat)(m:Md)(fv:AV)(xs:List AV)(r:AV×Hp×Nat)(hr:fA P L f hp ct m fv xs=GR r):fA P L g hp ct m fv xs=GR r:=by
 unfold fA at hr ⊢
 split at hr
 .rename_i n first cap
  cases m with
  | pure=>
   cases hz:cD deep hp (first++(xs++cap)) with
   | none=>simp[hz] at hr
   | some q=>
    simp only[hz] at hr ⊢
    cases hc:bZ P L f n q.1 with
    | none=>simp[hc] at hr
    | some u=>rw[Ur h n q.1 u hc];simpa only[hc] using hr
  | own=>
   cases hz:cD deep hp (first++(xs++cap)) with
   | none=>simp[hz] at hr
   | some q=>
    simp only[hz] at hr ⊢
    cases hc:bZ P L f n q.1 with
    | none=>simp[hc] at hr
    | some u=>rw[Ur h n q.1 u hc];simpa only[hc] using hr
  | heap=>exact UD h _ _ _ _ _ hr
  | dyn=>
   cases hz:aF (first++(xs++cap)) with
   | true=>
    simp only[hz,yx] at hr ⊢
    cases hc:bZ P L f n (first++(xs++cap)) with
    | none=>simp[hc] at hr
    | some u=>rw[Ur h n _ u hc];simpa only[hc] using hr
   | false=>
    simp only[hz,yS] at hr ⊢;exact UD h _ _ _ _ _ hr
 .split at hr
  .exact abF h _ _ _ _ _ hr
  .exact abF h _ _ _ _ _ hr
  .simp at hr
 .simp at hr
def adh(h:Le f g)(tm:Env)(hp:Hp)(ct:Nat)(o:Op)(r:AV×Hp×Nat)(hr:bc P L f tm hp ct o=GR r):bc P L g tm hp ct o=GR r:=by
 unfold bc at hr ⊢
 split at hr
 .exact abV h _ _ _ _ _ _ hr
 .rename_i rs fv xs
  cases hc:fA P L f hp ct .dyn (az tm fv) (dV tm xs) with
  | none=>simp[hc] at hr
  | some q=>rw[abV h _ _ _ _ _ _ hc];simpa only[hc] using hr
 all_goals simpa only using hr
def O2(h:Le f g):∀(ops:List aV) (s s':St),dF P L f ops s=GR s'->dF P L g ops s=GR s'
 | [],s,s',hr=>by simpa only[dF] using hr
 | ⟨d,gd,o⟩::r,s,s',hr=>by
  simp only[dF] at hr ⊢
  split at hr
  .rename_i hw
   cases ho:bc P L f s.tm s.hp s.ct o with
   | none=>simp[ho] at hr
   | some q=>rw[adh h _ _ _ _ _ ho];simp only[ho] at hr ⊢;exact O2 h r _ _ hr
  .rename_i hw
   (try simp only[hw]);exact O2 h r _ _ hr
  .simp at hr
def zD(h:Le f g):∀(c:VC) (s:St) (r:Ex×St),bI P L f c s=GR r->bI P L g c s=GR r
 | .skip,s,r,hr=>by simpa only[bI] using hr
 | .jA ops,s,r,hr=>by
  simp only[bI] at hr ⊢
  cases ho:dF P L f ops s with
  | none=>simp[ho] at hr
  | some s'=>rw[O2 h _ _ _ ho];simpa only[ho] using hr
 | .seq a b,s,r,hr=>by
  simp only[bI] at hr ⊢
  cases ha:bI P L f a s with
  | none=>simp[ha] at hr
  | some q=>
   rw[zD h a s q ha];obtain⟨ex,s1⟩:=q
   cases ex with
   | normal=>simp only[ha] at hr ⊢;exact zD h b s1 r hr
   | ret=>simpa only[ha] using hr
   | exit id=>simpa only[ha] using hr
 | .cond x a b,s,r,hr=>by
  simp only[bI] at hr ⊢
  split at hr
  .rename_i t ht
   cases t with
   | true=>simp only[yx] at hr ⊢;exact zD h a s r hr
   | false=>simp only[yS] at hr ⊢;exact zD h b s r hr
  .simp at hr
 | .eS id a,s,r,hr=>by
  simp only[bI] at hr ⊢
  cases ha:bI P L f a s with
  | none=>simp[ha] at hr
  | some q=>rw[zD h a s q ha];simpa only[ha] using hr
 | .kp live,s,r,hr=>by simpa only[bI] using hr
 | .fz ts,s,r,hr=>by simpa only[bI] using hr
 | .loop live a,s,r,hr=>by
  simp only[bI] at hr ⊢
  cases ha:bI P L f a (bH live s) with
  | none=>simp[ha] at hr
  | some q=>
   rw[zD h a _ q ha];obtain⟨ex,s1⟩:=q
   cases ex with
   | normal=>simp only[ha] at hr ⊢;exact h _ _ _ hr
   | ret=>simpa only[ha] using hr
   | exit id=>simpa only[ha] using hr
 | .rf fv ps as_ body,s,r,hr=>by
  simp only[bI] at hr ⊢
  split at hr
  .rename_i n first cap hx
   split at hr
   .grind
   .rename_i hL
    cases hc:jZ P L f ((s.ct,.lp s.tm ps as_ body 0 .none)::s.hp) (s.ct+1) n (first++(.fn (.y s.ct) [] []::cap)) with
    | none=>simp[hc] at hr
    | some q=>rw[UD h _ _ _ _ _ hc];simpa only[hc] using hr
  .simp at hr
 | .exit id,s,r,hr=>by simpa only[bI] using hr
 | .ret,s,r,hr=>by simpa only[bI] using hr
end
def KJ(P:aE)(L:Lib)(c:VC)(s:St):ev P L 0 c s=GS:=rfl
def PZ(P:aE)(L:Lib)(n:Nat):ev P L (n+1)=bI P L (ev P L n):=rfl
def ag5(P:aE)(L:Lib):∀n,Le (ev P L n) (ev P L (n+1))
 | 0=>fun c s r h=>by rw[KJ] at h;cases h
 | n+1=>fun c s r h=>by
  exact zD (ag5 P L n) c s r h
def Wh(P:aE)(L:Lib){n m:Nat}(h:n<=m):Le (ev P L n) (ev P L m):=by
 induction h with
 | refl=>exact fun _ _ _ h=>h
 | step _ ih=>exact fun c s r hr=>ag5 P L _ c s r (ih c s r hr)
section
open Go
section
variable {ex:Ex}{lo n:Nat}{s:St}{w w':yo}
section
variable {O:bE}{self:cp}
def fC.none{m:Mp}{a:Act}(l:Nat):¬fC O m S w s ex s' n lo (.goto l) a w':=by
 rintro⟨h,_⟩;cases ex<;>cases h
def fC.then{m m1:Mp}{S1:Nat->Prop}{w1:yo}{s2:St}{a':Act}{e:uJ}{ex1:Ex}(h1:s1.base=s.base)(hf:cr m S w s.hp m1 S1 w1 s1.hp s.base)(h:fC O m1 S1 w1 s1 ex s2 n lo e a' w'):fC O m S w s ex s2 n lo e a' w':=by
 have⟨h2,m',S',k1,k2,k3,k4,k5,k6,k7⟩:=h;rw[h1] at k3 k4 k5;exact⟨h2,m',S',k1,k2,k3,k4,hf.trans k5,k6,k7⟩
def fC.bF{m:Mp}{a':Act}{e:uJ}(live:List Nat)(h:fC O m S w s ex s1 n lo e a' w'):fC O m S w s ex (bH live s1) n lo e a' w':=by
 have⟨h2,m',S',k1,k2,k3,k4,k5,k6,k7⟩:=h;have⟨m2,g1,g2,g3,g4,g5⟩:=UN (live:=live) k1 k2 (by rw[k3];exact k4)
 rw[k3] at g3 g4 g5;exact⟨h2,m2,S',g1,g2,g3,g4,k5.trans g5,k6,C7 k2 g5 k7⟩
def ag6{m:Mp}{w:yo}{tmps:Array ym}:∀{ts:List Nat} {s s1:St} {S:Nat->Prop},cg O m S w s.tm tmps->aU O m S w s.hp s.ct->sG ts s=GR s1->
  ∃S1,cg O m S1 w s1.tm tmps/\aU O m S1 w s1.hp s1.ct/\s1.base=s.base/\s1.ct=s.ct/\∀base,cr m S w s.hp m S1 w s1.hp base
 | [],s,s1,S,ht,hh,h=>by
  simp only[sG,yc] at h;subst h;exact⟨S,ht,hh,rfl,rfl,fun _=>cr.refl⟩
 | t::r,s,s1,S,ht,hh,h=>by
  simp only[sG] at h
  cases hz:freeze deep s.hp (ak s.tm t) with
  | none=>simp[hz] at h
  | some q=>
   have⟨v,hp⟩:=q;simp only[hz] at h;have⟨h1,h2,h3⟩:=Vd (O:=O) hz;have hg:j0 s.hp s.ct hp s.ct:=⟨h1,yz _,fun id o ho=>(by
     have:=h2 id
     rw[ho] at this
     cases hq:ah s.hp id with
     | none=>rw[hq] at this;simp at this
     | some o'=>exact hh.aG id o' hq),fun id o ho _=>(by
     have:=h2 id
     rw[ho] at this
     cases hq:ah s.hp id with
     | none=>rw[hq] at this;simp at this
     | some o'=>exact⟨o',rfl⟩)⟩
   have⟨S',k1,k2,k3,k4⟩:=Px hh hg;have Ak:cg O m S' w ((t,v)::s.tm) tmps:=by
    intro i;simp only[ak]
    cases hb:yu t i with
    | true=>
     have:=yi hb
     subst this;exact (h3 hp m S' w s.ct dD.refl k1).1 _ (n8 (fun _ _ h=>h) k2 (fun _ _=>rfl) _ _ (ht t))
    | false=>
     exact n8 (fun _ _ h=>h) k2 (fun _ _=>rfl) _ _ (ht i)
   have⟨S1,g1,g2,g3,g4,g5⟩:=ag6 (s:={s with tm:=(t,v)::s.tm,hp:=hp}) Ak k1 h;exact⟨S1,g1,g2,g3,g4,fun base=>(k4 base).trans (g5 base)⟩
def afq(hO:jo O)(n:Nat)(hC:∀k,k<=n->qH O (ev O.prog O.aK k))(h:Nat):∀(c:vD) (l k:Nat) (j:Nat),j<=n->∀(s:St) (ex:Ex) (s':St),
  bI O.prog O.aK (ev O.prog O.aK j) (comp O.P (O.hint h) c l k).1 s=GR (ex,s')->DB O h c s ex s':=by
 have refl:∀{s:St} {ex:Ex} {m:Mp} {S:Nat->Prop} {w:yo} {a:Act} {lo:Nat},cg O m S w s.tm a.tmps->aU O m S w s.hp s.ct->s.base<=s.ct->Marks lo S w a.defers->fC O m S w s ex s a.tmps.size lo (zX ex) a w:=
  fun h1 h2 h3 h4=>⟨rfl,_,_,h1,h2,rfl,h3,cr.refl,rfl,h4⟩
 have Yj:∀{self:cp} {s:St} {r:Ex×St},bI O.prog O.aK self (.jA [⟨GS,GS,bad⟩]) s=GR r->False:=by
  intro self s r hv;simp[bI,dF,bad,bc,fA,az] at hv
 intro c
 induction c with
 | skip=>
  intro l k j hj s ex s' hv ro lo m S w a dj ht hh hb hn aY fU cy;simp only[comp,bI,yc,yr] at hv;obtain⟨rfl,rfl⟩:=hv;exact wpIn_skip (refl ht hh hb cy)
 | label x=>
  intro l k j hj s ex s' hv ro lo m S w a dj ht hh hb hn aY fU cy;simp only[comp,bI,yc,yr] at hv;obtain⟨rfl,rfl⟩:=hv;exact wpIn_label (refl ht hh hb cy)
 | exit id=>
  intro l k j hj s ex s' hv ro lo m S w a dj ht hh hb hn aY fU cy;simp only[comp,bI,yc,yr] at hv;obtain⟨rfl,rfl⟩:=hv
  exact wpIn_exit (refl (ex:=.exit id) ht hh hb cy)
 | ret=>
  intro l k j hj s ex s' hv ro lo m S w a dj ht hh hb hn aY fU cy;simp only[comp,bI,yc,yr] at hv;obtain⟨rfl,rfl⟩:=hv
  exact wpIn_ret (refl (ex:=.ret) ht hh hb cy)
 | goto x=>intro l k j hj s ex s' hv;exact (Yj (by simpa only[comp] using hv)).elim
 | refuse x=>intro l k j hj s ex s' hv;exact (Yj (by simpa only[comp] using hv)).elim
 | region id ops d=>
  intro l k j hj s ex s' hv;simp only[comp] at hv;generalize hq:PR O.P (O.hint h) ops d k=q at hv;have⟨r,k'⟩:=q;have main:∀{s s':St} {ex:Ex},bI O.prog O.aK (ev O.prog O.aK j) (.jA r) s=GR (ex,s')->DB O h (.region id ops d) s ex s':=by
   intro s s' ex hv;simp only[bI] at hv
   cases ho:dF O.prog O.aK (ev O.prog O.aK j) r s with
   | none=>simp[ho] at hv
   | some s1=>
    simp only[ho,yc,yr] at hv;obtain⟨rfl,rfl⟩:=hv;exact avU hO (hC j hj) h id ops d k (by rw[hq];exact ho)
  simp only at hv
  split at hv
  .exact main hv
  .rename_i t ts _;simp only[bI] at hv
   cases hf:sG (t::ts) s with
   | none=>simp[hf] at hv
   | some s1=>
    simp only[hf] at hv;intro ro lo m S w a dj ht hh hb hn aY fU cy;have⟨S1,g1,g2,g3,g4,g5⟩:=ag6 ht hh hf;have h1:=main (s:=s1) (by simpa only[bI] using hv) ro lo m S1 w a dj g1 g2 (by rw[g3,g4];exact hb) hn aY fU (C7 hh (g5 s.base) cy)
    refine wpIn_mono h1 (fun e a' w' hp=>?_)
    exact fC.then (ex1:=.normal) g3 (g5 s.base) hp
 | seq x y ihx ihy=>
  intro l k j hj s ex s' hv ro lo m S w a dj ht hh hb hn aY fU cy;simp only[comp] at hv;generalize Bt:comp O.P (O.hint h) x l k=qx at hv;have⟨x',l1,k1⟩:=qx;simp only at hv;generalize NJ:comp O.P (O.hint h) y l1 k1=qy at hv;have⟨y',l2,k2⟩:=qy;simp only[bI] at hv
  cases hx:bI O.prog O.aK (ev O.prog O.aK j) x' s with
  | none=>simp[hx] at hv
  | some r=>
   have⟨ex1,s1⟩:=r;have h1:=ihx l k j hj s ex1 s1 (by rw[Bt];exact hx) ro lo m S w a dj ht hh hb hn aY fU cy
   refine wpIn_seq (wpIn_mono h1 ?_);rintro e a1 w1 ⟨rfl,m1,S1,g1,g2,g3,g4,g5,g6,g7⟩;have stop:ex1≠.normal->ex=ex1/\s'=s1:=by
    intro bL;rw[hx] at hv
    cases ex1 with
    | normal=>exact absurd rfl bL
    | ret=>simp only[yc,yr] at hv;exact⟨hv.1.symm,hv.2.symm⟩
    | exit id=>simp only[yc,yr] at hv;exact⟨hv.1.symm,hv.2.symm⟩
   cases ex1 with
   | normal=>
    simp only[hx] at hv;simp only[zX,Exit.then];have h2:=ihy l1 k1 j hj s1 ex s' (by rw[NJ];exact hv) ro lo m1 S1 w1 a1 (Pg g5 dj) g1 g2 (by rw[g3];exact g4) (by rw[g6];exact hn) aY (y7 fU g5.size) g7
    rw[g6] at h2
    exact wpIn_mono h2 (fun e a' w' hp=>fC.then (ex1:=.normal) g3 g5 hp)
   | ret=>
    obtain⟨rfl,rfl⟩:=stop (by simp);exact⟨rfl,m1,S1,g1,g2,g3,g4,g5,g6,g7⟩
   | exit id=>
    obtain⟨rfl,rfl⟩:=stop (by simp);exact⟨rfl,m1,S1,g1,g2,g3,g4,g5,g6,g7⟩
 | cond x p q ihp ihq=>
  intro l k j hj s ex s' hv ro lo m S w a dj ht hh hb hn aY fU cy;simp only[comp] at hv;generalize Bt:comp O.P (O.hint h) p (l+1) k=qx at hv;have⟨p',l1,k1⟩:=qx;simp only at hv;generalize NJ:comp O.P (O.hint h) q l1 k1=qy at hv;have⟨q',l2,k2⟩:=qy;simp only at hv;have main:∀(ex:Ex) (s':St),bI O.prog O.aK (ev O.prog O.aK j) (.cond (aO (O.hint h) x) p' q') s=GR (ex,s')->(Code.cond x p q).wpIn (WF ro) 0 O.P (fC O m S w s ex s' a.tmps.size lo) a w:=by
   intro ex s' hv;simp only[bI] at hv;have rx:=cl (hO.hint h) ht x
   split at hv
   .rename_i t hx;rw[hx] at rx;simp only[af] at rx
    cases t with
    | true=>
     simp only[yx] at hv;exact wpIn_cond_true rx (ihp (l+1) k j hj s ex s' (by rw[Bt];exact hv) ro lo m S w a dj ht hh hb hn aY fU cy)
    | false=>
     simp only[yS] at hv;exact wpIn_cond_false rx (ihq l1 k1 j hj s ex s' (by rw[NJ];exact hv) ro lo m S w a dj ht hh hb hn aY fU cy)
   .cases hv
  cases aiN:(O.hint h).out l with
  | none=>rw[aiN] at hv;exact main ex s' hv
  | some live=>
   rw[aiN] at hv;simp only at hv;rw[show bI O.prog O.aK (ev O.prog O.aK j) (.seq (.cond (aO (O.hint h) x) p' q') (.kp live)) s=match bI O.prog O.aK (ev O.prog O.aK j) (.cond (aO (O.hint h) x) p' q') s with | some (.normal,s1)=>GR (.normal,bH live s1) | r=>r from rfl] at hv
   cases hx:bI O.prog O.aK (ev O.prog O.aK j) (.cond (aO (O.hint h) x) p' q') s with
   | none=>simp[hx] at hv
   | some r=>
    have⟨ex1,s1⟩:=r;have h1:=main ex1 s1 hx;rw[hx] at hv
    cases ex1 with
    | normal=>
     simp only[yc,yr] at hv;obtain⟨rfl,rfl⟩:=hv;exact wpIn_mono h1 (fun e a' w' hp=>fC.bF live hp)
    | ret=>simp only[yc,yr] at hv;obtain⟨rfl,rfl⟩:=hv;exact h1
    | exit id=>simp only[yc,yr] at hv;obtain⟨rfl,rfl⟩:=hv;exact h1
 | block id x ih=>
  intro l k j hj s ex s' hv ro lo m S w a dj ht hh hb hn aY fU cy;simp only[comp] at hv;generalize Bt:comp O.P (O.hint h) x l k=qx at hv;have⟨x',r⟩:=qx;simp only at hv;have main:∀(ex:Ex) (s':St),bI O.prog O.aK (ev O.prog O.aK j) (.eS id x') s=GR (ex,s')->(Code.block id x).wpIn (WF ro) 0 O.P (fC O m S w s ex s' a.tmps.size lo) a w:=by
   intro ex s' hv;simp only[bI] at hv
   cases hx:bI O.prog O.aK (ev O.prog O.aK j) x' s with
   | none=>simp[hx] at hv
   | some q=>
    have⟨ex1,s1⟩:=q;have h1:=ih l k j hj s ex1 s1 (by rw[Bt];exact hx) ro lo m S w a dj ht hh hb hn aY fU cy
    refine wpIn_block (wpIn_mono h1 ?_);rintro e a1 w1 ⟨rfl,g⟩
    cases ex1 with
    | normal=>
     simp only[hx,yc,yr] at hv;obtain⟨rfl,rfl⟩:=hv;exact⟨rfl,g⟩
    | ret=>
     simp only[hx,yc,yr] at hv;obtain⟨rfl,rfl⟩:=hv;exact⟨rfl,g⟩
    | exit i=>
     simp only[hx] at hv
     cases Tu:yu i id with
     | true=>
      rw[Tu] at hv;simp only[yx,yc,yr] at hv;obtain⟨rfl,rfl⟩:=hv
      have:=yi Tu
      subst this;simp only[zX,Exit.inBlock,xN];exact⟨rfl,g⟩
     | false=>
      rw[Tu] at hv;simp only[yS,yc,yr] at hv;obtain⟨rfl,rfl⟩:=hv;have bL:i≠id:=fun e=>by subst e;simp at Tu
      simp only[zX,Exit.inBlock,bL,xv];exact⟨rfl,g⟩
  have azU:∀live:List Nat,bI O.prog O.aK (ev O.prog O.aK j) (.seq (.eS id x') (.kp live)) s=GR (ex,s')->(Code.block id x).wpIn (WF ro) 0 O.P (fC O m S w s ex s' a.tmps.size lo) a w:=by
   intro live hv;rw[show bI O.prog O.aK (ev O.prog O.aK j) (.seq (.eS id x') (.kp live)) s=match bI O.prog O.aK (ev O.prog O.aK j) (.eS id x') s with | some (.normal,s1)=>GR (.normal,bH live s1) | r=>r from rfl] at hv
   cases hx:bI O.prog O.aK (ev O.prog O.aK j) (.eS id x') s with
   | none=>simp[hx] at hv
   | some r=>
    have⟨ex1,s1⟩:=r;have h1:=main ex1 s1 hx;rw[hx] at hv
    cases ex1 with
    | normal=>
     simp only[yc,yr] at hv;obtain⟨rfl,rfl⟩:=hv;exact wpIn_mono h1 (fun e a' w' hp=>fC.bF live hp)
    | ret=>simp only[yc,yr] at hv;obtain⟨rfl,rfl⟩:=hv;exact h1
    | exit id=>simp only[yc,yr] at hv;obtain⟨rfl,rfl⟩:=hv;exact h1
  split at hv
  .exact azU _ hv
  .exact main ex s' hv
 | loop x ih=>
  intro l k j hj s ex s' hv;simp only[comp] at hv;generalize Bt:comp O.P (O.hint h) x (l+1) k=qx at hv;have⟨x',r⟩:=qx;simp only at hv;have rounds:∀(j:Nat),j<=n->∀(s:St) (ex:Ex) (s':St),bI O.prog O.aK (ev O.prog O.aK j) (.loop ((O.hint h).live l) x') s=GR (ex,s')->∃K,∀(ro:Option Nat) (lo:Nat) (m:Mp) (S:Nat->Prop) (w:yo) (a:Act),BW ro w->cg O m S w s.tm a.tmps->aU O m S w s.hp s.ct->s.base<=s.ct->(O.hint h).n<=a.tmps.size->O.w0.heap.size<=lo->lo<=w.heap.size->Marks lo S w a.defers->
    Code.roundsIn (WF ro) 0 O.P x (fC O m S w s ex s' a.tmps.size lo) K a w:=by
   intro j
   induction j with
   | zero=>
    intro hj s ex s' hv;simp only[bI] at hv
    cases hx:bI O.prog O.aK (ev O.prog O.aK 0) x' (bH ((O.hint h).live l) s) with
    | none=>simp[hx] at hv
    | some q=>
     have⟨ex1,s1⟩:=q;have stop:ex1≠.normal->ex=ex1/\s'=s1:=by
      intro bL;rw[hx] at hv
      cases ex1 with
      | normal=>exact absurd rfl bL
      | ret=>simp only[yc,yr] at hv;exact⟨hv.1.symm,hv.2.symm⟩
      | exit id=>simp only[yc,yr] at hv;exact⟨hv.1.symm,hv.2.symm⟩
     refine⟨1,fun ro lo m S w a dj ht hh hb hn aY fU cy=>?_⟩;rw[roundsIn_succ];have⟨m1,c1,c2,c3,c4,c5⟩:=UN (live:=(O.hint h).live l) ht hh hb;have h1:=ih (l+1) k 0 hj _ ex1 s1 (by rw[Bt];exact hx) ro lo m1 S w a dj c1 c2 (by rw[c3];exact c4) hn aY fU cy
     refine wpIn_mono h1 ?_;rintro e a1 w1 hp;have ap:=fC.then (O:=O) (m:=m) (S:=S) (w:=w) (s:=s) (ex1:=.normal) c3 c5 hp;obtain⟨rfl,_⟩:=hp
     cases ex1 with
     | normal=>simp only[hx,KJ] at hv;cases hv
     | ret=>obtain⟨rfl,rfl⟩:=stop (by simp);exact ap
     | exit id=>obtain⟨rfl,rfl⟩:=stop (by simp);exact ap
   | succ j ihj=>
    intro hj s ex s' hv;simp only[bI] at hv
    cases hx:bI O.prog O.aK (ev O.prog O.aK (j+1)) x' (bH ((O.hint h).live l) s) with
    | none=>simp[hx] at hv
    | some q=>
     have⟨ex1,s1⟩:=q;have stop:ex1≠.normal->ex=ex1/\s'=s1:=by
      intro bL;rw[hx] at hv
      cases ex1 with
      | normal=>exact absurd rfl bL
      | ret=>simp only[yc,yr] at hv;exact⟨hv.1.symm,hv.2.symm⟩
      | exit id=>simp only[yc,yr] at hv;exact⟨hv.1.symm,hv.2.symm⟩
     have more:∃K,ex1=.normal->∀(ro:Option Nat) (lo:Nat) (m:Mp) (S:Nat->Prop) (w:yo) (a:Act),BW ro w->cg O m S w s1.tm a.tmps->aU O m S w s1.hp s1.ct->s1.base<=s1.ct->(O.hint h).n<=a.tmps.size->O.w0.heap.size<=lo->lo<=w.heap.size->Marks lo S w a.defers->
       Code.roundsIn (WF ro) 0 O.P x (fC O m S w s1 ex s' a.tmps.size lo) K a w:=by
      cases ex1 with
      | normal=>
       rw[hx] at hv;have fO:ev O.prog O.aK (j+1) (.loop ((O.hint h).live l) x') s1=GR (ex,s'):=hv;rw[PZ] at fO;have⟨K,hK⟩:=ihj (by lia) s1 ex s' fO;exact⟨K,fun _=>hK⟩
      | ret=>exact⟨0,fun h=>by cases h⟩
      | exit id=>exact⟨0,fun h=>by cases h⟩
     have⟨K,hK⟩:=more;refine⟨K+1,fun ro lo m S w a dj ht hh hb hn aY fU cy=>?_⟩;rw[roundsIn_succ];have⟨m1,c1,c2,c3,c4,c5⟩:=UN (live:=(O.hint h).live l) ht hh hb;have h1:=ih (l+1) k (j+1) hj _ ex1 s1 (by rw[Bt];exact hx) ro lo m1 S w a dj c1 c2 (by rw[c3];exact c4) hn aY fU cy
     refine wpIn_mono h1 ?_;rintro e a1 w1 hp;have ap:=fC.then (O:=O) (m:=m) (S:=S) (w:=w) (s:=s) (ex1:=.normal) c3 c5 hp;obtain⟨rfl,_⟩:=hp
     cases ex1 with
     | normal=>
      simp only[zX,Exit.then];have⟨_,m2,S2,g1,g2,g3,g4,g5,g6,g7⟩:=ap;have h2:=hK rfl ro lo m2 S2 w1 a1 (Pg g5 dj) g1 g2 (by rw[g3];exact g4) (by rw[g6];exact hn) aY (y7 fU g5.size) g7
      rw[g6] at h2;revert h2;generalize hA:a.tmps.size=sz;intro h2;have step:∀(K:Nat) (a':Act) (w':yo),Code.roundsIn (WF ro) 0 O.P x (fC O m2 S2 w1 s1 ex s' sz lo) K a' w'->Code.roundsIn (WF ro) 0 O.P x (fC O m S w s ex s' sz lo) K a' w':=by
       intro K
       induction K with
       | zero=>intro a' w' Ed;exact Ed
       | succ K ihK=>
        intro a' w' Ed;rw[roundsIn_succ] at Ed ⊢;refine wpIn_mono Ed (fun e a'' Ti hq=>?_)
        cases e with
        | normal=>exact ihK a'' Ti hq
        | exit id=>exact fC.then (ex1:=.normal) g3 g5 hq
        | goto x=>exact fC.then (ex1:=.normal) g3 g5 hq
        | ret=>exact fC.then (ex1:=.normal) g3 g5 hq
        | panic x=>exact fC.then (ex1:=.normal) g3 g5 hq
        | outgrown=>exact fC.then (ex1:=.normal) g3 g5 hq
      exact step K a1 w1 h2
     | ret=>obtain⟨rfl,rfl⟩:=stop (by simp);exact ap
     | exit id=>obtain⟨rfl,rfl⟩:=stop (by simp);exact ap
  have⟨K,hK⟩:=rounds j hj s ex s' hv;intro ro lo m S w a dj ht hh hb hn aY fU cy;exact wpIn_loop_rounds K (hK ro lo m S w a dj ht hh hb hn aY fU cy)
 | scope x ih=>
  intro l k j hj s ex s' hv ro lo m S w a dj ht hh hb hn aY fU cy;simp only[comp] at hv;exact aof (ih l k j hj s ex s' hv ro lo m S w a dj ht hh hb hn aY fU cy) (fun l a w=>fC.none l)
 | rangeFunc f ps as_ body iha ihb=>
  intro l k j hj s ex s' hv;simp only[comp] at hv;generalize Bt:comp O.P (O.hint h) as_ l k=qx at hv;have⟨x',l1,k1⟩:=qx;simp only at hv;generalize NJ:comp O.P (O.hint h) body l1 k1=qy at hv;have⟨y',l2,k2⟩:=qy;simp only at hv
  cases ha:B5 (O.hint h).n ps.toList with
  | false=>rw[ha] at hv;exact (Yj hv).elim
  | true=>
   rw[ha] at hv;exact azT hO (hC j hj) ⟨l,k,by rw[Bt]⟩ ⟨l1,k1,by rw[NJ]⟩ ha hv
end
end
end
section
open Go
section
variable {v:AV}{args:Array ym}{ax:List AV}{n:Nat}{s:St}
section
variable {O:bE}{m:Mp}{S:Nat->Prop}{w:yo}
def adi:∀(ax:List AV) (j i:Nat),ak (fw j ax) (j+i)=ax.getD i .undef
 | [],j,i=>by simp[fw,ak]
 | v::r,j,i=>by
  cases i with
  | zero=>simp[fw,ak]
  | succ i=>
   simp only[fw,ak];have hb:yu j (j+(i+1))=ydC:=by
    cases hq:yu j (j+(i+1)) with
    | false=>rfl
    | true=>have:=yi hq;lia
   rw[hb,show j+(i+1)=j+1+i by lia];rw[adi r (j+1) i]
   simp
def adj(n:Nat)(h:aA O.ae m S w ax args.toList):cg O m S w (fw 0 ax) (args++uK n undef):=by
 intro i
 have:=adi ax 0 i
 rw[yd] at this;rw[this,yV]
 cases hv:ax[i]? with
 | none=>simp only[Option.getD_none,af]
 | some v=>
  have⟨u,h1,h2⟩:=VB h hv;have hl:i<args.size:=by
   grind
  have:(args++uK n undef).getD i undef=u:=by
   rw[wm,Array.getElem?_append_left hl]
   grind
  grind
def HZ(tmps:Array ym):ydf->Sem ym
 | .tmp t=>pure (tmps.getD t undef)
 | .cell a t=>do loadVar t (<-asAddr (tmps.getD a undef))
def aog(fn:ybc)(tmps:Array ym):results fn tmps=(do let vs <-fn.results.mapM (HZ tmps);pure (if h:vs.size=1 then vs[0] else .tuple vs)):=by
 rfl
def UP{s:St}{ct:Nat}{tmps:Array ym}(hh:aU O m S w s.hp ct)(ht:cg O m S w s.tm tmps):∀{rs:List ydf} {rv:List RV} {vs:List AV},sd O.P rs=GR rv->nB s rv=GR vs->
  ∃us,(rs.mapM (HZ tmps)).run O.P w=.ok us w/\aA O.ae m S w vs us
 | [],rv,vs,h1,h2=>by
  simp only[sd,yc] at h1;subst h1;simp only[nB,yc] at h2;subst h2;exact⟨[],by simp,by simp[aA]⟩
 | .tmp t::rs,rv,vs,h1,h2=>by
  simp only[sd] at h1
  cases hc:sd O.P rs with
  | none=>simp[hc] at h1
  | some l=>
   simp only[hc,yc] at h1;subst h1;simp only[nB,results1] at h2
   cases hl:nB s l with
   | none=>simp[hl] at h2
   | some Gd=>
    simp only[hl,yc] at h2;subst h2;have⟨us,g1,g2⟩:=UP hh ht hc hl;refine⟨tmps.getD t undef::us,?_,by simp only[aA];exact⟨_,_,rfl,ht t,g2⟩⟩
    rw[ta];simp only[HZ,Sem.run_bind,Sem.run_pure,Result.andThen_ok];rw[g1];rfl
 | .cell a t::rs,rv,vs,h1,h2=>by
  simp only[sd] at h1
  cases hz:cF O.P t with
  | none=>simp[hz] at h1
  | some sz=>
   cases Bm:dQ O.P t with
   | none=>simp[hz,Bm] at h1
   | some ag=>
    cases hc:sd O.P rs with
    | none=>simp[hz,Bm,hc] at h1
    | some l=>
     simp only[hz,Bm,hc,yc] at h1;subst h1;simp only[nB] at h2
     cases fD:results1 s (.cell a sz ag) with
     | none=>simp[fD] at h2
     | some v=>
      cases hl:nB s l with
      | none=>simp[fD,hl] at h2
      | some Gd=>
       simp only[fD,hl,yc] at h2;subst h2;have⟨us,g1,g2⟩:=UP hh ht hc hl;have ra:=ht a;have key:∃b o u,tmps.getD a undef=.pointer (GR ⟨b,o,GS⟩)/\(loadVar t ⟨b,o,GS⟩).run O.P w=.ok u w/\af O.ae m S w v u:=by
        simp only[results1] at fD;cases hta:ak s.tm a<;>rw[hta] at fD ra<;>simp only[reduceCtorEq] at fD
        .rename_i id o;simp only[af] at ra;have⟨p,hm,hp⟩:=ra
         cases hg:ah s.hp id with
         | none=>simp[hg] at fD
         | some ob=>
          cases ob<;>simp only[hg,reduceCtorEq] at fD
          have hrr:=VA (o:=0) (n:=0) hh hg hm;have⟨u,q1,q2⟩:=PT hz Bm (AA o _ p.b p.o hrr) fD;exact⟨p.b,p.o+o,u,hp,q1,q2⟩
        .rename_i cs;simp only[af] at ra;have⟨b,o,hp,_,_,hrr⟩:=ra;have⟨u,q1,q2⟩:=PT hz Bm hrr fD;exact⟨b,o,u,hp,q1,q2⟩
       have⟨b,o,u,q1,q2,q3⟩:=key;refine⟨u::us,?_,by simp only[aA];exact⟨_,_,rfl,q3,g2⟩⟩
       rw[ta]
       have:(HZ tmps (.cell a t)).run O.P w=.ok u w:=by
        simp only[HZ];rw[q1];simp[asAddr,q2]
       rw[Sem.run_bind,this,Result.andThen_ok,Sem.run_bind,g1];rfl
def anD{tmps:Array ym}{fn:ybc}{rv:List RV}(hh:aU O m S w s.hp ct)(ht:cg O m S w s.tm tmps)(h1:sd O.P fn.results.toList=GR rv)(h2:jU s rv=GR v):
  ∃u,(results fn tmps).run O.P w=.ok u w/\af O.ae m S w v u:=by
 unfold jU at h2
 cases hl:nB s rv with
 | none=>simp[hl] at h2
 | some vs=>
  have⟨us,g1,g2⟩:=UP hh ht h1 hl;have hlen:=jV _ _ g2;have hm:(fn.results.mapM (HZ tmps)).run O.P w=.ok us.toArray w:=by
   rw[Array.mapM_eq_mapM_toList];simp[g1]
  have ff:(results fn tmps).run O.P w=.ok (if h:us.toArray.size=1 then us.toArray[0] else .tuple us.toArray) w:=by
   rw[aog,Sem.run_bind,hm];rfl
  rw[hl] at h2
  split at h2
  .rename_i v' Al;simp only[yc] at Al h2;subst Al;simp only[aA] at g2
   grind
  .rename_i dS bL Al;simp only[yc] at Al h2;subst Al;subst h2;have h1:¬us.toArray.size=1:=by
    intro h
    have:vs.length=1:=by simp_all
    cases vs with
    | nil=>simp at this
    | cons x t=>
     cases t with
     | nil=>exact bL x rfl
     | cons y t=>simp at this
   simp only[af]
   grind
  .grind
def Vi{s:St}{tmps:Array ym}{fn:ybc}{rv:List RV}{v:AV}{m0:Mp}{S0:Nat->Prop}{w0:yo}{hp0:Hp}{Tv:Nat}(h1:sd O.P fn.results.toList=GR rv)(h2:jU s rv=GR v)(jg:Tv<=s.ct):∀(rs:List Nat) (w:yo),
  rs.Nodup->(∀r,r∈rs->w.heap[r]? =GR (.deferred (GR []))/\¬S r/\w0.heap.size<=r)->O.w0.heap.size<=w0.heap.size->aU O m S w s.hp s.ct->cg O m S w s.tm tmps->cr m0 S0 w0 hp0 m S w s.hp Tv->
  ydh Fence.wide 0 O.P fn tmps (BN O m0 S0 w0 hp0 Tv v s.hp s.ct) (rs.map (fun r=>{target:=.collected r,args:=#[]})) .returning w
 | [],w,_,_,_,hh,ht,hf=>by
  have⟨u,g1,g2⟩:=anD hh ht h1 h2;exact⟨u,g1,u,m,S,rfl,hh,jg,g2,hf⟩
 | r::rs,w,nk,hr,aY,hh,ht,hf=>by
  have⟨oS,et⟩:=List.nodup_cons.1 nk;have⟨a1,a2,a3⟩:=hr r xJ;have gW:=GX w r (.deferred GS);have rI:¬eO m s.hp r:=fun ho=>ad3 hh ho _ a1
  have Ed:=acn hh gW a2 rI (y7 aY a3)
  have aR:ic S w {w with heap:=w.heap.setIfInBounds r (.deferred GS)}:=fun b hb=>gW.other b (fun e=>a2 (e▸hb))
  have D8:cr m0 S0 w0 hp0 m S {w with heap:=w.heap.setIfInBounds r (.deferred GS)} s.hp Tv:=by
   refine⟨hf.os,hf.tape,hf.output,by rw[gW.size];exact hf.size,fun b hb ho=>(gW.other b (by lia)).trans (hf.same b hb ho),hf.sub,fun b hb=>(gW.other b (fun e=>a2 (e▸hf.sub b hb))).trans (hf.still b hb),hf.new,hf.own,hf.old,fun b x hb=>?_⟩
   have⟨x',hx⟩:=hf.loops b x hb;exact⟨x',(gW.other b (fun e=>by subst e;rw[a1] at hx;cases hx)).trans hx⟩
  refine⟨by simp,.inl ⟨r,_,rfl,?_,Vi h1 h2 jg rs _ et (fun r' bO=>?_) aY Ed (C6 (fun _ _ h=>h) (fun _ h=>h) aR ht) D8⟩⟩
  .simp only [Instr.takeDeferred,Sem.run_bind,aco (P:=O.P) a1 (fun _ _ _=>by simp),Result.andThen_ok,O1 (P:=O.P) a1 (fun _ _ _=>by simp),Sem.run_pure]
  .have ⟨b1,b2,b3⟩:=hr r' (xr _ bO);exact⟨(gW.other r' (fun e=>oS (e▸bO))).trans b1,b2,b3⟩
end
section
variable {O:bE}{self:cp}
def azV(hO:jo O)(hS:∀v s ex s',self v s=GR (ex,s')->∀c h l k,(comp O.P (O.hint h) c l k).1=v->DB O h c s ex s'){F:aw}(hF:O.prog n=GR F){ex:Ex}(hv:self F.body ⟨fw 0 ax,hp,ct,ct⟩=GR (ex,s))(hex:ex=.normal\/ex=.ret)(hr:jU s F.dC=GR v):DA O n hp ct ax v s.hp s.ct:=by
 intro m S w args hh fF;have⟨fn,q1,q2,q3⟩:=hO.prog n F hF;have⟨c,q4,q5,q6,q7⟩:=UC q2;refine .inl ⟨G6 q1 (by rw[q4];rfl) q3,?_⟩
 have hc:=hS _ _ _ _ hv c n 0 0 q5.symm;have hw:=hc GS w.heap.size m S w {tmps:=args++uK (fn.ntmps-args.size) undef,defers:=[]} (fun l hl=>by cases hl) (adj _ fF) hh (yz _) (by simp;lia) hh.ig (yz _) ⟨[],rfl,by simp,by simp⟩
 refine callsIn_of_wp_marks (F:=Fence.wide) q1 q4 trivial (wpIn_mono hw ?_);rintro e a' w' ⟨rfl,m',S',k1,k2,k3,k4,k5,k6,rs,k7,k8,k9⟩;have main:ydh Fence.wide 0 O.P fn a'.tmps (BN O m S w hp ct v s.hp s.ct) a'.defers .returning w':=by
  rw[k7];exact Vi q6 hr k4 rs w' k8 k9 hh.ig k2 k1 k5
 rcases hex with rfl | rfl
 .exact main
 .exact main
def Dh.mono{P:xp}{f:yah}{w:yo}{R R':ybm->yo->Prop}(h:Dh P f args w R)(hr:∀e w',R e w'->R' e w'):Dh P f args w R':=by
 rcases h with ⟨h1,h2⟩ | ⟨u,w',h1,h2⟩
 .exact .inl ⟨h1,CallsIn.mono h2 hr⟩
 .exact .inr ⟨u,w',h1,hr _ _ h2⟩
def apf{w:yo}(hg:Dz O w)(hs:∀b,S b->b<w.heap.size):aU O fI S w [] 0:=
 ⟨(fun id o p h _=>by simp[ah] at h),(fun id p h=>by cases h),(fun i j oi oj pi pj h=>by simp[ah] at h),hs,(fun id p h=>by cases h),(fun id p h=>by cases h),hg.1,hg.2,(fun id o h=>by simp[ah] at h)⟩
def VM{b:Nat}(h:eO fI [] b):False:=by
 have⟨_,_,_,h,_⟩:=h;simp[ah] at h
def Uw{r:AV}(h:DA O n [] 0 ax v s.hp s.ct)(hr:result s.hp v=GR r):eR O n ax r:=by
 intro w S args hg hs fF hp;refine Dh.mono (h fI S w args (apf hg hs) fF) ?_;rintro e w' ⟨u,m',S',rfl,k1,k2,k3,k4⟩;have aY:∀b,eO m' s.hp b->w.heap.size<=b:=fun b hb=>(k4.own b hb).elim (fun h=>(VM h).elim) (fun h=>h)
 have⟨S2,g1,g2,g3,g4⟩:=ao4 (lo:=w.heap.size) k1 hr k3 aY;refine⟨u,S2,rfl,⟨k4.os,k4.tape,k4.output,k4.size,fun b hb=>k4.same b hb VM⟩,fun b hb=>g1 b (k4.sub b hb),fun b hb=>?_,g3,g4⟩;rcases g2 b hb with h | h
 .rcases k4.new b h with h | h | h
  .exact .inl h
  .exact (VM h).elim
  .exact .inr h
 .exact .inr (aY b h)
def aoh(hO:jo O)(hS:∀v s ex s',self v s=GR (ex,s')->∀c h l k,(comp O.P (O.hint h) c l k).1=v->DB O h c s ex s'):qH O self:=by
 have heap:∀(n:Nat) (F:aw),O.prog n=GR F->∀(hp:Hp) (ct:Nat) (ax:List AV) (ex:Ex) (s:St) (v:AV),self F.body ⟨fw 0 ax,hp,ct,ct⟩=GR (ex,s)->(ex=.normal\/ex=.ret)->jU s F.dC=GR v->DA O n hp ct ax v s.hp s.ct:=
  fun n F hF hp ct ax ex s v h1 h2 h3=>azV hO hS hF h1 h2 h3
 refine⟨?_,?_,fun hp ct l xs v ap aQ hv=>aq4 hS hv⟩
 .intro n ax r hv;unfold bZ at hv
  cases hL:O.aK.pure n with
  | some sp=>rw[hL] at hv;exact hO.aK n sp ax r hL hv
  | none=>
   simp only[hL] at hv
   cases hF:O.prog n with
   | none=>simp[hF] at hv
   | some F=>
    simp only[hF] at hv
    split at hv
    .rename_i s hb
     cases hr:jU s F.dC with
     | none=>simp[hr] at hv
     | some v=>simp only[hr] at hv;exact Uw (heap n F hF [] 0 ax .normal s v hb (.inl rfl) hr) hv
    .rename_i s hb
     cases hr:jU s F.dC with
     | none=>simp[hr] at hv
     | some v=>simp only[hr] at hv;exact Uw (heap n F hF [] 0 ax .ret s v hb (.inr rfl) hr) hv
    .cases hv
 .intro hp ct n ax v ap aQ hv;unfold jZ at hv
  cases hL:O.aK.heap n with
  | some sp=>rw[hL] at hv;exact hO.HX n sp hp ct ax v ap aQ hL hv
  | none=>
   simp only[hL] at hv
   cases hF:O.prog n with
   | none=>simp[hF] at hv
   | some F=>
    grind
def abW(hO:jo O):∀n,qH O (ev O.prog O.aK n):=by
 intro n
 induction n using vY with
 | _ n ih=>
  refine aoh hO (fun v s ex s' hv c h l k hc=>?_)
  cases n with
  | zero=>rw[KJ] at hv;cases hv
  | succ n=>
   rw[PZ,<-hc] at hv;exact afq hO n (fun k hk=>ih k (by lia)) h c l k n (yz _) s ex s' hv
def sound(hO:jo O){f:Nat}{r:AV}(h:ZL O.prog O.aK n f ax=GR r):eR O f ax r:=(abW hO n).pure f ax r h
end
end
end
def ja:List Nat->List Nat->Bool
 | [],_=>ydB
 | a::x,b::y=>yu a b&&ja x y
 | _::_,[]=>ydC
def og(sub:List Nat):List Nat->Nat->Option Nat
 | [],k=>bif ja sub [] then GR k else GS
 | b::r,k=>bif ja sub (b::r) then GR k else og sub r (k+1)
def Rw:List AV->Option AV
 | [.str s,.str sep]=>
  bif yP s.length 4294967281 then
   match og sep s 0 with
   | some i=>GR (.av [.str (s.take i),.str (s.drop (i+sep.length)),.bool ydB])
   | none=>GR (.av [.str s,.str [],.bool ydC])
  else GS
 | _=>GS
def O3:List AV->Option AV
 | [.str s,.str p]=>GR (bif ja p s then .av [.str (s.drop p.length),.bool ydB] else .av [.str s,.bool ydC])
 | _=>GS
def O4:List AV->Option AV
 | [.str s,.str p]=>GR (.bool (ja p s))
 | _=>GS
def OP:List AV->Option AV
 | [.str s,.str p]=>GR (.str (bif ja p s then s.drop p.length else s))
 | _=>GS
def H5(i:Nat):List Nat->Bool
 | []=>ydC
 | j::r=>bif yu j i then ydB else H5 i r
def mT(set:List Nat):List Nat->List Nat
 | []=>[]
 | b::r=>bif H5 b set then mT set r else b::r
def Hk:List Nat->Bool
 | []=>ydB
 | b::r=>yP b 128&&Hk r
def trimS:List AV->Option AV
 | [.str s,.str set]=>bif Hk set&&(yP s.length 4294967281&&yP set.length 4294967281) then GR (.str (mT set (mT set s.reverse).reverse)) else GS
 | _=>GS
def jv(s:List Nat):Nat->List Nat
 | 0=>[]
 | n+1=>s++jv s n
def Di:List AV->Option AV
 | [.str s,.int .i64 (.ofNat n)]=>bif yG n 1099511627776&&yG (s.length*n) 1099511627776 then GR (.str (jv s n)) else GS
 | _=>GS
def pG:Nat->Nat->List Nat->List Nat
 | 0,_,acc=>acc
 | f+1,n,acc=>bif yP n 10 then (48+n)::acc else pG f (n/10) ((48+n%10)::acc)
def aC(n:Nat):List Nat:=pG (n+1) n []
def bh:Int->List Nat
 | .ofNat n=>aC n
 | .negSucc n=>45::aC (n+1)
def DD:Int->Bool
 | .ofNat n=>yP n 9223372036854775808
 | .negSucc n=>yP n 9223372036854775808
def L2:List AV->Option AV
 | [.int .i64 n]=>bif DD n then GR (.str (bh n)) else GS
 | _=>GS
def CY:List AV->Option AV
 | [.int .u64 (.ofNat n),.int .i64 10]=>bif yP n 18446744073709551616 then GR (.str (aC n)) else GS
 | _=>GS
def cZ:List Nat->Nat->Option Nat
 | [],a=>GR a
 | b::r,a=>bif yG 48 b&&yG b 57 then cZ r (10*a+(b-48)) else GS
def L3:List AV->Option AV
 | [.str s]=>
  bif yP 0 s.length&&yG s.length 18 then
   match cZ s 0 with | some n=>GR (.av [.int .i64 n,.undef]) | none=>GS
  else GS
 | _=>GS
def qK:List AV->Option AV
 | [.int .u64 (.ofNat x),.int .u64 (.ofNat y),.int .u64 (.ofNat c)]=>
  bif yG c 1&&(yP x 18446744073709551616&&yP y 18446744073709551616) then GR (.av [.int .u64 ((x+y+c)%18446744073709551616:Nat),.int .u64 ((x+y+c)/18446744073709551616:Nat)]) else GS
 | _=>GS
def Dq:List AV->Option AV
 | [.int .u64 (.ofNat x),.int .u64 (.ofNat y),.int .u64 (.ofNat c)]=>
  bif yG c 1&&(yP x 18446744073709551616&&yP y 18446744073709551616) then GR (.av [.int .u64 ((x+18446744073709551616*2-y-c)%18446744073709551616:Nat),.int .u64 (bif yG (y+c) x then 0 else 1)]) else GS
 | _=>GS
def AL:List AV->Option AV
 | [.int .u64 (.ofNat x),.int .u64 (.ofNat y)]=>bif yP x 18446744073709551616&&yP y 18446744073709551616 then GR (.av [.int .u64 (x*y/18446744073709551616:Nat),.int .u64 (x*y%18446744073709551616:Nat)]) else GS
 | _=>GS
def dW:Nat->Nat->Nat
 | 0,_=>0
 | f+1,n=>bif yu n 0 then 0 else 1+dW f (n/2)
def K0:List AV->Option AV
 | [.int .u64 (.ofNat x)]=>bif yP x 18446744073709551616 then GR (.int .i64 (dW 64 x)) else GS
 | _=>GS
def HP:List AV->Option AV
 | [.int .u64 (.ofNat x)]=>bif yP x 18446744073709551616 then GR (.int .i64 (64-dW 64 x:Nat)) else GS
 | _=>GS
def PC:List AV->Option AV
 | [.an .f64 b]=>GR (.int .u64 b)
 | _=>GS
def OM:List AV->Option AV
 | [.int .u64 (.ofNat n)]=>GR (.an .f64 n)
 | _=>GS
section
open Go
section
variable {a:AV}{args:Array ym}{ax:List AV}{s:List Nat}{w:yo}
section
variable {O:bE}{n:Nat}
def Kd{w':yo}(h:RowKit.Below w.heap.size w w'):Calm w w':=⟨h.os,h.tape,h.output,h.size,h.block⟩
def apg(k:Nat):Calm w (w.drewN k):=⟨rfl,rfl,rfl,yz _,fun _ _=>rfl⟩
def aph(h:Dz O w){a:Addr}{v:ym}(hc:O.w0.cell? a=GR v):w.cell? a=GR v:=by
 have hb:a.block<O.w0.heap.size:=by
  unfold World.cell? at hc
  cases hq:O.w0.heap[a.block]? with
  | none=>simp[hq] at hc
  | some o=>exact (xx.1 hq).1
 unfold World.cell? at hc ⊢;rw[h.1 _ hb];exact hc
def qG{r:AV}(hr:∀S w' lo u,af O.ae fI S w' r u->qW O.ae S w' lo r u)(gA:∀args w,(callFunc (O.ae n) args).run O.P w=.ok (.enter (O.ae n) args) w)(h:∀w S args,Dz O w->aA O.ae fI S w ax args.toList->wz O.P (O.ae n) args w fun e w'=>∃u,e=.returned u/\Calm w w'/\∀S,af O.ae fI S w' r u):eR O n ax r:=by
 intro w S args hg hS er _;refine .inl ⟨gA args w,Go.callsIn_wide.2 ((h w S args hg er).mono ?_)⟩;rintro e w' ⟨u,rfl,hc,hu⟩;exact⟨u,S,rfl,hc,fun _ h=>h,fun _ h=>.inl h,fun b hb=>yF (hS b hb) hc.size,hr S w' _ u (hu S)⟩
def Ph{r:AV}(hr:∀S w' lo u,af O.ae fI S w' r u->qW O.ae S w' lo r u)(h:∀w S args,aA O.ae fI S w ax args.toList->∃u,(callFunc (O.ae n) args).run O.P w=.ok (.value u) w/\∀S,af O.ae fI S w r u):eR O n ax r:=by
 intro w S args _ hS er _;have⟨u,h1,h2⟩:=h w S args er;exact .inr ⟨u,w,h1,u,S,rfl,Calm.refl,fun _ h=>h,fun _ h=>.inl h,hS,hr S w _ u (h2 S)⟩
def KK:∀S w' lo u,af O.ae fI S w' (.str s) u->qW O.ae S w' lo (.str s) u:=fun S w' lo u h=>⟨[],rfl,h,rfl⟩
def Wi{k:IntKind}{z:Int}:∀S w' lo u,af O.ae fI S w' (.int k z) u->qW O.ae S w' lo (.int k z) u:=fun S w' lo u h=>⟨[],rfl,h,rfl⟩
def atl{k:FloatKind}{z:Nat}:∀S w' lo u,af O.ae fI S w' (.an k z) u->qW O.ae S w' lo (.an k z) u:=fun S w' lo u h=>⟨[],rfl,h,rfl⟩
def ad5{b:Bool}:∀S w' lo u,af O.ae fI S w' (.bool b) u->qW O.ae S w' lo (.bool b) u:=fun S w' lo u h=>⟨[],rfl,h,rfl⟩
def acp{S:Nat->Prop}{w':yo}{lo:Nat}:∀{vs:List AV} {us:List ym},(∀v,v∈vs->(∀ex sz k cs,v≠.c9 ex sz k cs)/\aX v=ydB)->aA O.ae fI S w' vs us->mX O.ae S w' lo vs us []
 | [],us,_,h=>by simp only[aA] at h;exact⟨h,rfl⟩
 | v::vs,us,hv,h=>by
  simp only[aA] at h;obtain⟨u,t,rfl,h1,h2⟩:=h;have h3:=hv v (by simp);refine⟨u,t,[],[],rfl,rfl,?_,acp (fun v hm=>hv v (by simp[hm])) h2⟩;cases v<;>first | exact⟨rfl,h1,h3.2⟩ | exact absurd rfl (h3.1 _ _ _ _)
def Hb{vs:List AV}(hv:∀v,v∈vs->(∀ex sz k cs,v≠.c9 ex sz k cs)/\aX v=ydB):∀S w' lo u,af O.ae fI S w' (.av vs) u->qW O.ae S w' lo (.av vs) u:=by
 intro S w' lo u h;obtain⟨xs,rfl,h⟩:=h;exact⟨xs,[],rfl,acp hv h,by simp⟩
def FD(h:aA O.ae fI S w [a] args.toList):∃u,args=#[u]/\af O.ae fI S w a u:=by
 simp only[aA] at h
 grind
def DE{b:AV}(h:aA O.ae fI S w [a,b] args.toList):∃u v,args=#[u,v]/\af O.ae fI S w a u/\af O.ae fI S w b v:=by
 simp only[aA] at h
 grind
def ag7{b c:AV}(h:aA O.ae fI S w [a,b,c] args.toList):∃u v x,args=#[u,v,x]/\af O.ae fI S w a u/\af O.ae fI S w b v/\af O.ae fI S w c x:=by
 simp only[aA] at h
 grind
def Ke{l:List UInt8}(h:l.map xk=s):af O.ae fI S w (.str s) (.string ⟨l.toArray⟩):=by
 simp only[af];exact⟨_,rfl,h⟩
def toNat_inj{a b:UInt8}:yu a.toNat b.toNat=(a==b):=by
 by_cases h:a=b
 .simp_all
 .have h':a.toNat≠b.toNat:=fun e=>h (UInt8.toNat_inj.1 e)
  have e:(a==b)=ydC:=by simp_all
  rw[e]
  cases hq:yu a.toNat b.toNat with
  | false=>rfl
  | true=>exact absurd (yi hq) h'
def Kn:∀(p s:List UInt8),ja (p.map xk) (s.map xk)=p.isPrefixOf s
 | [],s=>by cases s<;>rfl
 | a::p,[]=>rfl
 | a::p,b::s=>by
  simp only[xb,ja,List.isPrefixOf,Kn p s,toNat_inj]
def acq:∀(s sep:List UInt8) (k:Nat),og (sep.map xk) (s.map xk) k=if 0<=Lib.index s sep then GR (k+(Lib.index s sep).toNat) else GS
 | [],sep,k=>by
  simp only[List.map_nil,og,Lib.index]
  cases sep with
  | nil=>simp[ja]
  | cons a r=>simp[ja]
 | b::s,sep,k=>by
  have ih:=acq s sep (k+1);have hp:=Kn sep (b::s);simp only[xb,og,hp,Lib.index]
  grind
def ad6(b:UInt8):∀cs:List UInt8,H5 b.toNat (cs.map xk)=cs.contains b
 | []=>rfl
 | c::cs=>by
  simp only[xb,H5,ad6 b cs,List.contains_cons,toNat_inj]
  grind
def Vj(cs:List UInt8):∀l:List UInt8,mT (cs.map xk) (l.map xk)=(l.dropWhile (cs.contains ·)).map xk
 | []=>rfl
 | b::l=>by
  simp only[xb,mT,ad6,List.dropWhile_cons,Vj cs l]
  grind
def ad7(l:List UInt8):∀n,jv (l.map xk) n=(Lib.repeatL l n).map xk
 | 0=>rfl
 | n+1=>by simp only[jv,Lib.repeatL,xu,ad7 l n]
def abX:∀(f n:Nat) (acc:List Nat),n<f->pG f n acc=(Lib.decDigits n).map xk++acc
 | 0,n,acc,h=>by lia
 | f+1,n,acc,h=>by
  rw[pG,Lib.decDigits];by_cases hn:n<10
  .rw [show yP n 10=ydB from yy hn,yx,dif_pos hn]
   have:(ycC (48+n)).toNat=48+n:=by
    rw[ybr];lia
   grind
  .have hb:yP n 10=ydC:=by
    cases hq:yP n 10 with
    | false=>rfl
    | true=>exact absurd (yA hq) (by lia)
   rw[hb,yS,dif_neg hn,abX f (n/10) _ (by lia),xu,List.append_assoc]
   have:(ycC (48+n%10)).toNat=48+n%10:=by
    rw[ybr];lia
   grind
def VN(n:Nat):aC n=(Lib.decDigits n).map xk:=by
 rw[aC,abX (n+1) n [] (by lia),List.append_nil]
def aq6(n:Int):bh n=(Lib.itoa n).map xk:=by
 cases n with
 | ofNat k=>
  have:¬ycb k<0:=by simp
  simp only[bh,Lib.itoa,this,xv,VN];rfl
 | negSucc k=>
  have:Int.negSucc k<0:=Int.negSucc_lt_zero k
  simp only[bh,Lib.itoa,this,xN,VN,xb];rfl
def VO:∀f x:Nat,dW f x=Lib.bitLenAux f x
 | 0,_=>rfl
 | f+1,x=>by
  rw[dW,Lib.bitLenAux];by_cases h:x=0
  .simp_all
  .have hb:yu x 0=ydC:=by
    cases hq:yu x 0 with
    | false=>rfl
    | true=>exact absurd (yi hq) h
   rw[hb,yS,yq h,VO f]
def acr:∀{cs:List UInt8},Hk (cs.map xk)=ydB->∀(j:Nat) b,cs[j]? =GR b->b.toNat<128
 | [],_,j,b,h=>by simp at h
 | c::cs,h,j,b,hb=>by
  simp only[xb,Hk,yf] at h
  cases j with
  | zero=>
   simp_all
  | succ j=>exact acr h.2 j b (by simpa using hb)
def ad8:∀{l:List UInt8} {a z:Nat},cZ (l.map xk) a=GR z->Lib.decFrom a l=GR z
 | [],a,z,h=>h
 | b::l,a,z,h=>by
  simp only[xb,cZ] at h
  cases hb:(yG 48 b.toNat&&yG b.toNat 57) with
  | false=>rw[hb] at h;cases h
  | true=>
   rw[hb] at h;simp only[yf] at hb;have h1:=yA hb.1;have h2:=yA hb.2
   have:=ad8 h
   rw[Lib.decFrom,Lib.digitVal,yC ⟨h1,h2⟩]
   grind
def aq7{l:List UInt8}{z:Nat}(h:cZ (l.map xk) 0=GR z)(h0:0<l.length):Lib.atoi l=GR (z:Int):=by
 cases l with
 | nil=>simp at h0
 | cons b r=>
  have hd:=ad8 h;have hb:48<=b.toNat:=by
   simp only[xb,cZ] at h
   cases hb:(yG 48 b.toNat&&yG b.toNat 57) with
   | false=>rw[hb] at h;cases h
   | true=>
    simp_all
  have h1:(b==45)=ydC:=by
   have:b≠45:=fun e=>by subst e;exact absurd hb (by decide)
   grind
  have h2:(b==43)=ydC:=by
   have:b≠43:=fun e=>by subst e;exact absurd hb (by decide)
   grind
  simp only[Lib.atoi,h1,h2,yD,xv,Lib.decNat,List.isEmpty_cons,hd,wS]
section
variable {f:yah}
def ana(hf:O.ae n=f)(gA:∀args w,(callFunc f args).run O.P w=.ok (.enter f args) w)(hc:∀(s p:ByteArray) (w:yo),wz O.P f #[.string s,.string p] w fun e w'=>e=.returned (.tuple #[.string ⟨(Lib.trimPrefix s.data.toList p.data.toList).toArray⟩,.bool (Lib.hasPrefix s.data.toList p.data.toList)])/\w'=w):
  ∀ax r,O3 ax=GR r->eR O n ax r:=by
 intro ax r h;unfold O3 at h
 split at h
 .rename_i s p;simp only[yc] at h;subst h;refine qG ?_ (by rw[hf];exact gA) ?_
  .cases ja p s<;>exact Hb (by simp[aX])
  .intro w S args hg er;obtain⟨u,v,rfl,h1,h2⟩:=DE er;obtain⟨t1,rfl,rfl⟩:=h1;obtain⟨t2,rfl,rfl⟩:=h2;rw[hf];refine (hc t1 t2 w).mono ?_;rintro e w' ⟨rfl,rfl⟩;refine⟨_,rfl,Calm.refl,fun S=>?_⟩;rw[Kn,y5];unfold Lib.trimPrefix Lib.hasPrefix
   cases hp:t2.data.toList.isPrefixOf t1.data.toList with
   | true=>
    simp only[yx,xN,af,aA]
    simp_all
   | false=>
    simp only[yS,yD,xv,af,aA]
    grind
 .cases h
def anb(hf:O.ae n=f)(gA:∀args w,(callFunc f args).run O.P w=.ok (.enter f args) w)(hc:∀(s p:ByteArray) (w:yo),wz O.P f #[.string s,.string p] w fun e w'=>e=.returned (.bool (Lib.hasPrefix s.data.toList p.data.toList))/\w'=w):
  ∀ax r,O4 ax=GR r->eR O n ax r:=by
 intro ax r h;unfold O4 at h
 split at h
 .rename_i s p;simp only[yc] at h;subst h;refine qG ad5 (by rw[hf];exact gA) ?_
  intro w S args hg er;obtain⟨u,v,rfl,h1,h2⟩:=DE er;obtain⟨t1,rfl,rfl⟩:=h1;obtain⟨t2,rfl,rfl⟩:=h2;rw[hf];refine (hc t1 t2 w).mono ?_;rintro e w' ⟨rfl,rfl⟩;refine⟨_,rfl,Calm.refl,fun S=>?_⟩;rw[Kn];simp only[af,Lib.hasPrefix]
 .cases h
def am7(hf:O.ae n=f)(gA:∀args w,(callFunc f args).run O.P w=.ok (.enter f args) w)(hc:∀(s p:ByteArray) (w:yo),wz O.P f #[.string s,.string p] w fun e w'=>e=.returned (.string ⟨(Lib.trimPrefix s.data.toList p.data.toList).toArray⟩)/\w'=w):
  ∀ax r,OP ax=GR r->eR O n ax r:=by
 intro ax r h;unfold OP at h
 split at h
 .rename_i s p;simp only[yc] at h;subst h;refine qG KK (by rw[hf];exact gA) ?_
  intro w S args hg er;obtain⟨u,v,rfl,h1,h2⟩:=DE er;obtain⟨t1,rfl,rfl⟩:=h1;obtain⟨t2,rfl,rfl⟩:=h2;rw[hf];refine (hc t1 t2 w).mono ?_;rintro e w' ⟨rfl,rfl⟩;refine⟨_,rfl,Calm.refl,fun S=>?_⟩;rw[Kn,y5];refine Ke ?_;unfold Lib.trimPrefix Lib.hasPrefix
  cases hp:t2.data.toList.isPrefixOf t1.data.toList with
  | true=>simp[List.map_drop]
  | false=>simp
 .cases h
def atm(hf:O.ae n=f)(gA:∀args w,(callFunc f args).run O.P w=.ok (.enter f args) w){a:Addr}{m:Int}(hm:O.w0.cell? a=GR (.int .i64 m))(hc:∀(s sep:ByteArray) (w:yo),s.size<4294967281->w.cell? a=GR (.int .i64 m)->wz O.P f #[.string s,.string sep] w fun e w'=>e=.returned (.tuple #[.string ⟨(Lib.cut s.data.toList sep.data.toList).1.toArray⟩,.string ⟨(Lib.cut s.data.toList sep.data.toList).2.1.toArray⟩,.bool (Lib.cut s.data.toList sep.data.toList).2.2])/\∃n,w'=w.drewN n):
  ∀ax r,Rw ax=GR r->eR O n ax r:=by
 intro ax r h;unfold Rw at h
 split at h
 .rename_i s sep
  cases hb:yP s.length 4294967281 with
  | false=>rw[hb] at h;cases h
  | true=>
   rw[hb] at h;have key:∀(q:List UInt8×List UInt8×Bool),(∀t1 t2:ByteArray,t1.data.toList.map xk=s->t2.data.toList.map xk=sep->r=.av [.str ((Lib.cut t1.data.toList t2.data.toList).1.map xk),.str ((Lib.cut t1.data.toList t2.data.toList).2.1.map xk),.bool (Lib.cut t1.data.toList t2.data.toList).2.2])->
     (∃a b c,r=.av [.str a,.str b,.bool c])->eR O n [.str s,.str sep] r:=by
    intro q hq avW;obtain⟨a',b',c',rfl⟩:=avW;refine qG (Hb (by simp[aX])) (by rw[hf];exact gA) ?_
    intro w S args hg er;obtain⟨u,v,rfl,h1,h2⟩:=DE er;obtain⟨t1,rfl,e1⟩:=h1;obtain⟨t2,rfl,e2⟩:=h2;rw[hf];have hl:t1.size<4294967281:=by
     have:=ss hb
     rw[<-e1,y5] at this
     simp_all
    refine (hc t1 t2 w hl (aph hg hm)).mono ?_;rintro e w' ⟨rfl,k,rfl⟩;refine⟨_,rfl,apg k,fun S=>?_⟩;simp only[af,aA]
    grind
   refine key ([],[],ydC) ?_ ?_
   .intro t1 t2 e1 e2;subst e1;subst e2;rw[acq] at h;unfold Lib.cut;by_cases h0:0<=Lib.index t1.data.toList t2.data.toList
    .simp_all
    .grind
   .grind
 .cases h
def aq8(hf:O.ae n=f)(gA:∀args w,(callFunc f args).run O.P w=.ok (.enter f args) w)(hc:∀(s cs:ByteArray) (w:yo),s.size<=9223372036854775807->cs.size<4294967281->(∀(j:Nat) b,cs.data.toList[j]? =GR b->b.toNat<128)->wz O.P f #[.string s,.string cs] w fun e w'=>e=.returned (.string ⟨(Lib.trimS s.data.toList cs.data.toList).toArray⟩)/\RowKit.Below w.heap.size w w'):
  ∀ax r,trimS ax=GR r->eR O n ax r:=by
 intro ax r h;unfold trimS at h
 split at h
 .rename_i s cs
  cases hb:(Hk cs&&(yP s.length 4294967281&&yP cs.length 4294967281)) with
  | false=>rw[hb] at h;cases h
  | true=>
   rw[hb] at h;simp only[yx,yc] at h;subst h;simp only[yf] at hb;refine qG KK (by rw[hf];exact gA) ?_
   intro w S args hg er;obtain⟨u,v,rfl,h1,h2⟩:=DE er;obtain⟨t1,rfl,rfl⟩:=h1;obtain⟨t2,rfl,rfl⟩:=h2;have rE:=ss hb.2.1;have rF:=ss hb.2.2;rw[y5] at rE rF;rw[hf];refine (hc t1 t2 w (by rw[Lib.size_eq];lia) (by rw[Lib.size_eq];lia) (acr hb.1)).mono ?_
   rintro e w' ⟨rfl,hw⟩;refine⟨_,rfl,Kd hw,fun S=>Ke ?_⟩;simp only[Lib.trimS,Lib.trimLeftS,Lib.trimRightS];rw[<-yaT,Vj,<-yaT,Vj]
 .cases h
def aoi(hf:O.ae n=f)(gA:∀args w,(callFunc f args).run O.P w=.ok (.enter f args) w)(hc:∀(s:ByteArray) (c:Nat) (w:yo),c<=9223372036854775807->s.size*c<=140737488355328->wz O.P f #[.string s,.int .i64 c] w fun e w'=>e=.returned (.string ⟨(Lib.repeatL s.data.toList c).toArray⟩)/\RowKit.Below w.heap.size w w'):
  ∀ax r,Di ax=GR r->eR O n ax r:=by
 intro ax r h;unfold Di at h
 split at h
 .rename_i s c
  cases hb:(yG c 1099511627776&&yG (s.length*c) 1099511627776) with
  | false=>rw[hb] at h;cases h
  | true=>
   rw[hb] at h;simp only[yx,yc] at h;subst h;simp only[yf] at hb;have l1:=yA hb.1;have l2:=yA hb.2;refine qG KK (by rw[hf];exact gA) ?_
   intro w S args hg er;obtain⟨u,v,rfl,h1,h2⟩:=DE er;obtain⟨t1,rfl,rfl⟩:=h1;subst h2;rw[hf];rw[y5] at l2;refine (hc t1 c w (by lia) (by rw[Lib.size_eq];lia)).mono ?_
   rintro e w' ⟨rfl,hw⟩;exact⟨_,rfl,Kd hw,fun S=>Ke (ad7 _ _).symm⟩
 .cases h
def aq9(hf:O.ae n=f)(gA:∀args w,(callFunc f args).run O.P w=.ok (.enter f args) w)(hc:∀(z:Int) (w:yo),-9223372036854775808<=z->z<=9223372036854775807->Dz O w->wz O.P f #[.int .i64 z] w fun e w'=>e=.returned (.string ⟨(Lib.itoa z).toArray⟩)/\Calm w w'):
  ∀ax r,L2 ax=GR r->eR O n ax r:=by
 intro ax r h;unfold L2 at h
 split at h
 .rename_i z
  cases hb:DD z with
  | false=>rw[hb] at h;cases h
  | true=>
   rw[hb] at h;simp only[yx,yc] at h;subst h;have hz: -9223372036854775808<=z/\z<=9223372036854775807:=by
    cases z with
    | ofNat k=>have:=ss hb;show -9223372036854775808<=(k:Int)/\(k:Int)<=9223372036854775807;lia
    | negSucc k=>have:=ss hb;lia
   refine qG KK (by rw[hf];exact gA) ?_
   intro w S args hg er;obtain⟨u,rfl,h1⟩:=FD er;subst h1;rw[hf];refine (hc z w hz.1 hz.2 hg).mono ?_;rintro e w' ⟨rfl,hw⟩;exact⟨_,rfl,hw,fun S=>Ke (aq6 z).symm⟩
 .cases h
def am8(hf:O.ae n=f)(gA:∀args w,(callFunc f args).run O.P w=.ok (.enter f args) w)(hc:∀(z:Nat) (w:yo),z<18446744073709551616->Dz O w->wz O.P f #[.int .u64 z,.int .i64 10] w fun e w'=>e=.returned (.string ⟨(Lib.decDigits z).toArray⟩)/\Calm w w'):
  ∀ax r,CY ax=GR r->eR O n ax r:=by
 intro ax r h;unfold CY at h
 split at h
 .rename_i z
  cases hb:yP z 18446744073709551616 with
  | false=>rw[hb] at h;cases h
  | true=>
   rw[hb] at h;simp only[yx,yc] at h;subst h;refine qG KK (by rw[hf];exact gA) ?_
   intro w S args hg er;obtain⟨u,v,rfl,h1,h2⟩:=DE er;subst h1;subst h2;rw[hf];refine (hc z w (ss hb) hg).mono ?_;rintro e w' ⟨rfl,hw⟩;exact⟨_,rfl,hw,fun S=>Ke (VN z).symm⟩
 .cases h
def ara(hf:O.ae n=f)(gA:∀args w,(callFunc f args).run O.P w=.ok (.enter f args) w)(hc:∀(s:ByteArray) (z:Int) (w:yo),s.size<=18->Lib.atoi s.data.toList=GR z->wz O.P f #[.string s] w fun e w'=>e=.returned (.tuple #[.int .i64 z,.nilIface])/\Calm w w'):
  ∀ax r,L3 ax=GR r->eR O n ax r:=by
 intro ax r h;unfold L3 at h
 split at h
 .rename_i s
  cases hb:(yP 0 s.length&&yG s.length 18) with
  | false=>rw[hb] at h;cases h
  | true=>
   rw[hb] at h;simp only[yx] at h;simp only[yf] at hb;have l1:=ss hb.1;have l2:=yA hb.2
   split at h
   .rename_i z hz;simp only[yc] at h;subst h;refine qG (Hb (by simp[aX])) (by rw[hf];exact gA) ?_
    intro w S args hg er;obtain⟨u,rfl,h1⟩:=FD er;obtain⟨t1,rfl,rfl⟩:=h1;rw[y5] at l1 l2;have ha:Lib.atoi t1.data.toList=GR (z:Int):=aq7 hz l1;rw[hf];refine (hc t1 z w (by rw[Lib.size_eq];exact l2) ha).mono ?_
    simp only[af,aA]
    grind
   .cases h
 .cases h
def api(hf:O.ae n=f)(gA:∀args w,(callFunc f args).run O.P w=.ok (.enter f args) w)(hc:∀(x y:Nat) (w:yo),x<18446744073709551616->y<18446744073709551616->wz O.P f #[.int .u64 x,.int .u64 y] w fun e w'=>e=.returned (.tuple #[.int .u64 ((x*y/18446744073709551616:Nat):Int),.int .u64 ((x*y%18446744073709551616:Nat):Int)])/\w'=w):
  ∀ax r,AL ax=GR r->eR O n ax r:=by
 intro ax r h;unfold AL at h
 split at h
 .rename_i x y
  cases hb:(yP x 18446744073709551616&&yP y 18446744073709551616) with
  | false=>rw[hb] at h;cases h
  | true=>
   rw[hb] at h;simp only[yx,yc] at h;subst h;simp only[yf] at hb;refine qG (Hb (by simp[aX])) (by rw[hf];exact gA) ?_
   intro w S args hg er;obtain⟨u,v,rfl,h1,h2⟩:=DE er;subst h1;subst h2;rw[hf];refine (hc x y w (ss hb.1) (ss hb.2)).mono ?_;rintro e w' ⟨rfl,rfl⟩;refine⟨_,rfl,Calm.refl,fun S=>?_⟩;simp only[af,aA]
   grind
 .cases h
def apj(hf:O.ae n=f)(gA:∀args w,(callFunc f args).run O.P w=.ok (.enter f args) w)(hc:∀(x:Int) (w:yo),0<=x->x<=18446744073709551615->wz O.P f #[.int .u64 x] w fun e w'=>e=.returned (.int .i64 (Lib.bitLen x.toNat:Nat))/\w'=w):
  ∀ax r,K0 ax=GR r->eR O n ax r:=by
 intro ax r h;unfold K0 at h
 split at h
 .rename_i x
  cases hb:yP x 18446744073709551616 with
  | false=>rw[hb] at h;cases h
  | true=>
   rw[hb] at h;simp only[yx,yc] at h;subst h
   have:=ss hb
   refine qG Wi (by rw[hf];exact gA) ?_
   intro w S args hg er;obtain⟨u,rfl,h1⟩:=FD er;subst h1;rw[hf];refine (hc (ycb x) w (yaQ x) (by show (x:Int)<=_;lia)).mono ?_
   rintro e w' ⟨rfl,rfl⟩;refine⟨_,rfl,Calm.refl,fun S=>?_⟩;rw[VO];rfl
 .cases h
def arb(hf:O.ae n=f)(gA:∀args w,(callFunc f args).run O.P w=.ok (.enter f args) w)(hc:∀(x:Int) (w:yo),0<=x->x<=18446744073709551615->wz O.P f #[.int .u64 x] w fun e w'=>e=.returned (.int .i64 (64-(Lib.bitLen x.toNat:Nat)))/\w'=w):
  ∀ax r,HP ax=GR r->eR O n ax r:=by
 intro ax r h;unfold HP at h
 split at h
 .rename_i x
  cases hb:yP x 18446744073709551616 with
  | false=>rw[hb] at h;cases h
  | true=>
   rw[hb] at h;simp only[yx,yc] at h;subst h
   have:=ss hb
   have hle:∀f x,Lib.bitLenAux f x<=f:=by
    intro f
    induction f with
    | zero=>intro x;exact yz _
    | succ f ih=>
     intro x;rw[Lib.bitLenAux]
     grind
   refine qG Wi (by rw[hf];exact gA) ?_
   intro w S args hg er;obtain⟨u,rfl,h1⟩:=FD er;subst h1;rw[hf];refine (hc (ycb x) w (yaQ x) (by show (x:Int)<=_;lia)).mono ?_
   rintro e w' ⟨rfl,rfl⟩;refine⟨_,rfl,Calm.refl,fun S=>?_⟩;simp only[af,VO];show Value.int .i64 (64-(Lib.bitLenAux 64 x:Int))=Value.int .i64 ((64-Lib.bitLenAux 64 x:Nat):Int)
   grind
 .cases h
def anE(hf:O.ae n=f)(hc:∀(b:Nat) (w:yo),(callFunc f #[.float .f64 b]).run O.P w=.ok (.value (.int .u64 b)) w):
  ∀ax r,PC ax=GR r->eR O n ax r:=by
 intro ax r h;unfold PC at h
 split at h
 .rename_i b;simp only[yc] at h;subst h;refine Ph Wi ?_;intro w S args er;obtain⟨u,rfl,h1⟩:=FD er;simp only[af] at h1;subst h1;rw[hf];exact⟨_,hc b w,fun S=>rfl⟩
 .cases h
def am4(hf:O.ae n=f)(hc:∀(b:Nat) (w:yo),(callFunc f #[.int .u64 b]).run O.P w=.ok (.value (.float .f64 b)) w):
  ∀ax r,OM ax=GR r->eR O n ax r:=by
 intro ax r h;unfold OM at h
 split at h
 .rename_i b;simp only[yc] at h;subst h;refine Ph atl ?_;intro w S args er;obtain⟨u,rfl,h1⟩:=FD er;simp only[af] at h1;subst h1;rw[hf];exact⟨_,hc b w,fun S=>rfl⟩
 .cases h
def apk(hf:O.ae n=f)(hc:∀(x y c:Nat) (w:yo),c<=1->(callFunc f #[.int .u64 x,.int .u64 y,.int .u64 c]).run O.P w=.ok (.value (.tuple #[.int .u64 (((x+y+c)%18446744073709551616:Nat):Int),.int .u64 (((x+y+c)/18446744073709551616:Nat):Int)])) w):
  ∀ax r,qK ax=GR r->eR O n ax r:=by
 intro ax r h;unfold qK at h
 split at h
 .rename_i x y c
  cases hb:(yG c 1&&(yP x 18446744073709551616&&yP y 18446744073709551616)) with
  | false=>rw[hb] at h;cases h
  | true=>
   rw[hb] at h;simp only[yx,yc] at h;subst h;simp only[yf] at hb;refine Ph (Hb (by simp[aX])) ?_;intro w S args er;obtain⟨u,v,z,rfl,h1,h2,h3⟩:=ag7 er;subst h1;subst h2;subst h3;rw[hf];refine⟨_,hc x y c w (yA hb.1),fun S=>?_⟩;simp only[af,aA]
   grind
 .cases h
def apl(hf:O.ae n=f)(hc:∀(x y b:Nat) (w:yo),b<=1->(callFunc f #[.int .u64 x,.int .u64 y,.int .u64 b]).run O.P w=.ok (.value (.tuple #[.int .u64 (((x+18446744073709551616-y-b)%18446744073709551616:Nat):Int),.int .u64 ((if x<y+b then 1 else 0:Nat):Int)])) w):
  ∀ax r,Dq ax=GR r->eR O n ax r:=by
 intro ax r h;unfold Dq at h
 split at h
 .rename_i x y c
  cases hb:(yG c 1&&(yP x 18446744073709551616&&yP y 18446744073709551616)) with
  | false=>rw[hb] at h;cases h
  | true=>
   rw[hb] at h;simp only[yx,yc] at h;subst h;simp only[yf] at hb;have fk:=yA hb.1;have hy:=ss hb.2.2;refine Ph (Hb (by simp[aX])) ?_;intro w S args er;obtain⟨u,v,z,rfl,h1,h2,h3⟩:=ag7 er;subst h1;subst h2;subst h3;rw[hf];refine⟨_,hc x y c w fk,fun S=>?_⟩;simp only[af,aA];refine⟨_,rfl,_,_,rfl,?_,_,_,rfl,?_,rfl⟩
   .grind
   .congr 1
    by_cases h:x<y+c
    .have:yG (y+c) x=ydC:=by
      cases hq:yG (y+c) x with
      | false=>rfl
      | true=>have:=yA hq;lia
     grind
    .rw [yy (by lia),yq h];rfl
 .cases h
end
end
end
end
end VE
