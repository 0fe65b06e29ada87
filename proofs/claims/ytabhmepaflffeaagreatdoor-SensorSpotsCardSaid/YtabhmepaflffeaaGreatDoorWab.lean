import Derived.RangeFuncLeaves
import Derived.OrdersIn
import Derived.LoopNIn
import Derived.RangeFuncIn
import Derived.Lib.Index
import Derived.Lib.ItoaNum
import Derived.Lib.Atoi
import Derived.Lib.BitFns
import Derived.Lib.Repeat
import Derived.Lib.SlTrimSet
import Derived.Shelf.Strings.Cut
import Derived.Shelf.Strings.Prefix
import Derived.Shelf.Small.Bits
import Derived.RowKit
import Derived.Test.YtabhmepaflffeaaGreatDoorWaa
set_option linter.all false
set_option maxRecDepth 100000
open Array renaming getD_eq_getD_getElem?->wv,getElem?_eq_getElem->tf,getElem?_eq_none->yaV,getElem?_eq_some_iff->xC,replicate->uQ
open Bool renaming and_eq_true->yf,false_eq_true->yH,not_eq_true'->vS,or_eq_false_iff->ybn,or_eq_true->wM
open Classical renaming em->tu
open Go renaming Call->yas,Calls->wG,Code->vB,Deferred->yaC,Ending->ybo,Exit->uP,Func->yaY,FuncId->yaf,LeavesInM->ydf,Loop->tp,Obj->yaB,Oper->xa,Operand->xD,Program->xA,ResultVar->ydd,RoundIn->ybP,Value->yj,World->yo
open Int renaming natCast_nonneg->yaI,ofNat->ycb
open List renaming all_eq_true->yan,countP_cons->ybR,getD_eq_getElem?_getD->y9,getElem?_cons_succ->yaW,getElem?_cons_zero->uC,getElem?_eq_getElem->xu,getElem?_eq_some_iff->xW,length_append->yW,length_cons->yB,length_map->yU,length_nil->yM,mapM_cons->ta,map_append->xB,map_cons->yV,map_reverse->yaQ,mem_append->wB,mem_cons->xP,mem_cons_of_mem->xy,mem_cons_self->xO,mem_range->vW
open Nat renaming add_zero->y7,beq->yt,ble->yJ,ble_eq_true_of_le->yz,blt->yQ,eq_of_beq_eq_true->yi,eq_of_mul_eq_mul_right->yaK,eq_or_lt_of_le->vO,eq_zero_or_pos->xj,le_of_ble_eq_true->yA,le_of_lt_succ->uf,le_refl->yx,le_trans->xi,lt_of_lt_of_le->yI,lt_or_ge->vv,lt_succ_self->yca,strongRecOn->ub,testBit->vK,testBit_or->yco,zero_add->ye,zero_le->tG
open Ne renaming symm->yde
open Option renaming bind_some->wT,getD_some->vh,map_some->vd
open Option.some renaming injEq->yc
open Prod.mk renaming injEq->yr
open UInt8 renaming ofNat->ycz,toNat->xr,toNat_ofNat'->ybs
open Option renaming some->Gr,none->Gs
open Bool renaming true->ydy,false->ydz
namespace VE
open Go (IntKind)
variable{pe:AG}{v v':AV}{listed:Array Bool}{tm:Env}{ap hp:Hp}{L:Lib}{rs:List (Nat×Bool×Nat)}{ps:List (Nat×Nat×X)}{Qb:List AV}{acc:List Nat}{xs:List X}{m':Mp}{aO base ct sz:Nat}{S S':Nat->Prop}{ro:Option Nat}{p:Pl}{s' s1:St}{as_ b' body:VC}{x:X}{P Pp:aF}{FZ self:cu}
section
open Go
section
variable {v:AV}{ap:Hp}{lo:Nat}{u:yj}
section
variable {O:bC}{m:Mp}{S:Nat->Prop}{w:yo}{hp:Hp}{ct:Nat}
def adj(hh:aT O m S w hp ct)(id:Nat):aT O m S w (cN hp id) ct:=by
 have sub:∀i o,ak (cN hp id) i=Gr o->ak hp i=Gr o:=fun i o h=>by
  rw[JY] at h
  grind
 exact⟨fun i o p h hm=>hh.obj i o p (sub i o h) hm,hh.lt,fun i j oi oj pi pj hi hj=>hh.inj i j oi oj pi pj (sub i oi hi) (sub j oj hj),hh.slt,hh.blt,hh.low,hh.nf,hh.gZ,fun i o h=>hh.aG i o (sub i o h)⟩
def aeC{id b:Nat}(h:eH m (cN hp id) b):eH m hp b:=by
 have⟨i,o,p,h1,h2,h3⟩:=h;rw[JY] at h1;by_cases hc:id=i
 .grind
 .simp only [hc,xz] at h1;exact⟨i,o,p,h1,h2,h3⟩
def aa8(hh:aT O m S w hp ct){id:Nat}{o:Obj}(hg:ak hp id=Gr o)(hm:m id=Gr p):¬eH m (cN hp id) p.b:=by
 rintro⟨i,o',q,h1,h2,h3⟩;rw[JY] at h1;by_cases hc:id=i
 .grind
 .simp only [hc,xz] at h1;exact hc (hh.inj i id o' o q p h1 hg h2 hm h3).symm
def asg(hd:lU hp ap){b:Nat}(h:eH m ap b):eH m hp b:=by
 have⟨i,o,p,h1,h2,h3⟩:=h
 have:=hd i
 rw[h1] at this
 cases hq:ak hp i with
 | none=>rw[hq] at this;cases this
 | some q=>exact⟨i,q,p,hq,h2,h3⟩
def abB{n:Nat}(hh:aT O m S w hp ct)(hf:freeze n hp v=Gr (v',ap))(hv:af O.ae m S w v u):
  ∃S',aT O m S' w ap ct/\(∀b,S b->S' b)/\(∀b,S' b->S b\/eH m hp b)/\aV v'=ydy/\af O.ae fA S' w v' u/\jM O.ae S' w lo v' u []:=by
 have⟨h1,h2,h3⟩:=Uk (O:=O) hf;have⟨S',g1,g2,g3⟩:=aeu hh h1 (fun id o p ho hm=>by
  have:=h2 id
  rw[ho] at this
  cases hq:ak hp id with
  | none=>rw[hq] at this;cases this
  | some q=>exact⟨q,rfl⟩) (yx _) (fun id o ho=>(by
  have:=h2 id
  rw[ho] at this
  cases hq:ak hp id with
  | none=>rw[hq] at this;cases this
  | some q=>exact hh.aG id q hq))
 have⟨k1,k2⟩:=h3 ap m S' w ct dd.refl g1;have hr:=k1 u (nN (fun _ _ h=>h) g2 (fun _ _=>rfl) v u hv);have bQ:af O.ae fA S' w v' u:=zk (fun _ h=>h) (fun _ _=>rfl) v' u k2 hr;refine⟨S',g1,g2,g3,k2,bQ,?_⟩
 cases v' with
 | cR _ _ _ _=>simp[aV] at k2
 | _=>exact⟨rfl,bQ,k2⟩
def aob{bs:List Nat}(hS:∀b,S b->S' b)(hn:∀b,b∈bs->¬S' b)(h:jM O.ae S w lo v u bs):jM O.ae S' w lo v u bs:=by
 cases v with
 | cR ex sz n cs=>
  obtain⟨b,o,c,arr,t,rfl,rfl,g1,g2,g3,g4,g5,g6,g7,g8,g9⟩:=h;exact⟨b,o,c,arr,t,rfl,rfl,g1,g2,g3,hn b (by simp),g5,g6,g7,Cy hS (fun _ _=>rfl) cs b o g9 rfl g8,g9⟩
 | _=>simp only[jM] at h ⊢;exact⟨h.1,zk hS (fun _ _=>rfl) _ _ h.2.2 h.2.1,h.2.2⟩
def acp{n:Nat}(hh:aT O m S w hp ct)(hf:zy n hp v=Gr (v',ap))(hv:af O.ae m S w v u)(aZ:∀b,eH m hp b->lo<=b):
  ∃S' bs,aT O m S' w ap ct/\(∀b,S b->S' b)/\(∀b,S' b->S b\/eH m hp b)/\jM O.ae S' w lo v' u bs/\bs.Nodup/\(∀b,b∈bs->eH m hp b/\¬eH m ap b)/\(∀b,eH m ap b->eH m hp b):=by
 have frozen:freeze n hp v=Gr (v',ap)->∃S' bs,aT O m S' w ap ct/\(∀b,S b->S' b)/\(∀b,S' b->S b\/eH m hp b)/\jM O.ae S' w lo v' u bs/\bs.Nodup/\(∀b,b∈bs->eH m hp b/\¬eH m ap b)/\(∀b,eH m ap b->eH m hp b):=by
  intro hz;have⟨S',g1,g2,g3,g4,g5,g6⟩:=abB (lo:=lo) hh hz hv
  exact⟨S',[],g1,g2,g3,g6,by simp,by simp,fun b hb=>asg (Uk (O:=O) hz).2.1 hb⟩
 unfold zy at hf
 split at hf
 .rename_i id o k
  split at hf
  .rename_i ex sz cs hg
   cases hc:yJ (o+k*sz) cs.length with
   | false=>rw[hc] at hf;cases hf
   | true=>
    rw[hc] at hf;obtain⟨rfl,rfl⟩:=hf;have hle:=yA hc;obtain⟨p,c,hm,rfl,h1,h2⟩:=hv;have⟨p',arr,t,g1,g2,g3,g4,g5,g6,g7,g8,g9,g10⟩:=hh.obj id _ _ hg hm;rw[hm] at g1;injection g1 with g1
    subst g1;rw[g3] at h2;refine⟨S,[p.b],adj hh id,fun _ h=>h,fun _ h=>.inl h,?_,by simp,?_,fun b hb=>aeC hb⟩
    .refine ⟨p.b,p.o+o,c,arr,t,rfl,rfl,h1,?_,aZ _ (KB hg hm),g9 rfl,g2,?_,by lia,?_,El _ (CD _ _ (g8 rfl))⟩
     .intro hx;simp only[yf] at hx;have e1:=yi hx.2;have e2:=rL.1 hx.1.2;have e3:=g6 hx.1.1
      have:c*sz=k*sz:=by lia
      exact yaK e2 this
     .simp only [slice,List.length_take,List.length_drop];lia
     .exact Cy (fun _ h=>h) (fun _ _=>rfl) _ _ _ (El _ (CD _ _ (g8 rfl))) rfl (CC _ _ _ _ (Ak _ _ _ _ g7))
    .intro b hb;simp only[List.mem_singleton] at hb;subst hb;exact⟨KB hg hm,aa8 hh hg hm⟩
  .grind
 .grind
def abC{lo n:Nat}:∀{vs eK:List AV} {us:List yj} {hp ap:Hp} {S:Nat->Prop},aT O m S w hp ct->Ew n hp vs=Gr (eK,ap)->aE O.ae m S w vs us->(∀b,eH m hp b->lo<=b)->
  ∃S' bs,(∀b,S b->S' b)/\(∀b,S' b->S b\/eH m hp b)/\mF O.ae S' w lo eK us bs/\bs.Nodup/\(∀b,b∈bs->eH m hp b)/\(∀b,S' b->b<w.heap.size)
 | [],eK,us,hp,ap,S,hh,hf,hv,aZ=>by
  obtain⟨rfl,rfl⟩:=hf;exact⟨S,[],fun _ h=>h,fun _ h=>.inl h,by simp only[mF];exact⟨hv,by trivial⟩,by simp,by simp,hh.slt⟩
 | v::r,eK,us,hp,ap,S,hh,hf,hv,aZ=>by
  simp only[Ew] at hf
  cases h1:zy n hp v with
  | none=>simp[h1] at hf
  | some q=>
   have⟨v1,a6⟩:=q;simp only[h1] at hf
   cases h2:Ew n a6 r with
   | none=>simp[h2] at hf
   | some q2=>
    simp only[h2,yc,yr] at hf;obtain⟨rfl,rfl⟩:=hf;obtain⟨u,t,rfl,fB,cU⟩:=hv;have⟨S1,b1,k1,k2,k3,k4,k5,k6,k7⟩:=acp (lo:=lo) hh h1 fB aZ;have⟨S2,b2,g1,g2,g3,g4,g5,g6⟩:=abC (us:=t) k1 h2 (jt (fun _ _ h=>h) k2 (fun _ _=>rfl) _ _ cU) (fun b hb=>aZ b (k7 b hb));have Xl:∀b,b∈b1->¬S2 b:=by
     intro b hb hs;rcases g2 b hs with h | h
     .cases v1 with
      | cR ex sz n cs=>
       simp only[jM] at k4
       grind
      | _=>simp only[jM] at k4;rw[k4.1] at hb;cases hb
     .grind
    refine⟨S2,b1++b2,fun b hb=>g1 b (k2 b hb),fun b hb=>?_,?_,?_,?_,g6⟩
    .grind
    .simp only [mF];exact⟨u,t,b1,b2,rfl,rfl,aob g1 Xl k4,g3⟩
    .grind
    .grind
def Uo{lo:Nat}:∀{cs:List AV} {us:List yj},aH cs=ydy->aE O.ae fA S w cs us->mF O.ae S w lo cs us []
 | [],us,_,h=>by simp only[aE] at h;exact⟨h,by trivial⟩
 | c::r,us,hp,h=>by
  obtain⟨u,t,rfl,h1,h2⟩:=h;simp only[aH,yf] at hp;refine⟨u,t,[],[],rfl,rfl,?_,Uo hp.2 h2⟩
  cases c with
  | cR _ _ _ _=>simp[aV] at hp
  | _=>exact⟨rfl,h1,hp.1⟩
def aoc{r:AV}(hh:aT O m S w hp ct)(hr:result hp v=Gr r)(hv:af O.ae m S w v u)(aZ:∀b,eH m hp b->lo<=b):
  ∃S',(∀b,S b->S' b)/\(∀b,S' b->S b\/eH m hp b)/\(∀b,S' b->b<w.heap.size)/\qv O.ae S' w lo r u:=by
 unfold result at hr
 split at hr
 .rename_i vs
  split at hr
  .cases h1:Ew deep hp vs with
   | none=>simp[h1] at hr
   | some q=>
    simp only[h1,yc] at hr;subst hr;obtain⟨us,rfl,hv⟩:=hv;have⟨S',bs,g1,g2,g3,g4,g5,g6⟩:=abC (lo:=lo) hh h1 hv aZ;exact⟨S',g1,g2,g6,us,bs,rfl,g3,g4⟩
  .cases h1:freeze deep hp (.av vs) with
   | none=>simp[h1] at hr
   | some q=>
    have⟨v',ap⟩:=q;simp only[h1,yc] at hr;subst hr;have⟨S',g1,g2,g3,g4,g5,g6⟩:=abB (lo:=lo) hh h1 hv;refine⟨S',g2,g3,g1.slt,?_⟩
    cases v' with
    | av cs=>
     obtain⟨xs,rfl,g5⟩:=g5;exact⟨xs,[],rfl,Uo (by simpa[aV] using g4) g5,by simp⟩
    | _=>exact⟨[],g6⟩
 .rename_i Ss
  cases h1:zy deep hp v with
  | none=>simp[h1] at hr
  | some q=>
   have⟨v',ap⟩:=q;simp only[h1,yc] at hr;subst hr;have⟨S',bs,g1,g2,g3,g4,_⟩:=acp (lo:=lo) hh h1 hv aZ;refine⟨S',g2,g3,g1.slt,?_⟩
   cases v' with
   | av cs=>
    obtain⟨rfl,h2,h3⟩:=g4;obtain⟨xs,rfl,h2⟩:=h2;exact⟨xs,[],rfl,Uo (by simpa[aV] using h3) h2,by simp⟩
   | _=>exact⟨bs,g4⟩
end
end
end
section
open Go
def WF(ro:Option Nat):Fence:={Fence.wide with round:=ro}
section
variable {O:bC}
def afo(O:bC)(hp:Hp)(ct:Nat)(l:Nat)(xs:List AV)(v:AV)(ap:Hp)(aO:Nat):Prop:=
 ∀(m:Mp) (S:Nat->Prop) (w:yo) (args:Array yj) (p:Pl),aT O m S w hp ct->m l=Gr p->aE O.ae m S w xs args.toList->
  ∃f tmps assign body,(Instr.yield p.b args).run O.P w=.ok (.round p.b f tmps assign body) w/\ybP Fence.wide 0 O.P p.b f tmps assign body w (Bq O m S w hp ct v ap aO)
structure pX(O:bC)(run:cu):Prop where
 pure:∀n aw r,bO O.prog O.aJ run n aw=Gr r->eJ O n aw r
 heap:∀hp ct n aw v ap aO,jG O.prog O.aJ run hp ct n aw=Gr (v,ap,aO)->Dc O n hp ct aw v ap aO
 round:∀hp ct l xs v ap aO,jT run hp ct l xs=Gr (v,ap,aO)->afo O hp ct l xs v ap aO
end
section
variable {P:xA}{o:xa}{a:Act}{w:yo}{ro:Option Nat}{next:Act->yo->Prop}{Q:uP->Act->yo->Prop}
def Ol{c:yas}{f:xD}(ho:o.op=.call c)(hc:c.callee=.value f){g:yaf}{fi ca:Array yj}(hf:a.eval f=.func (.func g) fi ca){R:ybo->yo->Prop}(h:CQ P g (fi++c.args.map a.eval++ca) w R)(hn:∀e w',R e w'->∃u,e=.returned u/\next (a.put o.dst u) w'):o.wpIn (WF ro) 0 P a w next Q:=by
 have eW:(o.semAt ro a.eval).run P w=(callFunc g (fi++c.args.map a.eval++ca)).run P w:=by
  rw[Oper.semAt_eq _ _ _ (fun c' h'=>by rw[ho] at h';cases h')];simp only[execOp,ho,resolve,hc,Deferred.ofValue,hf,Sem.run_bind,Sem.run_pure,Result.andThen_ok,invoke]
 refine⟨fun _ _=>trivial,?_⟩;show o.uponIn (WF ro) 0 P a next Q ((o.semAt ro a.eval).run P w)
 rw[eW];rcases h with ⟨h1,h2⟩ | ⟨u,w',h1,h2⟩
 .rw [h1,Oper.uponIn_enter];refine⟨fun h=>by simp[WF,Fence.wide] at h,?_⟩;have h3:CallsIn (WF ro) 0 P g (fi++c.args.map a.eval++ca) w R:=h2;refine CallsIn.mono h3 (fun e w' he=>?_);obtain⟨u,rfl,hq⟩:=hn e w' he;exact hq
 .rw [h1];have⟨u',e,hq⟩:=hn _ _ h2;injection e with e
  subst e;exact hq
def ap8{c:yas}{f:xD}(ho:o.op=.call c)(hc:c.callee=.value f){l:Nat}(hf:a.eval f=.func (.yield l) #[] #[]){R:ybo->yo->Prop}{g:yaf}{tmps:Array yj}{assign body:vB}(hy:(Instr.yield l (c.args.map a.eval)).run P w=.ok (.round l g tmps assign body) w)(h:ybP Fence.wide 0 P l g tmps assign body w R)(hn:∀e w',R e w'->∃u,e=.returned u/\next (a.put o.dst u) w'):o.wpIn (WF ro) 0 P a w next Q:=by
 have eW:(o.semAt ro a.eval).run P w=.ok (.round l g tmps assign body) w:=by
  rw[Oper.semAt_eq _ _ _ (fun c' h'=>by rw[ho] at h';cases h')];simp only[execOp,ho,resolve,hc,Deferred.ofValue,hf,Sem.run_bind,Sem.run_pure,Result.andThen_ok,invoke,Array.empty_append];exact hy
 refine⟨fun _ _=>trivial,?_⟩;show o.uponIn (WF ro) 0 P a next Q ((o.semAt ro a.eval).run P w)
 rw[eW,Oper.uponIn_round];refine⟨fun h=>by simp[WF,Fence.wide] at h,?_⟩;have h3:ybP (WF ro) 0 P l g tmps assign body w R:=h;refine RoundIn.mono h3 (fun e w' he=>?_);obtain⟨u,rfl,hq⟩:=hn e w' he;exact hq
def KC{n:Next}{u:yj}{w':yo}(hd:∀c,o.op≠.defer c)(h:(execOp a.eval o).run P w=.ok n w')(hn:n=.value u\/(n=.skip/\u=undef))(hq:next (a.put o.dst u) w'):o.wpIn (WF ro) 0 P a w next Q:=by
 refine⟨fun _ _=>trivial,?_⟩;show o.uponIn (WF ro) 0 P a next Q ((o.semAt ro a.eval).run P w)
 rw[Oper.semAt_eq _ _ _ hd,h];rcases hn with rfl | ⟨rfl,rfl⟩
 .exact hq
 .exact hq
end
def qw(P:xA)(H:Hint)(q:Op)(o:xa):Prop:=
 (∃k,q=aW P H k o)\/(∃c f rs,o.op=.call c/\c.callee=.value f/\q=.jV rs (aP H f) (jd H c.args.toList))\/
  (∃t x y sz rs,o.op=.store t x y/\cC P t=Gr sz/\q=.mf rs sz (aP H x) (aP H y))\/
  (∃k rs sz b x y,Op.ew sz b x y=aW P H k o/\q=.mg rs sz b x y)\/∃k n sz z ps,Op.kQ n sz z ps=aW P H k o/\q=.qQ n sz z ps
def kN:Op->Op
 | .jV _ f xs=>.jV [] f xs
 | .mf _ s x v=>.st s x v
 | .mg _ s b x v=>.ew s b x v
 | o=>o
section
variable {O:bC}{H:Hint}{m:Mp}{S:Nat->Prop}{w:yo}{tm:Env}{a:Act}{hp:Hp}{ct:Nat}{self:cu}{ro:Option Nat}{next:Act->yo->Prop}{Q:uP->Act->yo->Prop}
def Pr{o:xa}{k:Nat}{md:Md}(h:aW O.P H k o=.call md x xs)(hb:x≠.c .undef):∃c f,o.op=.call c/\c.callee=.value f/\x=aP H f/\xs=jd H c.args.toList:=by
 have nb:bad=.call md x xs->False:=fun h=>by simp only[bad,Op.call.injEq] at h;exact hb h.2.1.symm
 cases ho:o.op with
 | call c=>
  have⟨callee,args,ts⟩:=c;simp only[aW,ho] at h
  split at h
  .rename_i f;cases hm:H.mode k<;>simp only[hm,Op.call.injEq,reduceCtorEq] at h
   all_goals exact⟨_,f,rfl,rfl,h.2.1.symm,h.2.2.symm⟩
  .repeat' split at h
   all_goals first
    | exact (nb h).elim
    | (cases h;done)
    | (revert h;generalize yt _ _=bb;intro h;cases bb<;>first | exact (nb h).elim | (cases h;done))
  .exact (nb h).elim
 | binOp op t x' y ty=>
  cases op<;>simp only[aW,ho,rT,zp] at h
  case eql=>
        repeat' split at h
        all_goals first
         | exact (nb h).elim
         | (cases h;done)
         | (cases bE:(O.P.stoodInHeld t||O.P.eqGuardType O.P.depth t)<;>rw[bE] at h<;>first | exact (nb h).elim | (cases h;done))
  case neq=>
        repeat' split at h
        all_goals first
         | exact (nb h).elim
         | (cases h;done)
         | (cases bE:(O.P.stoodInHeld t||O.P.eqGuardType O.P.depth t)<;>rw[bE] at h<;>first | exact (nb h).elim | (cases h;done))
  all_goals cases h
 | buildSlice t n parts=>
  simp only[aW,ho] at h
  repeat' split at h
  all_goals first
   | exact (nb h).elim
   | (cases h;done)
   | (revert h;generalize yJ _ _=bb;intro h;cases bb<;>first | exact (nb h).elim | (simp only[yy] at h;cases h;done))
 | makeMap t r=>
  cases r<;>simp only[aW,ho] at h
  .repeat' split at h
   all_goals first
    | exact (nb h).elim
    | (cases h;done)
  .exact (nb h).elim
 | next x' b=>
  cases b<;>simp only[aW,ho] at h
  .exact (nb h).elim
  .cases h
 | _=>
  simp only[aW,ho] at h
  (repeat' split at h)
  all_goals first
   | contradiction
   | exact (nb h).elim
   | (cases h;done)
def anc{o:xa}{k:Nat}{r:AV×Hp×Nat}(hv:a7 O.prog O.aJ self tm hp ct (aW O.P H k o)=Gr r):∀c,o.op≠.defer c:=by
 intro c ho;simp[aW,ho,bad,a7,fb,aB] at hv
end
end
def rU{a b:Nat}(h:yQ a b=ydy):a<b:=yA h
section
open Go
section
variable {a6:Hp}{cap first aw z:List AV}{g n sz:Nat}{P:xA}
section
variable {O:bC}{H:Hint}{m:Mp}{S:Nat->Prop}{w:yo}{tm:Env}{a:Act}{hp ap Hq:Hp}{ct aO cH:Nat}{self:cu}{ro:Option Nat}{next:Act->yo->Prop}{Q:uP->Act->yo->Prop}
def aod{g:yaB}(hh:aT O m S w Hq cH)(hi:m ct=Gs)(hb:p.b=w.heap.size)(h1:∀b,S b->S' b)(h2:∀b,S' b->S b\/b=w.heap.size):
  cp m S w Hq (gi m ct p) S' (w.alloc g) Hq base where
 os:=rfl
 tape:=rfl
 output:=rfl
 size:=by simp
 same b hb _:=alloc_old hb
 sub:=h1
 still b hb:=alloc_old (hh.slt b hb)
 new b hb:=(h2 b hb).imp (fun h=>h) (fun h=>.inr (by lia))
 own b hb:=by
  have⟨i,o,q,g1,g2,g3⟩:=hb;by_cases hc:i=ct
  .subst hc;rw[ek] at g2
   grind
  .rw [eN hc] at g2;exact .inl ⟨i,o,q,g1,g2,g3⟩
 old i q _ h:=lS hi i q h
 loops b r hb:=⟨r,(alloc_old (xC.1 hb).1).trans hb⟩
def aa9{us:List yj}(hz:cA deep hp Qb=Gr (aw,a6))(hl:dd a6 Hq)(hh:aT O m S w Hq cH)(hr:aE O.ae m S w Qb us):aE O.ae fA S w aw us/\aH aw=ydy:=by
 have⟨_,_,h3⟩:=TK (O:=O) hz;have⟨k1,k2⟩:=h3 Hq m S w cH hl hh;exact⟨Bn (fun _ h=>h) (fun _ _=>rfl) _ _ k2 (k1 us hr),k2⟩
def Vk(hh:aT O m S w Hq cH):Db O w:=⟨hh.nf,hh.gZ⟩
def OT(hH:fW O H)(ht:cg O m S w tm a.tmps){f:xD}{args:Array xD}(hf:aB tm (aP H f)=.fn (.f g) first cap):
  ∃fi ca:Array yj,a.eval f=.func (.func (O.ae g)) fi ca/\aE O.ae m S w (first++(dM tm (jd H args.toList)++cap)) (fi++args.map a.eval++ca).toList:=by
 have rf:=ck hH ht f;rw[hf] at rf;have⟨fi,ca,h1,h2,h3⟩:=rf;refine⟨fi,ca,h1,?_⟩
 have:=nK h2 (nK (EH hH ht args.toList) h3)
 simp_all
def ane(hC:pX O self)(hH:fW O H){o:xa}{c:yas}{f:xD}(ho:o.op=.call c)(jq:c.callee=.value f){r:AV}(hf:aB tm (aP H f)=.fn (.f g) first cap)(hz:cA deep hp (first++(dM tm (jd H c.args.toList)++cap))=Gr (aw,a6))(hr:bO O.prog O.aJ self g aw=Gr r)(hl:dd a6 Hq)(ht:cg O m S w tm a.tmps)(hh:aT O m S w Hq cH)(hn:∀u S' w',aT O m S' w' Hq cH->af O.ae m S' w' (shut r) u->cp m S w Hq m S' w' Hq cH->next (a.put o.dst u) w'):o.wpIn (WF ro) 0 O.P a w next Q:=by
 have⟨fi,ca,h1,h2⟩:=OT hH ht (args:=c.args) hf;have⟨h3,h4⟩:=aa9 hz hl hh h2;refine Ol ho jq h1 (hC.pure g aw r hr w S _ (Vk hh) hh.slt h3 h4) ?_;rintro e w' ⟨u,S',rfl,hw,g1,g2,g3,g4⟩;refine⟨u,rfl,?_⟩;have⟨S2,k1,k2,k3⟩:=acm g4 m;have hS:∀b,S b->S2 b:=fun b hb=>k1 b (g1 b hb)
 have DP:∀b,S2 b->S b\/w.heap.size<=b:=fun b hb=>(k2 b hb).elim (g2 b) (fun h=>.inr h.1)
 have hl:∀b,S2 b->b<w'.heap.size:=fun b hb=>(k2 b hb).elim (g3 b) (fun h=>h.2)
 exact hn u S2 w' (Er hh hw hS DP hl) k3 (CI hh hw hS DP)
def aoe(hC:pX O self)(hH:fW O H){o:xa}{c:yas}{f:xD}(ho:o.op=.call c)(jq:c.callee=.value f){r:AV}(hf:aB tm (aP H f)=.fn (.f g) first cap)(hz:cA deep hp (first++(dM tm (jd H c.args.toList)++cap))=Gr (aw,a6))(hr:bO O.prog O.aJ self g aw=Gr r)(hl:dd (own a6 ct r).2.1 Hq)(iS:(own a6 ct r).2.2<=cH)(aG:∀id o,ak hp id=Gr o->id<ct)(sM:∀id,ct<=id->id<(own a6 ct r).2.2->m id=Gs)(ht:cg O m S w tm a.tmps)(hh:aT O m S w Hq cH)(hn:∀u m' S' w',aT O m' S' w' Hq cH->dI m m'->(∀id p,m' id=Gr p->m id=Gr p\/(ct<=id/\id<(own a6 ct r).2.2))->af O.ae m' S' w' (own a6 ct r).1 u->cp m S w Hq m' S' w' Hq cH->next (a.put o.dst u) w'):
  o.wpIn (WF ro) 0 O.P a w next Q:=by
 have⟨fi,ca,h1,h2⟩:=OT hH ht (args:=c.args) hf;have⟨z1,z2,z3⟩:=TK (O:=O) hz;have Xm:∀id o,ak a6 id=Gr o->id<ct:=fun id o h=>by
  have:=z2 id
  rw[h] at this
  cases hq:ak hp id with
  | none=>rw[hq] at this;cases this
  | some q=>exact aG id q hq
 have au1:∀id o,ak a6 id=Gr o->ak (own a6 ct r).2.1 id=Gr o:=fun id o h=>by
  cases r with
  | av vs=>exact Pq Xm id o h
  | _=>exact Vj Xm id o h
 have qV:dd a6 Hq:=fun id o h=>hl id o (au1 id o h)
 have⟨h3,h4⟩:=aa9 hz qV hh h2;refine Ol ho jq h1 (hC.pure g aw r hr w S _ (Vk hh) hh.slt h3 h4) ?_;rintro e w' ⟨u,S',rfl,hw,g1,g2,g3,g4⟩;refine⟨u,rfl,?_⟩;have DQ:=Er hh hw g1 g2 g3;have oB:=CI (base:=cH) hh hw g1 g2;have⟨m',S2,k1,k2,k3,k4,k5,k6⟩:=au0 (lo:=w.heap.size) DQ hl iS Xm sM g4 hh.gZ (fun j q hq=>hh.blt j q hq);refine hn u m' S2 w' k1 k2 (fun id p h=>(k3 id p h).imp (fun h=>h) (fun h=>⟨h.1,h.2.1⟩)) k4 ⟨hw.os,hw.tape,hw.output,hw.size,fun b hb _=>hw.same b hb,fun b hb=>k5 b (g1 b hb),fun b hb=>hw.same b (hh.slt b hb),?_,?_,fun i q _ h=>k2 i q h,oB.loops⟩
 .grind
 .rintro b ⟨i,ob,q,q1,q2,q3⟩;rcases k3 i q q2 with h | h
  .exact .inl ⟨i,ob,q,q1,h,q3⟩
  .grind
def anf{H:Hint}{o:xa}{k:Nat}(hk:Op.qQ n sz z ps=aW P H k o):False:=by
 cases ho:o.op with
 | call c=>
  obtain⟨callee,args,ts⟩:=c;simp only[aW,ho] at hk
  split at hk
  .rename_i f;cases hm:H.mode k<;>simp only[hm,reduceCtorEq] at hk
  .repeat' split at hk
   all_goals first
    | (cases hk;done)
    | (simp only[bad] at hk;cases hk;done)
    | (revert hk;generalize yt _ _=bb;intro hk;cases bb<;>simp[bad] at hk)
  .simp only [bad] at hk;cases hk
 | binOp op t x' y ty=>
  cases op<;>simp only[aW,ho,rT,zp] at hk
  case eql=>
        repeat' split at hk
        all_goals first
         | (cases hk;done)
         | (simp only[bad] at hk;cases hk;done)
         | (cases bE:(P.stoodInHeld t||P.eqGuardType P.depth t)<;>rw[bE] at hk<;>simp[bad] at hk)
  case neq=>
        repeat' split at hk
        all_goals first
         | (cases hk;done)
         | (simp only[bad] at hk;cases hk;done)
         | (cases bE:(P.stoodInHeld t||P.eqGuardType P.depth t)<;>rw[bE] at hk<;>simp[bad] at hk)
  all_goals cases hk
 | buildSlice t n parts=>
  simp only[aW,ho] at hk
  repeat' split at hk
  all_goals first
   | (cases hk;done)
   | (simp only[bad] at hk;cases hk;done)
   | (revert hk;generalize yJ _ _=bb;intro hk;cases bb<;>simp[bad] at hk)
 | makeMap t r=>
  cases r<;>simp only[aW,ho] at hk
  .repeat' split at hk
   all_goals first
    | (cases hk;done)
    | (simp only[bad] at hk;cases hk;done)
  .simp only [bad] at hk;cases hk
 | next x' b=>
  cases b<;>simp only[aW,ho] at hk
  .simp only [bad] at hk;cases hk
  .cases hk
 | _=>
  simp only[aW,ho] at hk
  (repeat' split at hk)
  all_goals first
   | contradiction
   | (cases hk;done)
   | (simp only[bad] at hk;cases hk;done)
def au2{H:Hint}{o:xa}(hq:qw P H (.qQ n sz z ps) o):∃k,Op.kQ n sz z ps=aW P H k o:=by
 rcases hq with ⟨k,hk⟩ | ⟨_,_,_,_,_,h3⟩ | ⟨_,_,_,_,_,_,_,h3⟩ | ⟨_,_,_,_,_,_,_,h3⟩ | ⟨k,n',pD,z',ps',h1,h3⟩
 .exact (anf hk).elim
 .cases h3
 .cases h3
 .cases h3
 .simp only [Op.qQ.injEq] at h3;obtain⟨rfl,rfl,rfl,rfl⟩:=h3;exact⟨k,h1⟩
def au3(hH:fW O H)(ht:cg O m S w tm a.tmps)(hh:aT O m S w hp ct){o:xa}{k:Nat}{hp0:Hp}(jB:Op.kQ n sz z ps=aW O.P H k o)(hv:bm tm hp0 (.qQ n sz z ps)=Gr v):
  ∃u g,(execOp a.eval o).run O.P w=.ok (.value u) (w.alloc g)/\∀S':Nat->Prop,(∀b,S b->S' b)->S' w.heap.size->af O.ae m S' (w.alloc g) v u:=by
 simp only[bm] at hv
 cases hf:fill tm z ps with
 | none=>simp[hf] at hv
 | some cs=>
  simp only[hf] at hv
  cases hc:(yt cs.length (n*sz)&&(yQ 0 sz&&aH cs)) with
  | false=>rw[hc] at hv;cases hv
  | true=>
   rw[hc] at hv;simp only[yy,yc] at hv;subst hv;simp only[yf] at hc;obtain⟨c1,c2,c3⟩:=hc;have c1':=yi c1;have c2':=rL.1 c2;have hi:m ct=Gs:=by
    cases hm:m ct with
    | none=>rfl
    | some p=>have:=hh.lt ct p hm;omega
   have cx:cM tm hp ct (aW O.P H k o)=Gr (.ay ct 0 n,.cells ydy ydy ydy sz cs):=by
    rw[<-jB];simp only[cM,hf,c1,yy,c3]
   obtain⟨u,g,p,h1,h2,h3,h4⟩:=aev hH ht hh cx;refine⟨u,g,h1,fun S' hS hSn=>?_⟩;obtain⟨ho,hr⟩:=h4 (gi m ct p) (lS hi) ek;simp only[gh] at ho;obtain⟨q,arr,t,g1,g2,g3,g4,g5,g6,g7,g8,_⟩:=ho;rw[ek] at g1;injection g1 with g1
   subst g1;simp only[af,ek,yc] at hr;obtain⟨q,c,rfl,rfl,r3,r4⟩:=hr;simp only[af];refine .inl ⟨_,_,c,rfl,r3,fun _=>?_,.inr (by rw[h2];exact hSn),c3,?_⟩
   .have e:=g6 trivial;rw[<-e,c1',g3,ye] at r4;exact yaK c2' r4
   .rw [y7];exact Cy hS (fun _ _=>rfl) cs _ _ c3 rfl g7
def quiet_step(hC:pX O self)(hH:fW O H){o:xa}{q:Op}(hk:bn q<=1)(hq:qw O.P H q o)(hd:∀c,o.op≠.defer c)(hv:a7 O.prog O.aJ self tm hp ct q=Gr (v,ap,aO))(hl:dd ap Hq)(iS:aO<=cH)(aG:∀id o,ak hp id=Gr o->id<ct)(sM:∀id,ct<=id->id<aO->m id=Gs)(ht:cg O m S w tm a.tmps)(hh:aT O m S w Hq cH)(hn:∀u m' S' w',aT O m' S' w' Hq cH->dI m m'->(∀id p,m' id=Gr p->m id=Gr p\/(ct<=id/\id<aO))->af O.ae m' S' w' v u->cp m S w Hq m' S' w' Hq cH->next (a.put o.dst u) w'):
  o.wpIn (WF ro) 0 O.P a w next Q:=by
 by_cases DR:∃n sz z ps,q=.qQ n sz z ps
 .obtain ⟨n,sz,z,ps,rfl⟩:=DR;obtain⟨k,jB⟩:=au2 hq;simp only[a7] at hv
  cases hm:bm tm hp (.qQ n sz z ps) with
  | none=>simp[hm] at hv
  | some r=>
   simp only[hm,yc,yr] at hv;obtain⟨rfl,rfl,rfl⟩:=hv;obtain⟨u,g,h1,h2⟩:=au3 hH ht hh jB hm;have kW:Calm w (w.alloc g):=⟨rfl,rfl,rfl,by simp,fun b hb=>alloc_old hb⟩
   let S':Nat->Prop:=fun b=>S b\/b=w.heap.size
   have hS:∀b,S b->S' b:=fun b hb=>.inl hb
   have DP:∀b,S' b->S b\/w.heap.size<=b:=fun b hb=>hb.imp id (fun e=>by omega)
   have Cc:∀b,S' b->b<(w.alloc g).heap.size:=fun b hb=>by
    rcases hb with hb | hb
    .have:=hh.slt b hb;simp;omega
    .subst hb;simp
   refine KC hd h1 (.inl rfl) (hn u m S' _ (Er hh kW hS DP Cc) dI.refl (fun _ _ h=>.inl h) (h2 S' hS (.inr rfl)) (CI hh kW hS DP))
 have jB:∃k,q=aW O.P H k o:=by
  rcases hq with h | ⟨c,f,rs,_,_,rfl⟩ | ⟨_,_,_,_,_,_,_,rfl⟩ | ⟨_,_,_,_,_,_,_,rfl⟩ | ⟨_,_,_,_,_,_,h⟩
  .exact h
  .simp [bn] at hk
  .simp [bn] at hk
  .simp [bn] at hk
  .exact (DR ⟨_,_,_,_,h⟩).elim
 obtain⟨k,hq⟩:=jB;have read:∀{v:AV},bm tm hp q=Gr v->dd hp Hq->(∀u m' S' w',aT O m' S' w' Hq cH->dI m m'->(∀id p,m' id=Gr p->m id=Gr p\/(ct<=id/\id<aO))->af O.ae m' S' w' v u->cp m S w Hq m' S' w' Hq cH->next (a.put o.dst u) w')->o.wpIn (WF ro) 0 O.P a w next Q:=by
  intro v hr hl hn;have bQ:=an7 hl hr;rw[hq] at bQ;obtain⟨u,h1,h2⟩:=aet hH ht hh bQ;exact KC hd h1 (.inl rfl) (hn u m S w hh dI.refl (fun _ _ h=>.inl h) h2 cp.refl)
 have makes:∀{v:AV} {b:Obj},cM tm hp ct q=Gr (v,b)->dd ((ct,b)::hp) Hq->ct+1<=cH->m ct=Gs->(∀u m' S' w',aT O m' S' w' Hq cH->dI m m'->(∀id p,m' id=Gr p->m id=Gr p\/(ct<=id/\id<ct+1))->af O.ae m' S' w' v u->cp m S w Hq m' S' w' Hq cH->next (a.put o.dst u) w')->o.wpIn (WF ro) 0 O.P a w next Q:=by
  intro v b hr hl hc hi hn;rw[hq] at hr;have bQ:cM tm Hq ct (aW O.P H k o)=Gr (v,b):=by rw[<-hr];exact JL (fun _ _=>rfl)
  obtain⟨u,g,p,h1,h2,h3,h4⟩:=aev hH ht hh bQ;obtain⟨S',k1,k2,k3⟩:=ac9 (i:=ct) (g:=g) (p:=p) hh hi hc h2 (fun o' mL=>by
   obtain⟨o'',g1,g2⟩:=hl ct b (by rw[iG];simp)
   rw[mL] at g1;injection g1 with g1
   subst g1
   have:=aa6 g2 ek (h4 _ (lS hi) ek).1 h3
   rwa[h2] at this)
  refine KC hd h1 (.inl rfl) (hn u _ S' _ k1 (lS hi) (fun id q hq=>?_) (nN (fun _ _ h=>h) k2 (fun _ _=>rfl) _ _ (h4 _ (lS hi) ek).2) (aod hh hi h2 k2 k3));by_cases hc:id=ct
  .exact .inr (by omega)
  .rw [eN hc] at hq;exact .inl hq
 have cx:∀{q:Op},(match cM tm hp ct q with | some (v,b)=>Gr (v,(ct,b)::hp,ct+1) | none=>(Gs:gQ))=Gr (v,ap,aO)->∃b,cM tm hp ct q=Gr (v,b)/\ap=(ct,b)::hp/\aO=ct+1:=by
  intro q h
  cases hm:cM tm hp ct q with
  | none=>simp[hm] at h
  | some r=>
   obtain⟨v1,b⟩:=r;simp only[hm,yc,yr] at h;obtain⟨rfl,rfl,rfl⟩:=h;exact⟨b,rfl,rfl,rfl⟩
 have iU:∀{q:Op},(match bm tm hp q with | some v=>Gr (v,hp,ct) | none=>(Gs:gQ))=Gr (v,ap,aO)->bm tm hp q=Gr v/\ap=hp/\aO=ct:=by
  intro q h
  cases hm:bm tm hp q with
  | none=>simp[hm] at h
  | some r=>
   simp only[hm,yc,yr] at h;obtain⟨rfl,rfl,rfl⟩:=h;exact⟨rfl,rfl,rfl⟩
 have KD:(∃b,cM tm hp ct q=Gr (v,b)/\ap=(ct,b)::hp/\aO=ct+1)->o.wpIn (WF ro) 0 O.P a w next Q:=by
  rintro⟨b,h1,rfl,rfl⟩;exact makes h1 hl iS (sM ct (yx _) (yca _)) hn
 have au4:(bm tm hp q=Gr v/\ap=hp/\aO=ct)->o.wpIn (WF ro) 0 O.P a w next Q:=by
  rintro⟨h1,rfl,rfl⟩;exact read h1 hl hn
 cases q with
 | st _ _ _=>simp[bn] at hk
 | sE _ _ _ _=>simp[bn] at hk
 | sG _=>simp[bn] at hk
 | ew _ _ _ _=>simp[bn] at hk
 | px _ _ _=>simp[bn] at hk
 | jV _ _ _=>simp[bn] at hk
 | mf _ _ _ _=>simp[bn] at hk
 | mg _ _ _ _ _=>simp[bn] at hk
 | box s x=>exact KD (cx (by simp only[a7] at hv;exact hv))
 | kQ n s z ps=>exact KD (cx (by simp only[a7] at hv;exact hv))
 | qP s b z x y=>exact KD (cx (by simp only[a7] at hv;exact hv))
 | B5=>exact KD (cx (by simp only[a7] at hv;exact hv))
 | sF x=>exact KD (cx (by simp only[a7] at hv;exact hv))
 | call md x xs=>
  cases md with
  | heap=>simp[bn] at hk
  | dyn=>simp[bn] at hk
  | pure=>
   simp only[a7,fb] at hv
   split at hv
   .rename_i g first cap hx
    (try simp only at hv)
    cases hz:cA deep hp (first++(dM tm xs++cap)) with
    | none=>simp[hz] at hv
    | some z=>
     obtain⟨aw,a6⟩:=z;simp only[hz] at hv
     cases hr:bO O.prog O.aJ self g aw with
     | none=>simp[hr] at hv
     | some r=>
      simp only[hr,yc,yr] at hv;obtain⟨rfl,rfl,rfl⟩:=hv;obtain⟨c,f,ho,jq,rfl,rfl⟩:=Pr hq.symm (by rintro rfl;simp[aB] at hx);exact ane hC hH ho jq hx hz hr hl ht hh (fun u S' w' h1 h2 h3=>hn u m S' w' h1 dI.refl (fun _ _ h=>.inl h) h2 h3)
   .simp at hv
   .cases hv
  | own=>
   simp only[a7,fb] at hv
   split at hv
   .rename_i g first cap hx
    (try simp only at hv)
    cases hz:cA deep hp (first++(dM tm xs++cap)) with
    | none=>simp[hz] at hv
    | some z=>
     obtain⟨aw,a6⟩:=z;simp only[hz] at hv
     cases hr:bO O.prog O.aJ self g aw with
     | none=>simp[hr] at hv
     | some r=>
      simp only[hr,yc] at hv;obtain⟨c,f,ho,jq,rfl,rfl⟩:=Pr hq.symm (by rintro rfl;simp[aB] at hx);have e1:v=(own a6 ct r).1:=by rw[hv]
      have e2:ap=(own a6 ct r).2.1:=by rw[hv]
      have e3:aO=(own a6 ct r).2.2:=by rw[hv]
      subst e1;subst e2;subst e3;exact aoe hC hH ho jq hx hz hr hl iS aG sM ht hh hn
   .simp at hv
   .cases hv
 | _=>exact au4 (iU (by simp only[a7] at hv;exact hv))
end
end
end
section
open Go
section
variable {r v:AV}{b sz:Nat}{q:Op}{P:xA}{x y:X}
section
variable {O:bC}{H:Hint}{m:Mp}{S:Nat->Prop}{w:yo}{tm:Env}{a:Act}{hp ap:Hp}{ct aO:Nat}{self:cu}{ro:Option Nat}{next:Act->yo->Prop}{Q:uP->Act->yo->Prop}
def cp.AH{w':yo}{b':Nat}(h:cp m S w hp m' S' w' ap b)(hb:b'<=b):cp m S w hp m' S' w' ap b':=
 ⟨h.os,h.tape,h.output,h.size,h.same,h.sub,h.still,h.new,h.own,fun i q hi hq=>h.old i q (by lia) hq,h.loops⟩
def au5{hp:Hp}{ct:Nat}(aG:∀id o,ak hp id=Gr o->id<ct):∀id o,ak (own hp ct r).2.1 id=Gr o->id<(own hp ct r).2.2:=by
 have hL:∀(vs:List AV) (hp:Hp) (ct:Nat),(∀id o,ak hp id=Gr o->id<ct)->∀id o,ak (lH hp ct vs).2.1 id=Gr o->id<(lH hp ct vs).2.2:=by
  intro vs
  induction vs with
  | nil=>intro hp ct h id o ho;exact h id o ho
  | cons v r ih=>intro hp ct h id o ho;exact ih _ _ (Kl h) id o ho
 cases r with
 | av vs=>exact hL vs hp ct aG
 | _=>exact Kl aG
def au6{hp:Hp}{ct:Nat}(aG:∀id o,ak hp id=Gr o->id<ct):∀id o,ak hp id=Gr o->ak (own hp ct r).2.1 id=Gr o:=by
 cases r with
 | av vs=>exact Pq aG
 | _=>exact Vj aG
def au7{hp:Hp}{ct:Nat}:ct<=(own hp ct r).2.2:=by
 cases r with
 | av vs=>exact Po
 | _=>exact Pn
def ap9{hp:Hp}{ct:Nat}:∀id o,ak (own hp ct r).2.1 id=Gr o->id<ct->ak hp id=Gr o:=by
 have h1:∀(hp:Hp) (ct:Nat) (r:AV) id o,ak (gg hp ct r).2.1 id=Gr o->id<ct->ak hp id=Gr o:=by
  intro hp ct r id o h hc;cases r<;>simp only[gg] at h<;>try exact h
  rw[iG,yp (by lia)] at h;exact h
 have hL:∀(vs:List AV) (hp:Hp) (ct:Nat) id o,ak (lH hp ct vs).2.1 id=Gr o->id<ct->ak hp id=Gr o:=by
  intro vs
  induction vs with
  | nil=>intro hp ct id o ho _;exact ho
  | cons v r ih=>intro hp ct id o ho hc;exact h1 hp ct v id o (ih _ _ id o ho (by have:=Pn (hp:=hp) (ct:=ct) (r:=v);lia)) hc
 cases r with
 | av vs=>exact hL vs hp ct
 | _=>exact h1 hp ct _
structure jH(hp:Hp)(ct:Nat)(ap:Hp)(aO:Nat):Prop where
 le:dd hp ap
 sN:ct<=aO
 lt:∀id o,ak ap id=Gr o->id<aO
 back:∀id o,ak ap id=Gr o->id<ct->∃o',ak hp id=Gr o'
def jH.refl(aG:∀id o,ak hp id=Gr o->id<ct):jH hp ct hp ct:=⟨dd.refl,yx _,aG,fun _ o h _=>⟨o,h⟩⟩
def jH.trans{LR:Hp}{ahU:Nat}(h:jH hp ct ap aO)(k:jH ap aO LR ahU):jH hp ct LR ahU:=
 ⟨h.le.trans k.le,xi h.sN k.sN,k.lt,fun id o ho hi=>let ⟨o1,h1⟩:=k.back id o ho (yI hi h.sN);h.back id o1 h1 hi⟩
def acq{aw:List AV}{a6:Hp}(hz:cA deep hp Qb=Gr (aw,a6))(aG:∀id o,ak hp id=Gr o->id<ct):jH hp ct a6 ct:=by
 have⟨z1,z2,_⟩:=TK (O:=⟨default,⟨fun _=>Gs,fun _=>Gs⟩,fun _=>0,fun _=>Gs,fun _=>⟨0,fun _=>Gs,fun _=>[],fun _=>Gs,fun _=>.pure,fun _=>[]⟩,default⟩) hz;have hb:∀id o,ak a6 id=Gr o->∃o',ak hp id=Gr o':=fun id o h=>by
  have:=z2 id
  rw[h] at this
  cases hq:ak hp id with
  | none=>rw[hq] at this;cases this
  | some q=>exact⟨q,rfl⟩
 exact⟨z1,yx _,fun id o h=>let ⟨o',h'⟩:=hb id o h;aG id o' h',fun id o h _=>hb id o h⟩
def aof(aG:∀id o,ak hp id=Gr o->id<ct):jH hp ct (own hp ct r).2.1 (own hp ct r).2.2:=
 ⟨fun id o h=>⟨o,au6 aG id o h,kh.refl o⟩,au7,au5 aG,fun id o h hi=>⟨o,ap9 id o h hi⟩⟩
def aba{P:aF}(hk:bn q<=1)(hv:a7 P L self tm hp ct q=Gr (v,ap,aO))(aG:∀id o,ak hp id=Gr o->id<ct):jH hp ct ap aO:=by
 have cx:∀{q:Op},(match cM tm hp ct q with | some (v,b)=>Gr (v,(ct,b)::hp,ct+1) | none=>(Gs:gQ))=Gr (v,ap,aO)->jH hp ct ap aO:=by
  intro q h
  cases hm:cM tm hp ct q with
  | none=>simp[hm] at h
  | some r=>
   obtain⟨v1,b⟩:=r;simp only[hm,yc,yr] at h;obtain⟨rfl,rfl,rfl⟩:=h;refine⟨fun id o ho=>⟨o,?_,kh.refl o⟩,by omega,fun id o ho=>?_,fun id o ho hi=>?_⟩
   .rw [iG,yp (by have:=aG id o ho;omega)];exact ho
   .rw [iG] at ho;by_cases hc:ct=id
    .omega
    .simp only [hc,xz] at ho;have:=aG id o ho;omega
   .rw [iG,yp (by omega)] at ho;exact⟨o,ho⟩
 have iU:∀{q:Op},(match bm tm hp q with | some v=>Gr (v,hp,ct) | none=>(Gs:gQ))=Gr (v,ap,aO)->jH hp ct ap aO:=by
  intro q h
  cases hm:bm tm hp q with
  | none=>simp[hm] at h
  | some r=>
   simp only[hm,yc,yr] at h;obtain⟨rfl,rfl,rfl⟩:=h;exact jH.refl aG
 cases bI:q with
 | st _ _ _=>simp[bI,bn] at hk
 | sE _ _ _ _=>simp[bI,bn] at hk
 | sG _=>simp[bI,bn] at hk
 | ew _ _ _ _=>simp[bI,bn] at hk
 | px _ _ _=>simp[bI,bn] at hk
 | jV _ _ _=>simp[bI,bn] at hk
 | mf _ _ _ _=>simp[bI,bn] at hk
 | mg _ _ _ _ _=>simp[bI,bn] at hk
 | box s x=>exact cx (q:=q) (by rw[bI] at hv ⊢;simp only[a7] at hv;exact hv)
 | kQ n s z ps=>exact cx (q:=q) (by rw[bI] at hv ⊢;simp only[a7] at hv;exact hv)
 | qP s b z x y=>exact cx (q:=q) (by rw[bI] at hv ⊢;simp only[a7] at hv;exact hv)
 | B5=>exact cx (q:=q) (by rw[bI] at hv ⊢;simp only[a7] at hv;exact hv)
 | sF x=>exact cx (q:=q) (by rw[bI] at hv ⊢;simp only[a7] at hv;exact hv)
 | call md x xs=>
  subst bI;simp only[a7,fb] at hv
  split at hv
  .rename_i g first cap hx
   cases md with
   | heap=>simp[bn] at hk
   | dyn=>simp[bn] at hk
   | pure=>
    simp only at hv
    cases hz:cA deep hp (first++(dM tm xs++cap)) with
    | none=>simp[hz] at hv
    | some z=>
     obtain⟨aw,a6⟩:=z;simp only[hz] at hv
     cases hr:bO P L self g aw with
     | none=>simp[hr] at hv
     | some r=>
      simp only[hr,yc,yr] at hv;obtain⟨rfl,rfl,rfl⟩:=hv;exact acq hz aG
   | own=>
    simp only at hv
    cases hz:cA deep hp (first++(dM tm xs++cap)) with
    | none=>simp[hz] at hv
    | some z=>
     obtain⟨aw,a6⟩:=z;simp only[hz] at hv
     cases hr:bO P L self g aw with
     | none=>simp[hr] at hv
     | some r=>
      simp only[hr,yc] at hv;have e2:ap=(own a6 ct r).2.1:=by rw[hv]
      have e3:aO=(own a6 ct r).2.2:=by rw[hv]
      subst e2;subst e3;have g1:=acq hz aG;exact g1.trans (aof g1.lt)
  .cases md with
   | heap=>simp[bn] at hk
   | dyn=>simp[bn] at hk
   | _=>simp at hv
  .cases hv
 | _=>exact iU (q:=q) (by rw[bI] at hv ⊢;simp only[a7] at hv;exact hv)
def OU(hh:aT O m S w hp ct)(hg:jH hp ct ap aO):∃S',aT O m S' w ap aO/\(∀b,S b->S' b)/\(∀b,S' b->S b\/eH m hp b)/\∀base,cp m S w hp m S' w ap base:=by
 have hd:∀id o p,ak ap id=Gr o->m id=Gr p->∃o',ak hp id=Gr o':=fun id o p h hm=>hg.back id o h (hh.lt id p hm)
 have⟨S',g1,g2,g3⟩:=aeu hh hg.le hd hg.sN hg.lt;refine⟨S',g1,g2,g3,fun base=>⟨rfl,rfl,rfl,yx _,fun _ _ _=>rfl,g2,fun _ _=>rfl,fun b hb=>(g3 b hb).imp (fun h=>h) .inl,?_,fun _ _ _ h=>h,fun _ r h=>⟨r,h⟩⟩⟩;rintro b ⟨i,o,p,h1,h2,h3⟩;have⟨o',h4⟩:=hd i o p h1 h2;exact .inl ⟨i,o',p,h4,h2,h3⟩
def aqa(hv:cr tm hp ct q=Gr (v,ap,aO)):ct<=aO:=by
 cases q<;>simp only[cr,reduceCtorEq] at hv
 all_goals
  grind
def UM{H:Hint}{o:xa}(hq:qw P H (.jV rs x xs) o):∃c f,o.op=.call c/\c.callee=.value f/\x=aP H f/\xs=jd H c.args.toList:=by
 rcases hq with ⟨k,hk⟩ | ⟨c,f,rs',h1,h2,h3⟩ | ⟨_,_,_,_,_,_,_,h3⟩ | ⟨_,_,_,_,_,_,_,h3⟩ | ⟨_,_,_,_,_,_,h3⟩
 .cases ho:o.op with
  | call c=>
   have⟨callee,args,ts⟩:=c;simp only[aW,ho] at hk
   split at hk
   .rename_i f;cases hm:H.mode k<;>simp only[hm,Op.jV.injEq,reduceCtorEq] at hk
    exact⟨_,f,rfl,rfl,hk.2.1,hk.2.2⟩
   .repeat' split at hk
    all_goals first
     | (cases hk;done)
     | (simp only[bad] at hk;cases hk;done)
     | (revert hk;generalize yt _ _=bb;intro hk;cases bb<;>simp[bad] at hk)
   .simp only [bad] at hk;cases hk
  | binOp op t x' y ty=>
   cases op<;>simp only[aW,ho,rT,zp] at hk
   case eql=>
         repeat' split at hk
         all_goals first
          | (cases hk;done)
          | (simp only[bad] at hk;cases hk;done)
          | (cases bE:(P.stoodInHeld t||P.eqGuardType P.depth t)<;>rw[bE] at hk<;>simp[bad] at hk)
   case neq=>
         repeat' split at hk
         all_goals first
          | (cases hk;done)
          | (simp only[bad] at hk;cases hk;done)
          | (cases bE:(P.stoodInHeld t||P.eqGuardType P.depth t)<;>rw[bE] at hk<;>simp[bad] at hk)
   all_goals cases hk
  | buildSlice t n parts=>
   simp only[aW,ho] at hk
   repeat' split at hk
   all_goals first
    | (cases hk;done)
    | (simp only[bad] at hk;cases hk;done)
    | (revert hk;generalize yJ _ _=bb;intro hk;cases bb<;>simp[bad] at hk)
  | makeMap t r=>
   cases r<;>simp only[aW,ho] at hk
   .repeat' split at hk
    all_goals first
     | (cases hk;done)
     | (simp only[bad] at hk;cases hk;done)
   .simp only [bad] at hk;cases hk
  | next x' b=>
   cases b<;>simp only[aW,ho] at hk
   .simp only [bad] at hk;cases hk
   .cases hk
  | _=>
   simp only[aW,ho] at hk
   (repeat' split at hk)
   all_goals first
    | contradiction
    | (cases hk;done)
    | (simp only[bad] at hk;cases hk;done)
 .simp only [Op.jV.injEq] at h3;exact⟨c,f,h1,h2,h3.2.1,h3.2.2⟩
 .cases h3
 .cases h3
 .cases h3
def ang{H:Hint}{o:xa}{k:Nat}(hk:Op.mf rs sz x y=aW P H k o):False:=by
 cases ho:o.op with
 | call c=>
  have⟨callee,args,ts⟩:=c;simp only[aW,ho] at hk
  split at hk
  .grind
  .repeat' split at hk
   all_goals first
    | (cases hk;done)
    | (simp only[bad] at hk;cases hk;done)
    | (revert hk;generalize yt _ _=bb;intro hk;cases bb<;>simp[bad] at hk)
  .simp only [bad] at hk;cases hk
 | binOp op t x' y ty=>
  cases op<;>simp only[aW,ho,rT,zp] at hk
  case eql=>
        repeat' split at hk
        all_goals first
         | (cases hk;done)
         | (simp only[bad] at hk;cases hk;done)
         | (cases bE:(P.stoodInHeld t||P.eqGuardType P.depth t)<;>rw[bE] at hk<;>simp[bad] at hk)
  case neq=>
        repeat' split at hk
        all_goals first
         | (cases hk;done)
         | (simp only[bad] at hk;cases hk;done)
         | (cases bE:(P.stoodInHeld t||P.eqGuardType P.depth t)<;>rw[bE] at hk<;>simp[bad] at hk)
  all_goals cases hk
 | buildSlice t n parts=>
  simp only[aW,ho] at hk
  repeat' split at hk
  all_goals first
   | (cases hk;done)
   | (simp only[bad] at hk;cases hk;done)
   | (revert hk;generalize yJ _ _=bb;intro hk;cases bb<;>simp[bad] at hk)
 | makeMap t r=>
  cases r<;>simp only[aW,ho] at hk
  .repeat' split at hk
   all_goals first
    | (cases hk;done)
    | (simp only[bad] at hk;cases hk;done)
  .simp only [bad] at hk;cases hk
 | next x' b=>
  cases b<;>simp only[aW,ho] at hk
  .simp only [bad] at hk;cases hk
  .cases hk
 | _=>
  simp only[aW,ho] at hk
  (repeat' split at hk)
  all_goals first
   | contradiction
   | (cases hk;done)
   | (simp only[bad] at hk;cases hk;done)
def anh{H:Hint}{o:xa}{k:Nat}(hk:Op.mg rs sz b x y=aW P H k o):False:=by
 cases ho:o.op with
 | call c=>
  have⟨callee,args,ts⟩:=c;simp only[aW,ho] at hk
  split at hk
  .rename_i f;cases hm:H.mode k<;>simp only[hm,reduceCtorEq] at hk
  .repeat' split at hk
   all_goals first
    | (cases hk;done)
    | (simp only[bad] at hk;cases hk;done)
    | (revert hk;generalize yt _ _=bb;intro hk;cases bb<;>simp[bad] at hk)
  .simp only [bad] at hk;cases hk
 | binOp op t x' y ty=>
  cases op<;>simp only[aW,ho,rT,zp] at hk
  case eql=>
        repeat' split at hk
        all_goals first
         | (cases hk;done)
         | (simp only[bad] at hk;cases hk;done)
         | (cases bE:(P.stoodInHeld t||P.eqGuardType P.depth t)<;>rw[bE] at hk<;>simp[bad] at hk)
  case neq=>
        repeat' split at hk
        all_goals first
         | (cases hk;done)
         | (simp only[bad] at hk;cases hk;done)
         | (cases bE:(P.stoodInHeld t||P.eqGuardType P.depth t)<;>rw[bE] at hk<;>simp[bad] at hk)
  all_goals cases hk
 | buildSlice t n parts=>
  simp only[aW,ho] at hk
  repeat' split at hk
  all_goals first
   | (cases hk;done)
   | (simp only[bad] at hk;cases hk;done)
   | (revert hk;generalize yJ _ _=bb;intro hk;cases bb<;>simp[bad] at hk)
 | makeMap t r=>
  cases r<;>simp only[aW,ho] at hk
  .repeat' split at hk
   all_goals first
    | (cases hk;done)
    | (simp only[bad] at hk;cases hk;done)
  .simp only [bad] at hk;cases hk
 | next x' b=>
  cases b<;>simp only[aW,ho] at hk
  .simp only [bad] at hk;cases hk
  .cases hk
 | _=>
  simp only[aW,ho] at hk
  (repeat' split at hk)
  all_goals first
   | contradiction
   | (cases hk;done)
   | (simp only[bad] at hk;cases hk;done)
def ay7{H:Hint}{o:xa}(hq:qw P H (.st sz x y) o):∃t x' y',o.op=.store t x' y'/\cC P t=Gr sz/\x=aP H x'/\y=aP H y':=by
 obtain⟨k,hk⟩:∃k,Op.st sz x y=aW P H k o:=by
  rcases hq with h | ⟨_,_,_,_,_,h⟩ | ⟨_,_,_,_,_,_,_,h⟩ | ⟨_,_,_,_,_,_,_,h⟩ | ⟨_,_,_,_,_,_,h⟩
  .exact h
  .cases h
  .cases h
  .cases h
  .cases h
 cases ho:o.op with
 | call c=>
  have⟨callee,args,ts⟩:=c;simp only[aW,ho] at hk
  split at hk
  .rename_i f;cases hm:H.mode k<;>simp only[hm,reduceCtorEq] at hk
  .repeat' split at hk
   all_goals first
    | (cases hk;done)
    | (simp only[bad] at hk;cases hk;done)
    | (revert hk;generalize yt _ _=bb;intro hk;cases bb<;>simp[bad] at hk)
  .simp only [bad] at hk;cases hk
 | binOp op t x' y ty=>
  cases op<;>simp only[aW,ho,rT,zp] at hk
  case eql=>
        repeat' split at hk
        all_goals first
         | (cases hk;done)
         | (simp only[bad] at hk;cases hk;done)
         | (cases bE:(P.stoodInHeld t||P.eqGuardType P.depth t)<;>rw[bE] at hk<;>simp[bad] at hk)
  case neq=>
        repeat' split at hk
        all_goals first
         | (cases hk;done)
         | (simp only[bad] at hk;cases hk;done)
         | (cases bE:(P.stoodInHeld t||P.eqGuardType P.depth t)<;>rw[bE] at hk<;>simp[bad] at hk)
  all_goals cases hk
 | buildSlice t n parts=>
  simp only[aW,ho] at hk
  repeat' split at hk
  all_goals first
   | (cases hk;done)
   | (simp only[bad] at hk;cases hk;done)
   | (revert hk;generalize yJ _ _=bb;intro hk;cases bb<;>simp[bad] at hk)
 | makeMap t r=>
  cases r<;>simp only[aW,ho] at hk
  .repeat' split at hk
   all_goals first
    | (cases hk;done)
    | (simp only[bad] at hk;cases hk;done)
  .simp only [bad] at hk;cases hk
 | next x' b=>
  cases b<;>simp only[aW,ho] at hk
  .simp only [bad] at hk;cases hk
  .cases hk
 | store t x' y'=>
  simp only[aW,ho] at hk
  split at hk
  .rename_i s hs;simp only[Op.st.injEq] at hk;obtain⟨rfl,rfl,rfl⟩:=hk;exact⟨t,x',y',rfl,hs,rfl,rfl⟩
  .simp only [bad] at hk;cases hk
 | _=>
  simp only[aW,ho] at hk
  (repeat' split at hk)
  all_goals first
   | contradiction
   | (cases hk;done)
   | (simp only[bad] at hk;cases hk;done)
def afp{H:Hint}{o:xa}(hq:qw P H (.mf rs sz x y) o):∃t x' y',o.op=.store t x' y'/\cC P t=Gr sz/\x=aP H x'/\y=aP H y':=by
 rcases hq with ⟨k,hk⟩ | ⟨_,_,_,_,_,h3⟩ | ⟨t,x',y',pD,rs',h1,h2,h3⟩ | ⟨_,_,_,_,_,_,_,h3⟩ | ⟨_,_,_,_,_,_,h3⟩
 .exact (ang hk).elim
 .cases h3
 .simp only [Op.mf.injEq] at h3;obtain⟨_,rfl,rfl,rfl⟩:=h3;exact⟨t,x',y',h1,h2,rfl,rfl⟩
 .cases h3
 .cases h3
def afq{H:Hint}{o:xa}(hq:qw P H (.mg rs sz b x y) o):∃k,Op.ew sz b x y=aW P H k o:=by
 rcases hq with ⟨k,hk⟩ | ⟨_,_,_,_,_,h3⟩ | ⟨_,_,_,_,_,_,_,h3⟩ | ⟨k,rs',pD,b',x',y',h1,h3⟩ | ⟨_,_,_,_,_,_,h3⟩
 .exact (anh hk).elim
 .cases h3
 .cases h3
 .simp only [Op.mg.injEq] at h3;obtain⟨_,rfl,rfl,rfl,rfl⟩:=h3;exact⟨k,h1⟩
 .cases h3
def au8{H:Hint}{o:xa}(hq:qw P H (.ew sz b x y) o):∃k,Op.ew sz b x y=aW P H k o:=by
 rcases hq with h | ⟨_,_,_,_,_,h3⟩ | ⟨_,_,_,_,_,_,_,h3⟩ | ⟨_,_,_,_,_,_,_,h3⟩ | ⟨_,_,_,_,_,_,h3⟩
 .exact h
 .cases h3
 .cases h3
 .cases h3
 .cases h3
def ani{H:Hint}{o:xa}(hq:qw P H q o):qw P H (kN q) o:=by
 cases h:q with
 | jV rs f xs=>
  subst h;have⟨c,f',g1,g2,g3,g4⟩:=UM hq;exact .inr (.inl ⟨c,f',[],g1,g2,by rw[g3,g4];rfl⟩)
 | mf rs sz x y=>
  subst h;have⟨t,x',y',g1,g2,g3,g4⟩:=afp hq;refine .inl ⟨0,?_⟩;simp only[kN,aW,g1,g2,g3,g4]
 | mg rs sz b x y=>
  subst h;exact .inl (afq hq)
 | _=>subst h;exact hq
def adk(hC:pX O self)(hH:fW O H){o:xa}(hq:qw O.P H q o)(hd:∀c,o.op≠.defer c)(hv:a7 O.prog O.aJ self tm hp ct q=Gr (v,ap,aO))(ht:cg O m S w tm a.tmps)(hh:aT O m S w hp ct)(hn:∀u m' S' w',aT O m' S' w' ap aO->ct<=aO->af O.ae m' S' w' v u->cp m S w hp m' S' w' ap ct->next (a.put o.dst u) w'):o.wpIn (WF ro) 0 O.P a w next Q:=by
 have quiet:bn q<=1->o.wpIn (WF ro) 0 O.P a w next Q:=by
  intro hk;have hg:=aba hk hv hh.aG;obtain⟨S1,g1,g2,g3,g4⟩:=OU hh hg;refine quiet_step hC hH hk hq hd hv dd.refl (yx _) hh.aG (fun id h1 h2=>?_) (CF (fun _ _ h=>h) g2 (fun _ _=>rfl) ht) g1 (fun u m' S' w' k1 k2 k3 k4 k5=>hn u m' S' w' k1 hg.sN k4 ((g4 ct).trans (k5.AH hg.sN)))
  cases hm:m id with
  | none=>rfl
  | some p=>have:=hh.lt id p hm;omega
 have VR:∀{q':Op},(∃k,q'=aW O.P H k o)->cr tm hp ct q'=Gr (v,ap,aO)->o.wpIn (WF ro) 0 O.P a w next Q:=by
  intro q' jB hw;obtain⟨k,rfl⟩:=jB;obtain⟨n,u,w',m',S',h1,h2,h3,h4,h5,h6⟩:=asf hH ht hh hw;exact KC hd h1 h2 (hn u m' S' w' h3 (aqa hw) h4 h6)
 have write:cr tm hp ct q=Gr (v,ap,aO)->o.wpIn (WF ro) 0 O.P a w next Q:=by
  intro hw;refine VR ?_ hw;rcases hq with h | ⟨c,f,rs,_,_,rfl⟩ | ⟨_,_,_,_,_,_,_,rfl⟩ | ⟨_,_,_,_,_,_,_,rfl⟩ | ⟨_,_,_,_,_,_,rfl⟩
  .exact h
  .simp [cr] at hw
  .simp [cr] at hw
  .simp [cr] at hw
  .simp [cr] at hw
 have heap:∀{c:yas} {f:xD} {g:Nat} {first cap:List AV},o.op=.call c->c.callee=.value f->aB tm (aP H f)=.fn (.f g) first cap->
   jG O.prog O.aJ self hp ct g (first++(dM tm (jd H c.args.toList)++cap))=Gr (v,ap,aO)->o.wpIn (WF ro) 0 O.P a w next Q:=by
  intro c f g first cap ho jq hx he;obtain⟨fi,ca,h1,h2⟩:=OT hH ht (args:=c.args) hx;refine Ol ho jq h1 (hC.heap _ _ _ _ _ _ _ he m S w _ hh h2) ?_;rintro e w' ⟨u,m',S',rfl,k1,k2,k3,k4⟩;exact⟨u,rfl,hn u m' S' w' k1 k2 k3 k4⟩
 have round:∀{c:yas} {f:xD} {l:Nat} {x y:List AV},o.op=.call c->c.callee=.value f->aB tm (aP H f)=.fn (.y l) x y->
   jT self hp ct l (dM tm (jd H c.args.toList))=Gr (v,ap,aO)->o.wpIn (WF ro) 0 O.P a w next Q:=by
  intro c f l x y ho jq hx he;have rf:=ck hH ht f;rw[hx] at rf;simp only[af] at rf;obtain⟨p,hm,hf⟩:=rf;have fj:=EH hH ht c.args.toList;obtain⟨g,tmps,as_,body,h1,h2⟩:=hC.round _ _ _ _ _ _ _ he m S w (c.args.map a.eval) p hh hm (by simpa using fj);refine ap8 ho jq hf h1 h2 ?_;rintro e w' ⟨u,m',S',rfl,k1,k2,k3,k4⟩;exact⟨u,rfl,hn u m' S' w' k1 k2 k3 k4⟩
 have dyn:∀{c:yas} {f:xD},o.op=.call c->c.callee=.value f->fb O.prog O.aJ self hp ct .dyn (aB tm (aP H f)) (dM tm (jd H c.args.toList))=Gr (v,ap,aO)->o.wpIn (WF ro) 0 O.P a w next Q:=by
  intro c f ho jq he;unfold fb at he
  split at he
  .rename_i g first cap hx
   (try simp only at he)
   cases hp0:aH (first++(dM tm (jd H c.args.toList)++cap)) with
   | true=>
    rw[hp0] at he;simp only[yy] at he
    cases hr:bO O.prog O.aJ self g (first++(dM tm (jd H c.args.toList)++cap)) with
    | none=>simp[hr] at he
    | some r=>
     simp only[hr,yc,yr] at he;obtain⟨rfl,rfl,rfl⟩:=he;obtain⟨fi,ca,h1,h2⟩:=OT hH ht (args:=c.args) hx;refine Ol ho jq h1 (hC.pure g _ r hr w S _ (Vk hh) hh.slt (Bn (fun _ h=>h) (fun _ _=>rfl) _ _ hp0 h2) hp0) ?_;rintro e w' ⟨u,S',rfl,hw,g1,g2,g3,g4⟩;obtain⟨S2,k1,k2,k3⟩:=acm g4 m;have hS:∀b,S b->S2 b:=fun b hb=>k1 b (g1 b hb)
     have DP:∀b,S2 b->S b\/w.heap.size<=b:=fun b hb=>(k2 b hb).elim (g2 b) (fun h=>.inr h.1)
     have hl:∀b,S2 b->b<w'.heap.size:=fun b hb=>(k2 b hb).elim (g3 b) (fun h=>h.2)
     exact⟨u,rfl,hn u m S2 w' (Er hh hw hS DP hl) (yx _) k3 (CI hh hw hS DP)⟩
   | false=>
    rw[hp0] at he;simp only[yT] at he;exact heap ho jq hx he
  .rename_i l x y hx;exact round ho jq hx he
  .cases he
 cases bI:q with
 | jV rs x xs=>
  subst bI;simp only[a7] at hv;have key:=UM hq;obtain⟨c,f,ho,jq,rfl,rfl⟩:=key
  cases hc:fb O.prog O.aJ self hp ct .dyn (aB tm (aP H f)) (dM tm (jd H c.args.toList)) with
  | none=>simp[hc] at hv
  | some r=>
   obtain⟨v1,a6,qZ⟩:=r;simp only[hc] at hv
   cases hs:pW tm hp a6 rs with
   | false=>rw[hs] at hv;cases hv
   | true=>
    rw[hs] at hv;simp only[yy,yc,yr] at hv;obtain⟨rfl,rfl,rfl⟩:=hv;exact dyn ho jq hc
 | call md x xs=>
  subst bI;have jB:∃k,Op.call md x xs=aW O.P H k o:=by
   rcases hq with h | ⟨c,f,rs,_,_,h⟩ | ⟨_,_,_,_,_,_,_,h⟩ | ⟨_,_,_,_,_,_,_,h⟩ | ⟨_,_,_,_,_,_,h⟩
   .exact h
   .cases h
   .cases h
   .cases h
   .cases h
  obtain⟨k,hk⟩:=jB
  cases md with
  | pure=>exact quiet (by simp[bn])
  | own=>exact quiet (by simp[bn])
  | heap=>
   simp only[a7] at hv;obtain⟨c,f,ho,jq,rfl,rfl⟩:=Pr hk.symm (by rintro rfl;simp[aB,fb] at hv);unfold fb at hv
   split at hv
   .rename_i g first cap hx;exact heap ho jq hx hv
   .rename_i l x y hx;exact round ho jq hx hv
   .cases hv
  | dyn=>
   simp only[a7] at hv;obtain⟨c,f,ho,jq,rfl,rfl⟩:=Pr hk.symm (by rintro rfl;simp[aB,fb] at hv);exact dyn ho jq hv
 | mf rs s x y=>
  subst bI;obtain⟨t,x',y',g1,g2,g3,g4⟩:=afp hq;simp only[a7] at hv
  split at hv
  .rename_i id off hx
   cases hf:mA tm id rs with
   | false=>rw[hf] at hv;cases hv
   | true=>
    rw[hf] at hv;simp only[yy] at hv
    exact VR (q':=.st s x y) ⟨0,by simp only[aW,g1,g2,g3,g4]⟩ hv
  .cases hv
 | mg rs s b x y=>
  subst bI;simp only[a7] at hv
  cases hc:cr tm hp ct (.ew s b x y) with
  | none=>simp[hc] at hv
  | some r=>
   obtain⟨v1,a6,qZ⟩:=r;simp only[hc] at hv
   cases hs:(BM tm (aB tm x) rs||pW tm hp a6 rs) with
   | false=>rw[hs] at hv;cases hv
   | true=>
    rw[hs] at hv;simp only[yy,yc,yr] at hv;obtain⟨rfl,rfl,rfl⟩:=hv
    exact VR (q':=.ew s b x y) (afq hq) hc
 | st s x y=>subst bI;exact write (by simpa only[a7] using hv)
 | sE kk x y z=>subst bI;exact write (by simpa only[a7] using hv)
 | sG x=>subst bI;exact write (by simpa only[a7] using hv)
 | ew s b x y=>subst bI;exact write (by simpa only[a7] using hv)
 | px s x y=>subst bI;exact write (by simpa only[a7] using hv)
 | sD k x lo hi=>subst bI;exact quiet (by cases k<;>simp[bn])
 | len k x=>subst bI;exact quiet (by rcases k with _ | _ | k<;>simp[bn])
 | _=>subst bI;exact quiet (by simp[bn])
end
end
end
section
open Go
section
variable {v:AV}{d:Option Nat}
def rY(tm:Env)(g:Option (Nat×Bool)):Option Bool:=
 match g with
 | none=>Gr ydy
 | some (t,b)=>match ai tm t with | .bool c=>Gr (c==b) | .av []=>Gr ydz | _=>Gs
def fC(P:aF)(L:Lib)(self:cu)(tm:Env)(hp:Hp)(ct:Nat)(r:aU):gQ:=
 match rY tm r.guard with
 | some ydy=>a7 P L self tm hp ct r.op
 | some ydz=>Gr (.av [],hp,ct)
 | none=>Gs
def abD{r:aU}{rs:List aU}{s:St}:
  dh P L self (r::rs) s=match fC P L self s.tm s.hp s.ct r with | some (v,hp,ct)=>dh P L self rs {s with tm:=put r.dst v s.tm,hp:=hp,ct:=ct} | none=>Gs:=by
 have⟨d,g,o⟩:=r;simp only[dh,fC]
 cases g with
 | none=>rfl
 | some q=>
  have⟨t,b⟩:=q;simp only[rY];generalize ai s.tm t=x
  cases x with
  | bool c=>
   simp only;cases (c==b)<;>rfl
  | av vs=>cases vs<;>rfl
  | _=>rfl
def aeD(ops:Array xa)(g:Option (Nat×Bool))(g':Option (Nat×Bool)):Prop:=
 (g=Gs/\g'=Gs)\/∃t b j,g=Gr (t,b)/\g'=Gr (j,b)/\(ops[j]?).bind (·.dst)=Gr t
structure Fa(P:xA)(H:Hint)(ops:Array xa)(r:aU)(o:xa):Prop where
 op:qw P H r.op o
 dst:r.dst=o.dst
 ok:Ly H o.dst=ydy
 guard:aeD ops r.guard o.guard
def gE(P:xA)(H:Hint)(ops:Array xa):List aU->List xa->Prop
 | [],[]=>True
 | r::rs,o::l=>(Fa P H ops r o\/(r.guard=Gs/\r.op=bad))/\gE P H ops rs l
 | _,_=>False
def abE{P:xA}{H:Hint}{ops:Array xa}:∀(l:List xa) (k:Nat),gE P H ops (Ez P H ops l k).1 l
 | [],k=>by simp[Ez,gE]
 | o::l,k=>by
  have ih:=abE (P:=P) (H:=H) (ops:=ops) l (k+(bif VP o then 1 else 0));simp only[Ez];generalize hq:Ez P H ops l (k+(bif VP o then 1 else 0))=q at ih;have⟨l',k'⟩:=q;simp only;have fp:gE P H ops (⟨o.dst,Gs,bad⟩::l') (o::l):=⟨.inr ⟨rfl,rfl⟩,ih⟩
  cases hg:o.guard with
  | none=>
   simp only
   cases hd:Ly H o.dst with
   | false=>exact fp
   | true=>exact⟨.inl ⟨.inl ⟨k,rfl⟩,rfl,hd,.inl ⟨rfl,hg⟩⟩,ih⟩
  | some p=>
   have⟨j,b⟩:=p;simp only
   cases ht:(ops[j]?).bind (·.dst) with
   | none=>exact fp
   | some t=>
    simp only
    cases hd:Ly H o.dst with
    | false=>exact fp
    | true=>exact⟨.inl ⟨.inl ⟨k,rfl⟩,rfl,hd,.inr ⟨t,b,j,rfl,hg,ht⟩⟩,ih⟩
section
variable {O:bC}{H:Hint}{m:Mp}{S:Nat->Prop}{w:yo}{tm:Env}{a:Act}{hp ap:Hp}{ct aO:Nat}{self:cu}{ro:Option Nat}{Q:uP->Act->yo->Prop}{ops:Array xa}
def UN{tm:Env}{t:Nat}:ai (put d v tm) t=if d=Gr t then v else ai tm t:=by
 cases d with
 | none=>simp[put]
 | some i=>
  simp only[put,ai];by_cases h:i=t
  .subst h;simp
  .have:yt i t=ydz:=by
    cases hq:yt i t with
    | false=>rfl
    | true=>exact absurd (yi hq) h
   simp[this,h]
def OV(a:Act)(d:Option Nat)(u:yj):(a.put d u).tmps.size=a.tmps.size:=by
 cases d with
 | none=>rfl
 | some i=>simp[Act.put]
def TP(a:Act)(d:Option Nat)(u:yj):(a.put d u).defers=a.defers:=by
 cases d with
 | none=>rfl
 | some i=>rfl
def UO{a:Act}{u:yj}{t:Nat}(hd:∀i,d=Gr i->i<a.tmps.size):(a.put d u).tmps.getD t undef=if d=Gr t then u else a.tmps.getD t undef:=by
 cases d with
 | none=>simp[Act.put]
 | some i=>
  have hi:=hd i rfl;by_cases h:i=t
  .subst h;simp[Act.put,hi]
  .simp only [Act.put,yc,h,xz];simp[Array.getElem?_setIfInBounds_ne h]
def adl{n:Nat}(h:Ly H d=ydy)(hn:H.n<=n):∀i,d=Gr i->i<n:=by
 rintro i rfl
 have:=rL.1 h
 lia
def UP{u:yj}(ht:cg O m S w tm a.tmps)(hd:∀i,d=Gr i->i<a.tmps.size)(hv:af O.ae m S w v u):cg O m S w (put d v tm) (a.put d u).tmps:=fun t=>by
 rw[UN,UO hd]
 split
 .exact hv
 .exact ht t
def acr{o:xa}{g:Option (Nat×Bool)}{b:Bool}(hg:aeD ops g o.guard)(ht:∀t,t∈Wm g->af O.ae m S w (ai tm t) (a.tmps.getD t undef))(hw:rY tm g=Gr b):Region.wanted o (yielded ops a.tmps)=b:=by
 rcases hg with ⟨rfl,h2⟩ | ⟨t,c,j,rfl,h2,h3⟩
 .simp only [rY,yc] at hw;subst hw;simp[Region.wanted,h2]
 .simp only [rY] at hw;have h4:=ht t (by simp[Wm]);simp only[Region.wanted,h2]
  split at hw
  .rename_i d hd;rw[hd] at h4;simp only[af] at h4;simp only[yc] at hw
   have:yielded ops a.tmps j=Gr d:=by
    simp only[yielded,h3,wT];have h5:a.tmps[t]? =Gr (.bool d):=by
     simp only[wv] at h4
     cases hq:a.tmps[t]? with
     | none=>rw[hq] at h4;simp[undef] at h4
     | some x=>rw[hq] at h4;simp at h4;rw[h4]
    rw[h5]
   rw[this,<-hw];cases d<;>cases c<;>rfl
  .rename_i hd;rw[hd] at h4;simp only[af,aE] at h4;have⟨xs,h4,h5⟩:=h4;simp only[yc] at hw;subst hw
   have:yielded ops a.tmps j=Gs:=by
    simp only[yielded,h3,wT];simp only[wv] at h4
    cases hq:a.tmps[t]? with
    | none=>rfl
    | some x=>rw[hq] at h4;simp at h4;rw[h4]
   rw[this];rfl
  .cases hw
def abb{o:xa}{q:Op}(hq:qw O.P H q o){r:AV×Hp×Nat}(hv:a7 O.prog O.aJ self tm hp ct q=Gr r):∀c,o.op≠.defer c:=by
 rcases hq with ⟨k,rfl⟩ | ⟨c,f,rs,h1,_,_⟩ | ⟨_,_,_,_,_,h1,_,_⟩ | ⟨k,rs,sz,b,x,y,h1,rfl⟩ | ⟨k,n,sz,z,ps,h1,rfl⟩
 .exact anc hv
 .intro c' h;rw[h1] at h;cases h
 .intro c' h;rw[h1] at h;cases h
 .intro c' h;simp only[aW,h] at h1;simp[bad] at h1
 .intro c' h;simp only[aW,h] at h1;simp[bad] at h1
def ash(hC:pX O self)(hH:fW O H){i:Nat}{r:aU}{o:xa}(hi:ops[i]? =Gr o)(hr:Fa O.P H ops r o\/(r.guard=Gs/\r.op=bad))(hv:fC O.prog O.aJ self tm hp ct r=Gr (v,ap,aO))(ht:cg O m S w tm a.tmps)(hh:aT O m S w hp ct)(hn:H.n<=a.tmps.size){K:Act->yo->Prop}(hK:∀u m' S' w',aT O m' S' w' ap aO->ct<=aO->cg O m' S' w' (put r.dst v tm) (a.put o.dst u).tmps->cp m S w hp m' S' w' ap ct->K (a.put o.dst u) w'):wpOpIn (WF ro) 0 O.P ops Q i K a w:=by
 rcases hr with hr | ⟨h1,h2⟩
 case inr=>
  simp only[fC,h1,rY,h2,bad,a7,fb,aB] at hv;cases hv
 unfold wpOpIn;simp only[hi];unfold fC at hv
 cases hw:rY tm r.guard with
 | none=>simp[hw] at hv
 | some b=>
  have Zl:=acr hr.guard (fun t _=>ht t) hw;have hd:=adl hr.ok hn;rw[Zl]
  cases b with
  | true=>
   simp only[hw] at hv;simp only[xS];refine adk hC hH hr.op (abb hr.op hv) hv ht hh (fun u m' S' w' k1 k2 k3 k4=>hK u m' S' w' k1 k2 ?_ k4);rw[hr.dst];exact UP (CF (fun id p h=>k4.old id p (hh.lt id p h) h) k4.sub (fun b hb=>k4.still b hb) ht) hd k3
  | false=>
   simp only[hw,yc,yr] at hv;obtain⟨rfl,rfl,rfl⟩:=hv;simp only[yH,xz];refine⟨fun _ _=>trivial,hK undef m S w hh (yx _) ?_ cp.refl⟩;rw[hr.dst];exact UP ht hd (by simp[af,aE,undef])
def aeE(hC:pX O self)(hH:fW O H):∀(l:List xa) (rs:List aU) (i:Nat) (s s':St) (a:Act) (m:Mp) (S:Nat->Prop) (w:yo),(∀j,l[j]? =ops[i+j]?)->gE O.P H ops rs l->
  dh O.prog O.aJ self rs s=Gr s'->cg O m S w s.tm a.tmps->aT O m S w s.hp s.ct->H.n<=a.tmps.size->
  (∀a' m' S' w',aT O m' S' w' s'.hp s'.ct->s.ct<=s'.ct->cg O m' S' w' s'.tm a'.tmps->cp m S w s.hp m' S' w' s'.hp s.ct->a'.tmps.size=a.tmps.size->a'.defers=a.defers->s'.base=s.base->Q .normal a' w')->
  wpOpsIn (WF ro) 0 O.P ops Q (List.range' i l.length) a w
 | [],rs,i,s,s',a,m,S,w,hl,hr,hv,ht,hh,hn,hQ=>by
  cases rs with
  | cons _ _=>simp[gE] at hr
  | nil=>
   simp only[dh,yc] at hv;subst hv;simp only[yM,List.range'_zero,wpOpsIn];exact hQ a m S w hh (yx _) ht cp.refl rfl rfl rfl
 | o::l,rs,i,s,s',a,m,S,w,hl,hr,hv,ht,hh,hn,hQ=>by
  cases rs with
  | nil=>simp[gE] at hr
  | cons r rs=>
   simp only[gE] at hr;rw[abD] at hv
   cases h1:fC O.prog O.aJ self s.tm s.hp s.ct r with
   | none=>simp[h1] at hv
   | some q=>
    have⟨v,a6,qZ⟩:=q;simp only[h1] at hv;have hi:ops[i]? =Gr o:=by have:=hl 0;simpa using this.symm
    rw[yB,List.range'_succ,wpOpsIn_cons];refine ash hC hH hi hr.1 h1 ht hh hn (fun u m1 S1 w1 k1 k2 k3 k4=>?_)
    refine aeE hC hH l rs (i+1) {s with tm:=put r.dst v s.tm,hp:=a6,ct:=qZ} s' _ m1 S1 w1 (fun j=>?_) hr.2 hv k3 k1 (by rw[OV];exact hn) (fun a' m' S' w' g1 g2 g3 g4 g5 g6 g7=>?_)
    .have:=hl (j+1)
     rw[yaW] at this;rw[this];congr 1;lia
    .exact hQ a' m' S' w' g1 (xi k2 g2) g3 (k4.trans (g4.AH k2)) (by rw[g5,OV]) (by rw[g6,TP]) g7
end
end
end
section
open Go
section
variable {ops:Array xa}
def TA{acc:List Nat}{i:Nat}:∀{es:List Edge},vK (CU acc es) i=ydy->∃e,e∈es/\Region.binds .any e=ydy/\(i=e.on\/vK (acc.getD e.on 0) i=ydy)
 | [],h=>by simp[CU] at h
 | e::r,h=>by
  simp only[CU] at h
  cases hb:Region.binds .any e with
  | false=>
   rw[hb] at h;have⟨e',h1,h2⟩:=TA h
   grind
  | true=>
   rw[hb] at h;simp only[yy,yco,wM] at h;rcases h with (h | h) | h
   .grind
   .grind
   .have ⟨e',h1,h2⟩:=TA h
    grind
def acs{l:List xa}{j:Nat}(hj:j<acc.length):(lZ acc l)[j]? =acc[j]? :=by
 induction l generalizing acc with
 | nil=>rfl
 | cons o l ih=>
  simp only[lZ]
  grind
def anj{l:List xa}{j:Nat}{o:xa}(h:l[j]? =Gr o):∃BQ:List Nat,(lZ acc l)[acc.length+j]? =Gr (CU BQ o.after.toList)/\BQ.length=acc.length+j/\∀k,k<BQ.length->BQ[k]? =(lZ acc l)[k]? :=by
 induction l generalizing acc j with
 | nil=>simp at h
 | cons x l ih=>
  cases j with
  | zero=>
   simp only[uC,yc] at h;subst h;refine⟨acc,?_,by simp,fun k hk=>?_⟩
   .simp only [lZ];rw[acs (by simp)]
    simp
   .simp only [lZ];rw[acs (by rw[yW];lia),List.getElem?_append_left hk]
  | succ j=>
   have⟨BQ,h1,h2,h3⟩:=ih (acc:=acc++[CU acc x.after.toList]) h;simp only[yW,yB,yM] at h1 h2;refine⟨BQ,?_,by lia,fun k hk=>?_⟩
   .simp only [lZ]
    grind
   .simp only [lZ];exact h3 k hk
def Ord(ops:Array xa)(i j:Nat):Prop:=vK ((lZ [] ops.toList).getD j 0) i=ydy
def VS(ops:Array xa)(D:Nat->Prop):Prop:=∀j o,ops[j]? =Gr o->D j->∀e,e∈o.after->Region.binds .any e=ydy->D e.on
def acu{D:Nat->Prop}(hc:VS ops D):∀(j:Nat) (o:xa),ops[j]? =Gr o->(∀e,e∈o.after->Region.binds .any e=ydy->D e.on)->∀i,Ord ops i j->D i:=by
 intro j
 induction j using ub with
 | _ j ih=>
  intro o ho hr i hi;have mL:ops.toList[j]? =Gr o:=by simp_all
  have⟨BQ,h1,h2,h3⟩:=anj (acc:=[]) mL;simp only[yM,ye] at h1 h2;unfold Ord at hi;rw[y9,h1,vh] at hi;have⟨e,g1,g2,g3⟩:=TA hi;have he:D e.on:=hr e (by simpa using g1) g2;rcases g3 with rfl | g3
  .grind
  .rcases vv e.on j with aG | ml
   .have h4:=h3 e.on (by lia);have hol:e.on<ops.size:=by
     grind
    have Zh:ops[e.on]? =Gr ops[e.on]:=by simp_all
    refine ih e.on aG _ Zh (fun e' he' bE=>hc e.on _ Zh he e' he' bE) i ?_;unfold Ord
    grind
   .grind
def aqb{D:Nat->Prop}(hc:VS ops D){i j:Nat}{o:xa}(ho:ops[j]? =Gr o)(hj:D j)(hi:Ord ops i j):D i:=
 acu hc j o ho (fun e he hb=>hc j o ho hj e he hb) i hi
def aaT:∀{l:List xa} {k j:Nat} {o:xa},rE l k=ydy->l[j]? =Gr o->∀e,e∈o.after->Region.binds .any e=ydy->e.on<k+j
 | [],k,j,o,_,h=>by simp at h
 | x::l,k,j,o,hb,h=>by
  simp only[rE,yf] at hb
  cases j with
  | zero=>
   simp only[uC,yc] at h;subst h;intro e he zV
   have:=yan.1 hb.1 e (by simpa using he)
   simp_all
  | succ j=>
   intro e he zV
   have:=aaT hb.2 h e he zV
   lia
end
def Fm(a b:aU)(r:List aU):Prop:=OP a b=ydz/\(JW a b=ydz\/Kj a b r=ydy)
def aaV{m:Nat}{b:aU}:∀{l:List aU} {k i:Nat} {a:aU},OQ m b l k=ydy->l[i]? =Gr a->vK m (k+i)=ydy\/Fm a b (l.drop (i+1))
 | [],k,i,a,_,h=>by simp at h
 | x::l,k,i,a,hp,h=>by
  simp only[OQ,yf] at hp
  cases i with
  | zero=>
   simp only[uC,yc] at h;subst h;have h1:=hp.1;simp only[wM,vS,ybn,Bool.and_eq_false_iff,Bool.not_eq_false'] at h1;rcases h1 with h1 | ⟨h1,h2⟩
   .grind
   .exact .inr ⟨h1,by simpa using h2⟩
  | succ i=>
   rcases aaV hp.2 h with h1 | h1
   .grind
   .grind
def Tp:∀{l done:List aU} {ms:List Nat} {i j:Nat} {a b:aU},As done l ms=ydy->(done++l)[i]? =Gr a->l[j]? =Gr b->i<done.length+j->
  ∃m,ms[j]? =Gr m/\(vK m i=ydy\/Fm a b (((done++l).take (done.length+j)).drop (i+1)))
 | [],done,ms,i,j,a,b,_,_,h,_=>by simp at h
 | x::l,done,[],i,j,a,b,hp,_,h,_=>by simp[As] at hp
 | x::l,done,m::ms,i,j,a,b,hp,ha,h,q8=>by
  simp only[As,yf] at hp
  cases j with
  | zero=>
   have FY:done[i]? =Gr a:=by grind
   have:=aaV hp.1 FY
   grind
  | succ j=>
   have e:done++x::l=(done++[x])++l:=by simp
   have⟨m',h1,h2⟩:=Tp (i:=i) (a:=a) hp.2 (by rw[<-e];exact ha) h (by simp;lia)
   grind
def N4{a b:aU}(h:OP a b=ydz):(∀d,a.dst=Gr d->d∉EG b/\b.dst≠Gr d)/\(∀d,b.dst=Gr d->d∉EG a):=by
 have mem:∀{i:Nat} {l:List Nat},jK i l=ydz->i∉l:=by
  intro i l
  induction l with
  | nil=>intro _ h;cases h
  | cons j r ih=>
   intro h hm;simp only[jK] at h
   cases hb:yt j i with
   | true=>rw[hb] at h;cases h
   | false=>
    simp_all
 simp only[OP,ybn] at h;have⟨⟨h1,h2⟩,h3⟩:=h;refine⟨fun d hd=>⟨mem (by simpa[hd,Hv] using h1),fun hb=>?_⟩,fun d hd=>mem (by simpa[hd,Hv] using h2)⟩;rw[hd,hb] at h3;simp[Wn] at h3
def abF{t:Nat}:∀{l:List aU},E4 t l=ydy->∀r,r∈l->r.dst≠Gr t
 | [],_,r,h=>by cases h
 | x::l,h,r,hr=>by
  simp only[E4,yf,vS] at h;rcases xP.1 hr with rfl | hr
  .intro hd;rw[hd] at h;simp[Hv,jK] at h
  .exact abF h.2 r hr
def OD{sz t:Nat}{ag:Bool}:∀{l:List (Nat×Bool×Nat)},Fh sz ag t l=ydy->(sz,ag,t)∈l
 | [],h=>by simp[Fh] at h
 | (s,g,u)::r,h=>by
  simp only[Fh,wM,yf] at h;rcases h with ⟨h1,h2,h3⟩ | h
  .simp_all
  .exact xy _ (OD h)
def UQ:∀{a b:List Nat},db a b=ydy->a=b
 | [],[],_=>rfl
 | [],_::_,h=>by simp[db] at h
 | _::_,[],h=>by simp[db] at h
 | x::a,y::b,h=>by
  simp only[db,yf] at h;rw[yi h.1,UQ h.2]
def aog{a b:AV}(h:Xf a b=ydy):a=b:=by
 unfold Xf at h
 split at h
 .grind
 .grind
 .rw [UQ h]
 .rfl
 .rfl
 .simp_all
 .simp_all
 .simp_all
 .cases h
def Tq{tm:Env}{hp ap:Hp}{sz t:Nat}{ag:Bool}{v:AV}:∀{l:List (Nat×Bool×Nat)},pW tm hp ap l=ydy->(sz,ag,t)∈l->gH hp sz ag (ai tm t)=Gr v->gH ap sz ag (ai tm t)=Gr v
 | [],_,h,_=>by cases h
 | (s,g,u)::r,h,hm,hv=>by
  simp only[pW] at h
  cases h1:gH hp s g (ai tm u) with
  | none=>simp[h1] at h
  | some x=>
   cases h2:gH ap s g (ai tm u) with
   | none=>simp[h1,h2] at h
   | some y=>
    simp only[h1,h2,yf] at h;rcases xP.1 hm with e | hm
    .simp only [yr] at e;obtain⟨rfl,rfl,rfl⟩:=e;rw[h1] at hv;rw[h2,<-aog h.1,hv]
    .exact Tq h.2 hm hv
structure QJ(P:aF)(L:Lib)(run:cu)(rs:List aU)(bV:Nat->Env)(bJ:Nat->Hp)(bG:Nat->Nat)(vF:Nat->AV):Prop where
 step:∀i r,rs[i]? =Gr r->fC P L run (bV i) (bJ i) (bG i) r=Gr (vF i,bJ (i+1),bG (i+1))
 tm:∀i r,rs[i]? =Gr r->bV (i+1)=put r.dst (vF i) (bV i)
def aeF{P:aF}{L:Lib}{self:cu}:∀{rs:List aU} {s s':St},dh P L self rs s=Gr s'->
  ∃bV bJ bG vF,QJ P L self rs bV bJ bG vF/\bV 0=s.tm/\bJ 0=s.hp/\bG 0=s.ct/\bV rs.length=s'.tm/\bJ rs.length=s'.hp/\bG rs.length=s'.ct/\s'.base=s.base
 | [],s,s',h=>by
  simp only[dh,yc] at h;subst h;exact⟨fun _=>s.tm,fun _=>s.hp,fun _=>s.ct,fun _=>.undef,⟨fun i r h=>by simp at h,fun i r h=>by simp at h⟩,rfl,rfl,rfl,rfl,rfl,rfl,rfl⟩
 | r::rs,s,s',h=>by
  rw[abD] at h
  cases h1:fC P L self s.tm s.hp s.ct r with
  | none=>simp[h1] at h
  | some q=>
   have⟨v,a6,qZ⟩:=q;simp only[h1] at h;have⟨bV,bJ,bG,vF,g1,g2,g3,g4,g5,g6,g7,g8⟩:=aeF h;refine⟨fun i=>match i with | 0=>s.tm | i+1=>bV i,fun i=>match i with | 0=>s.hp | i+1=>bJ i,fun i=>match i with | 0=>s.ct | i+1=>bG i,fun i=>match i with | 0=>v | i+1=>vF i,⟨?_,?_⟩,rfl,rfl,rfl,by simpa using g5,by simpa using g6,by simpa using g7,g8⟩
   .intro i r' hi
    cases i with
    | zero=>
     grind
    | succ i=>exact g1.step i r' (by simpa using hi)
   .intro i r' hi
    cases i with
    | zero=>
     grind
    | succ i=>exact g1.tm i r' (by simpa using hi)
section
variable {P:aF}{L:Lib}{self:cu}{rs:List aU}{bV:Nat->Env}{bJ:Nat->Hp}{bG:Nat->Nat}{vF:Nat->AV}
def J0(hR:QJ P L self rs bV bJ bG vF){t i:Nat}:∀(k:Nat),i+k<=rs.length->(∀j r,i<=j->j<i+k->rs[j]? =Gr r->r.dst≠Gr t)->ai (bV (i+k)) t=ai (bV i) t
 | 0,_,_=>rfl
 | k+1,hk,h=>by
  have hr:rs[i+k]? =Gr rs[i+k]:=by simp_all
  rw[show i+(k+1)=i+k+1 by lia,hR.tm _ _ hr,UN,yp (h (i+k) _ (by lia) (by lia) hr)];exact J0 hR k (by lia) (fun j r h1 h2=>h j r h1 (by lia))
def acv{r:aU}(hk:bn r.op<=1)(hv:fC P L self tm hp ct r=Gr (v,ap,aO))(aG:∀id o,ak hp id=Gr o->id<ct):jH hp ct ap aO:=by
 unfold fC at hv
 cases hw:rY tm r.guard with
 | none=>simp[hw] at hv
 | some b=>
  cases b with
  | true=>simp only[hw] at hv;exact aba hk hv aG
  | false=>
   simp only[hw,yc,yr] at hv;obtain⟨rfl,rfl,rfl⟩:=hv;exact jH.refl aG
def OE(hR:QJ P L self rs bV bJ bG vF){i:Nat}(aG:∀id o,ak (bJ i) id=Gr o->id<bG i):∀(k:Nat),i+k<=rs.length->(∀j r,i<=j->j<i+k->rs[j]? =Gr r->bn r.op<=1)->jH (bJ i) (bG i) (bJ (i+k)) (bG (i+k))
 | 0,_,_=>jH.refl aG
 | k+1,hk,h=>by
  have ih:=OE hR aG k (by lia) (fun j r h1 h2=>h j r h1 (by lia));have hr:rs[i+k]? =Gr rs[i+k]:=by simp_all
  exact ih.trans (acv (h (i+k) _ (by lia) (by lia) hr) (hR.step _ _ hr) ih.lt)
end
end
section
open Go
section
variable {tm:Env}{hp:Hp}{ct i:Nat}{r:aU}
def OW{tm:Env}{t:Nat}:∀{l:List Nat},t∈l->ai (bD tm l) t=ai tm t
 | [],h=>by cases h
 | i::r,h=>by
  simp only[bD,ai]
  cases hb:yt i t with
  | true=>rw[yi hb];rfl
  | false=>
   rcases xP.1 h with e | h
   .simp_all
   .exact OW h
def aoh{tm':Env}{o:Op}{r:AV×Hp×Nat}(h:∀t,t∈lX o->ai tm' t=ai tm t)(hv:a7 P L self tm hp ct o=Gr r):a7 P L self tm' hp ct (kN o)=Gr r:=by
 cases o with
 | jV rs f xs=>
  simp only[lX,wB] at h;simp only[kN,a7] at hv ⊢
  rw[eb (x:=f) fun t ht=>h t (.inl ht),En (xs:=xs) fun t ht=>h t (.inr ht)]
  cases hc:fb P L self hp ct .dyn (aB tm f) (dM tm xs) with
  | none=>simp[hc] at hv
  | some q=>
   obtain⟨v1,a6,qZ⟩:=q;simp only[hc] at hv
   cases hs:pW tm hp a6 rs with
   | false=>rw[hs] at hv;cases hv
   | true=>
    rw[hs] at hv;simpa only[pW,yy] using hv
 | mf rs sz x v=>
  simp only[kN,a7] at hv ⊢
  rw[Ek (o:=.st sz x v) (tm:=tm) h]
  split at hv
  .rename_i id off hx
   cases hf:mA tm id rs with
   | false=>rw[hf] at hv;cases hv
   | true=>rw[hf] at hv;exact hv
  .cases hv
 | mg rs sz b x v=>
  simp only[kN,a7] at hv ⊢
  rw[Ek (o:=.ew sz b x v) (tm:=tm) h]
  cases hc:cr tm hp ct (.ew sz b x v) with
  | none=>simp[hc] at hv
  | some q=>
   obtain⟨v1,a6,qZ⟩:=q;simp only[hc] at hv
   cases hs:(BM tm (aB tm x) rs||pW tm hp a6 rs) with
   | false=>rw[hs] at hv;cases hv
   | true=>rw[hs] at hv;exact hv
 | call md f xs=>
  rw[<-hv];simp only[lX,wB] at h;simp only[kN,a7]
  rw[eb (x:=f) fun t ht=>h t (.inl ht),En (xs:=xs) fun t ht=>h t (.inr ht)]
 | st s x y=>rw[<-hv];simp only[kN,a7];exact Ek h
 | sE kk x y z=>rw[<-hv];simp only[kN,a7];exact Ek h
 | sG x=>rw[<-hv];simp only[kN,a7];exact Ek h
 | ew s b x y=>rw[<-hv];simp only[kN,a7];exact Ek h
 | px s x y=>rw[<-hv];simp only[kN,a7];exact Ek h
 | box s x=>rw[<-hv];simp only[kN,a7];rw[JL (hp:=hp) h]
 | kQ n s z ps=>rw[<-hv];simp only[kN,a7];rw[JL (hp:=hp) h]
 | qP s b z x y=>rw[<-hv];simp only[kN,a7];rw[JL (hp:=hp) h]
 | B5=>exact hv
 | sF x=>rw[<-hv];simp only[kN,a7];rw[JL (hp:=hp) h]
 | _=>rw[<-hv];simp only[kN,a7];rw[amF h]
def adm{q:Op}(hk:bn q=0\/∃sz ag x,q=.ld sz ag x)(hv:a7 P L self tm hp ct q=Gr (v,ap,aO)):bm tm hp q=Gr v/\ap=hp/\aO=ct:=by
 have iU:∀{q:Op},(match bm tm hp q with | some v=>Gr (v,hp,ct) | none=>(Gs:gQ))=Gr (v,ap,aO)->bm tm hp q=Gr v/\ap=hp/\aO=ct:=by
  intro q h
  cases hm:bm tm hp q with
  | none=>simp[hm] at h
  | some r=>
   simp only[hm,yc,yr] at h;obtain⟨rfl,rfl,rfl⟩:=h;exact⟨rfl,rfl,rfl⟩
 rcases hk with hk | ⟨sz,ag,x,rfl⟩
 .cases bI:q with
  | call md f xs=>subst bI;cases md<;>simp[bn] at hk
  | jV rs f xs=>subst bI;simp[bn] at hk
  | mf rs s x y=>subst bI;simp[bn] at hk
  | mg rs s b x y=>subst bI;simp[bn] at hk
  | st s x y=>subst bI;simp[bn] at hk
  | sE kk x y z=>subst bI;simp[bn] at hk
  | sG x=>subst bI;simp[bn] at hk
  | ew s b x y=>subst bI;simp[bn] at hk
  | px s x y=>subst bI;simp[bn] at hk
  | box s x=>subst bI;simp[bn] at hk
  | kQ n s z ps=>subst bI;simp[bn] at hk
  | qP s b z x y=>subst bI;simp[bn] at hk
  | B5=>subst bI;simp[bn] at hk
  | sF x=>subst bI;simp[bn] at hk
  | _=>exact bI▸iU (q:=q) (by rw[bI] at hv ⊢;simp only[a7] at hv;exact hv)
 .exact iU (q:=.ld sz ag x) (by simp only[a7] at hv;exact hv)
section
variable {O:bC}{H:Hint}{ops:Array xa}{π:Nat->Nat}{rs:List aU}{bV:Nat->Env}{bJ:Nat->Hp}{bG:Nat->Nat}{vF:Nat->AV}{self:cu}{ro:Option Nat}{Q:uP->Act->yo->Prop}
structure AD(O:bC)(H:Hint)(FZ:cu)(ops:Array xa)(π:Nat->Nat)(rs:List aU)(bV:Nat->Env)(bJ:Nat->Hp)(bG:Nat->Nat)(vF:Nat->AV):Prop where
 run:QJ O.prog O.aJ FZ rs bV bJ bG vF
 len:rs.length=ops.size
 of:∀(i:Nat) (r:aU) (o:xa),rs[i]? =Gr r->ops[π i]? =Gr o->Fa O.P H ops r o
 pair:∀(i j:Nat) (a b:aU),i<j->rs[i]? =Gr a->rs[j]? =Gr b->Ord ops (π i) (π j)\/Fm a b ((rs.take j).drop (i+1))
 back:∀(i:Nat) (o:xa),ops[i]? =Gr o->∀e,e∈o.after->Region.binds .any e=ydy->e.on<i
def lO(rs:List aU)(i:Nat):Prop:=∃r,rs[i]? =Gr r/\bn r.op=2
def VT(rs:List aU):∀(k i:Nat),i+k=rs.length->∃c,i<=c/\c<=rs.length/\(∀j,i<=j->j<c->¬lO rs j)/\(c=rs.length\/lO rs c)
 | 0,i,h=>⟨i,yx _,by lia,fun j h1 h2=>by lia,.inl (by lia)⟩
 | k+1,i,h=>by
  rcases tu (lO rs i) with hw | hw
  .grind
  .have ⟨c,h1,h2,h3,h4⟩:=VT rs k (i+1) (by lia)
   grind
def Km{rs:List aU}(hr:rs[i]? =Gr r)(hw:¬lO rs i):bn r.op<=1:=by
 have h:bn r.op≠2:=fun e=>hw ⟨r,hr,e⟩
 have:bn r.op<=2:=by
  cases r.op with
  | sD k x lo hi=>cases k<;>simp[bn]
  | len k x=>rcases k with _ | _ | k<;>simp[bn]
  | call md f xs=>cases md<;>simp[bn]
  | _=>simp[bn]
 lia
def Su(O:bC)(rs:List aU)(bV:Nat->Env)(D:Nat->Prop)(m:Mp)(S:Nat->Prop)(w:yo)(a:Act):Prop:=
 ∀t,∃j,j<=rs.length/\(∀(i:Nat) (r:aU),rs[i]? =Gr r->r.dst=Gr t->(D i↔i<j))/\af O.ae m S w (ai (bV j) t) (a.tmps.getD t undef)
def asl{D:Nat->Prop}{m:Mp}{w:yo}{a:Act}(hG:AD O H self ops π rs bV bJ bG vF)(hT:Su O rs bV D m S w a)(hr:rs[i]? =Gr r)(hi:¬D i)(eX:∀j,Ord ops (π j) (π i)->D j)(gG:∀j,Ord ops (π i) (π j)->¬D j):∀t,t∈EG r->af O.ae m S w (ai (bV i) t) (a.tmps.getD t undef):=by
 intro t ht;obtain⟨j,h1,h2,h3⟩:=hT t;have Cd:i<rs.length:=(xW.1 hr).1;have e:ai (bV j) t=ai (bV i) t:=by
  rcases Nat.le_total j i with F0 | q8
  .obtain ⟨k,rfl⟩:∃k,i=j+k:=⟨i-j,by omega⟩;refine (J0 hG.run k (by omega) (fun l rl g1 g2 hl hd=>?_)).symm;have hnD:¬D l:=fun hD=>by have:=(h2 l rl hl hd).1 hD;omega
   rcases hG.pair l (j+k) rl r (by omega) hl hr with ho | hf
   .exact hnD (eX l ho)
   .exact ((N4 hf.1).1 t hd).1 ht
  .obtain ⟨k,rfl⟩:∃k,j=i+k:=⟨j-i,by omega⟩;refine J0 hG.run k h1 (fun l rl g1 g2 hl hd=>?_);have hD:D l:=(h2 l rl hl hd).2 (by omega);rcases vO g1 with rfl | g1
   .exact hi hD
   .rcases hG.pair i l r rl g1 hr hl with ho | hf
    .exact gG l ho hD
    .exact (N4 hf.1).2 t hd ht
 rw[<-e];exact h3
def aeG{D D':Nat->Prop}{m:Mp}{w w':yo}{a:Act}{u:yj}(hG:AD O H self ops π rs bV bJ bG vF)(hT:Su O rs bV D m S w a)(hr:rs[i]? =Gr r)(hi:¬D i)(eX:∀j,Ord ops (π j) (π i)->D j)(gG:∀j,Ord ops (π i) (π j)->¬D j)(hD:∀j,D' j↔D j\/j=i)(hm:dI m m')(hS:∀b,S b->S' b)(hw:gX S w w')(hd:∀d,r.dst=Gr d->d<a.tmps.size)(hv:af O.ae m' S' w' (vF i) u):Su O rs bV D' m' S' w' (a.put r.dst u):=by
 intro t;have Cd:i<rs.length:=(xW.1 hr).1;by_cases It:r.dst=Gr t
 .refine ⟨i+1,Cd,fun l rl hl lP=>?_,?_⟩
  .rw [hD];constructor
   .rintro (h | h)
    .rcases vv l (i+1) with g | g
     .exact g
     .rcases hG.pair i l r rl (by omega) hr hl with ho | hf
      .exact (gG l ho h).elim
      .exact (((N4 hf.1).1 t It).2 lP).elim
    .omega
   .intro h;rcases vO (uf h) with h | h
    .exact .inr h
    .rcases hG.pair l i rl r h hl hr with ho | hf
     .exact .inl (eX l ho)
     .exact (((N4 hf.1).1 t lP).2 It).elim
  .rw [hG.run.tm i r hr,UN,UO hd,yE It,yE It];exact hv
 .obtain ⟨j,h1,h2,h3⟩:=hT t;refine⟨j,h1,fun l rl hl lP=>?_,?_⟩
  .rw [hD,<-h2 l rl hl lP];constructor
   .rintro (h | h)
    .exact h
    .subst h;rw[hr] at hl;injection hl with hl
     subst hl;exact (It lP).elim
   .exact .inl
  .rw [UO hd,yp It];exact nN hm hS hw _ _ h3
def abc{tm:Env}{hp ap:Hp}{ct aO id off sz pD t:Nat}{ag:Bool}{x y:X}{v v':AV}:∀{l:List (Nat×Bool×Nat)},mA tm id l=ydy->(sz,ag,t)∈l->aB tm x=.ptr id off->
  cr tm hp ct (.st pD x y)=Gr (v',ap,aO)->gH hp sz ag (ai tm t)=Gr v->gH ap sz ag (ai tm t)=Gr v
 | [],_,h,_,_,_=>by cases h
 | (s,g,u)::r,h,hm,hx,hw,hv=>by
  simp only[mA,yf] at h;rcases xP.1 hm with e | hm
  .simp only [yr] at e;obtain⟨rfl,rfl,rfl⟩:=e;have h1:=h.1
   split at h1
   .rename_i j o hj;have bU:j≠id:=by
     intro e
     simp_all
    rw[hj] at hv ⊢;simp only[cr,hx] at hw;have key:∀ob,ak (aR hp id ob) j=ak hp j:=fun ob=>by rw[Am,yp (yde bU)]
    split at hw
    .rename_i pu ex z cs DS;generalize (yt _ _&&yJ _ _&&b9 _)=bb at hw
     cases bb with
     | false=>cases hw
     | true=>
      obtain⟨_,rfl,_⟩:=hw;simp only[gH,key] at hv ⊢;exact hv
    .cases hw
   .rename_i cs hj;rw[hj] at hv ⊢;simpa only[gH] using hv
   .cases h1
  .exact abc h.2 hm hx hw hv
def Tt{id j:Nat}(h:j≠id):∀(hp:Hp),ak (cN hp id) j=ak hp j
 | []=>rfl
 | (k,o)::r=>by
  simp only[cN,ak]
  cases h1:yt k id with
  | true=>
   have e:=yi h1;simp only[yy];rw[Tt h r]
   cases h2:yt k j with
   | true=>exact absurd (yi h2▸e) h
   | false=>rfl
  | false=>
   simp only[yT,ak];rw[Tt h r]
def aoi{pD bb t:Nat}{ag:Bool}{y:X}{l:List (Nat×Bool×Nat)}(h:BM tm (aB tm x) l=ydy)(hm:(sz,ag,t)∈l)(hw:cr tm hp ct (.ew pD bb x y)=Gr (v',ap,aO))(aG:∀id o,ak hp id=Gr o->id<ct)(hv:gH hp sz ag (ai tm t)=Gr v):gH ap sz ag (ai tm t)=Gr v:=by
 have grow:∀{o:Obj},ap=(ct,o)::hp->gH ap sz ag (ai tm t)=Gr v:=fun {o} e=>by
  subst e;refine Vg (fun id o' mL=>⟨o',?_,kh.refl o'⟩) hv
  rw[iG,yp (by have:=aG id o' mL;omega)];exact mL
 simp only[cr] at hw
 cases hs:pY hp pD (aB tm y) with
 | none=>simp[hs] at hw
 | some q=>
  obtain⟨mm,new⟩:=q;simp only[hs] at hw;cases hx:aB tm x<;>rw[hx] at hw h<;>simp only[BM,yH] at h<;>(try simp only at hw)
  case aj=>
   cases hb:yt mm 0 with
   | true=>simp only[hb,yy,yc,yr] at hw;rw[<-hw.2.1];exact hv
   | false=>
    rw[hb] at hw;simp only[yT] at hw;generalize (yJ mm room&&(yJ (mm*bb) room&&yQ 0 pD))=b2 at hw
    cases b2 with
    | false=>cases hw
    | true=>simp only[yy,yc,yr] at hw;exact grow hw.2.1.symm
  case au ex n cs=>
   cases ex with
   | false=>simp at hw
   | true=>
    simp only at hw
    cases hb:yt mm 0 with
    | true=>simp only[hb,yy,yc,yr] at hw;rw[<-hw.2.1];exact hv
    | false=>
     rw[hb] at hw;simp only[yT] at hw;generalize (yJ (n+mm) room&&(yJ ((n+mm)*bb) room&&(yt cs.length (n*pD)&&yQ 0 pD)))=b2 at hw
     cases b2 with
     | false=>cases hw
     | true=>simp only[yy,yc,yr] at hw;exact grow hw.2.1.symm
  case ay id o n=>
   split at hw
   .rename_i pu ex z cs DS;generalize (yt z pD&&_)=b2 at hw
    cases b2 with
    | false=>cases hw
    | true=>
     simp only[yy,yc,yr] at hw;obtain⟨_,rfl,_⟩:=hw;clear DS;have key:∀l,mA tm id l=ydy->(sz,ag,t)∈l->(∃j off,ai tm t=.ptr j off/\j≠id)\/∃cs,ai tm t=.bA cs:=by
      intro l
      induction l with
      | nil=>intro _ hm;cases hm
      | cons e l ih=>
       obtain⟨s,g,u⟩:=e;intro h hm;simp only[mA,yf] at h;rcases xP.1 hm with e | hm
       .simp only [yr] at e;obtain⟨rfl,rfl,rfl⟩:=e;have h1:=h.1
        split at h1
        .rename_i j off hj;refine .inl ⟨j,off,hj,fun e=>?_⟩;subst e;simp at h1
        .rename_i cs hj;exact .inr ⟨cs,hj⟩
        .cases h1
       .exact ih h.2 hm
     rcases key l h hm with ⟨j,off,e,bU⟩ | ⟨dH,e⟩
     .rw [e] at hv ⊢;simp only[gH] at hv ⊢;have aAY:ak hp j≠Gs:=by
       intro e0;rw[e0] at hv;cases hv
      cases hj:ak hp j with
      | none=>exact absurd hj aAY
      | some ob=>
       have:=aG j ob hj
       rw[iG,yp (by omega),Tt bU,hj];rw[hj] at hv;exact hv
     .rw [e] at hv ⊢;simpa only[gH] using hv
   .cases hw
def aaY{D:Nat->Prop}{i c:Nat}{r:aU}{sz t:Nat}{ag:Bool}(hG:AD O H self ops π rs bV bJ bG vF)(hr:rs[i]? =Gr r)(hi:¬D i)(Iu:r.guard=Gs/\r.op=.ld sz ag (.t t))(hc:c<=rs.length)(hW:∀j,j<c->lO rs j->D j)(gG:∀j,Ord ops (π i) (π j)->¬D j)(aG:∀j,j<=c->∀id o,ak (bJ j) id=Gr o->id<bG j):∀k,i+1+k<=c->gH (bJ (i+1+k)) sz ag (ai (bV i) t)=Gr (vF i)
 | 0,hk=>by
  have h1:=hG.run.step i r hr;simp only[fC,Iu.1,rY,Iu.2] at h1;obtain⟨h2,h3,h4⟩:=adm (.inr ⟨_,_,_,rfl⟩) h1;simp only[bm,aB] at h2;rw[y7,h3];exact h2
 | k+1,hk=>by
  have ih:=aaY hG hr hi Iu hc hW gG aG k (by omega);have hl:i+1+k<rs.length:=by omega
  have hj:rs[i+1+k]? =Gr rs[i+1+k]:=by simp[hl]
  have aM:=hG.run.step _ _ hj;rw[show i+1+(k+1)=i+1+k+1 by omega];rcases tu (lO rs (i+1+k)) with hw | hw
  .have hD:=hW _ (by omega) hw;rcases hG.pair i (i+1+k) r _ (by omega) hr hj with ho | hf
   .exact (gG _ ho hD).elim
   .obtain ⟨Sv,mo⟩:=hf;obtain⟨cf,h5,h6⟩:=hw;rw[hj] at h5;injection h5 with h5
    subst h5;rcases mo with mo | mo
    .have h1k:bn r.op=1:=by rw[Iu.2];rfl
     simp only[JW,h1k,h6] at mo;cases mo
    .unfold Kj at mo;simp only[Iu.1,Iu.2] at mo;generalize jB:(rs[i+1+k]).op=q at mo;have Wr:E4 t (r::(rs.take (i+1+k)).drop (i+1))=ydy->ai (bV (i+1+k)) t=ai (bV i) t:=by
      intro aAZ;have kV:=abF aAZ;rw[show i+1+k=i+(1+k) by omega];refine J0 hG.run (1+k) (by omega) (fun l rl g1 g2 Cc=>kV rl ?_);rcases vO g1 with rfl | g1
      .rw [hr] at Cc;injection Cc with Cc;subst Cc;exact xO
      .refine xy _ ?_
       have:((rs.take (i+1+k)).drop (i+1))[l-(i+1)]? =Gr rl:=by
        rw[List.getElem?_drop,List.getElem?_take_of_lt (by omega),show i+1+(l-(i+1))=l by omega];exact Cc
       exact List.mem_of_getElem? this
     unfold fC at aM
     cases hg:rY (bV (i+1+k)) (rs[i+1+k]).guard with
     | none=>simp[hg] at aM
     | some b=>
      cases b with
      | false=>
       simp only[hg,yc,yr] at aM;rw[<-aM.2.1];exact ih
      | true=>
       simp only[hg,jB] at aM;cases q<;>simp only[yH] at mo
       case jV DT fx xs=>
        simp only[yf] at mo;have ni:=OD mo.1;have Ce:=Wr mo.2;simp only[a7] at aM
        cases dX:fb O.prog O.aJ self (bJ (i+1+k)) (bG (i+1+k)) .dyn (aB (bV (i+1+k)) fx) (dM (bV (i+1+k)) xs) with
        | none=>simp[dX] at aM
        | some z=>
         obtain⟨v1,a6,qZ⟩:=z;simp only[dX] at aM
         cases hs:pW (bV (i+1+k)) (bJ (i+1+k)) a6 DT with
         | false=>rw[hs] at aM;cases aM
         | true=>
          rw[hs] at aM;simp only[yy,yc,yr] at aM;obtain⟨_,h8,_⟩:=aM;rw[<-h8,<-Ce];exact Tq hs ni (by rw[Ce];exact ih)
       case mf DT pD x v=>
        simp only[yf] at mo;have ni:=OD mo.1;have Ce:=Wr mo.2;simp only[a7] at aM
        split at aM
        .rename_i id off hx
         cases hs:mA (bV (i+1+k)) id DT with
         | false=>rw[hs] at aM;cases aM
         | true=>
          rw[hs] at aM;simp only[yy] at aM;rw[<-Ce];exact abc hs ni hx aM (by rw[Ce];exact ih)
        .cases aM
       case mg DT pD b x v=>
        simp only[yf] at mo;have ni:=OD mo.1;have Ce:=Wr mo.2;simp only[a7] at aM
        cases dX:cr (bV (i+1+k)) (bJ (i+1+k)) (bG (i+1+k)) (.ew pD b x v) with
        | none=>simp[dX] at aM
        | some z=>
         obtain⟨v1,a6,qZ⟩:=z;simp only[dX] at aM
         cases hs:(BM (bV (i+1+k)) (aB (bV (i+1+k)) x) DT||pW (bV (i+1+k)) (bJ (i+1+k)) a6 DT) with
         | false=>rw[hs] at aM;cases aM
         | true=>
          rw[hs] at aM;simp only[yy,yc,yr] at aM;obtain⟨_,h8,_⟩:=aM;rw[<-h8,<-Ce];rcases (wM _ _).mp hs with hs | hs
          .exact aoi hs ni dX (aG _ (by omega)) (by rw[Ce];exact ih)
          .exact Tq hs ni (by rw[Ce];exact ih)
  .exact Vg (acv (Km hj hw) aM (aG _ (by omega))).le ih
structure Inv(O:bC)(ops:Array xa)(rs:List aU)(bV:Nat->Env)(bJ:Nat->Hp)(bG:Nat->Nat)(D:Nat->Prop)(m0:Mp)(S0:Nat->Prop)(w0:yo)(n0:Nat)(d0:List yaC)(st c:Nat)(m:Mp)(S:Nat->Prop)(w:yo)(a:Act):Prop where
 Zm:st<=c
 cn:c<=rs.length
 before:∀i,i<st->lO rs i->D i
 Iv:∀i,st<=i->i<c->¬lO rs i
 cut:c=rs.length\/(lO rs c/\¬D c)
 behind:∀(i:Nat) (r:aU),c<=i->rs[i]? =Gr r->1<=bn r.op->¬D i
 hp:aT O m S w (bJ c) (bG c)
 Zn:∀id p,m id=Gr p->id<bG st\/∃i,st<=i/\i<c/\D i/\bG i<=id/\id<bG (i+1)
 tm:Su O rs bV D m S w a
 Sw:cp m0 S0 w0 (bJ 0) m S w (bJ c) (bG 0)
 ge:bG 0<=bG c
 size:a.tmps.size=n0
 defers:a.defers=d0
 nD:st=0\/lO rs (st-1)
 Iw:∀j,j<=c->∀id o,ak (bJ j) id=Gr o->id<bG j
end
end
end
section
open Go
section
variable {O:bC}{H:Hint}{ops:Array xa}{π:Nat->Nat}{rs:List aU}{bV:Nat->Env}{bJ:Nat->Hp}{bG:Nat->Nat}{vF:Nat->AV}{self:cu}{ro:Option Nat}{Q:uP->Act->yo->Prop}
variable {D D':Nat->Prop}{m0:Mp}{S0:Nat->Prop}{w0:yo}{n0:Nat}{d0:List yaC}{st c i:Nat}{m:Mp}{S:Nat->Prop}{w:yo}{a:Act}{r:aU}{o:xa}
def OF(hG:AD O H self ops π rs bV bJ bG vF)(hI:Inv O ops rs bV bJ bG D m0 S0 w0 n0 d0 st c m S w a){x y:Nat}(hx:st<=x)(hxy:x<=y)(hy:y<=c):jH (bJ x) (bG x) (bJ y) (bG y):=by
 obtain⟨k,rfl⟩:∃k,y=x+k:=⟨y-x,by omega⟩
 have:=hI.cn
 exact OE hG.run (hI.Iw x (by omega)) k (by omega) (fun j r h1 h2 hr=>Km hr (hI.Iv j (by omega) (by omega)))
def OX(hG:AD O H self ops π rs bV bJ bG vF)(hI:Inv O ops rs bV bJ bG D m0 S0 w0 n0 d0 st c m S w a)(hr:rs[i]? =Gr r)(hi:¬D i)(eX:∀j,Ord ops (π j) (π i)->D j)(gG:∀j,Ord ops (π i) (π j)->¬D j)(hD:∀j,D' j↔D j\/j=i)(hd:∀d,r.dst=Gr d->d<a.tmps.size)(hw:¬lO rs i)(Cb:bn r.op=0\/i<c){w':yo}{u:yj}(k1:aT O m' S' w' (bJ c) (bG c))(k2:dI m m')(k3:∀id p,m' id=Gr p->m id=Gr p\/(st<=i/\i<c/\bG i<=id/\id<bG (i+1)))(k4:af O.ae m' S' w' (vF i) u)(k5:cp m S w (bJ c) m' S' w' (bJ c) (bG c)):
  Inv O ops rs bV bJ bG D' m0 S0 w0 n0 d0 st c m' S' w' (a.put r.dst u) where
 Zm:=hI.Zm
 cn:=hI.cn
 before j hj F1:=(hD j).2 (.inl (hI.before j hj F1))
 Iv:=hI.Iv
 cut:=hI.cut.imp (fun h=>h) (fun h=>⟨h.1,fun hc=>((hD c).1 hc).elim h.2 (fun e=>hw (e▸h.1))⟩)
 behind j rj hj F2 hk F3:=((hD j).1 F3).elim (hI.behind j rj hj F2 hk) (fun e=>by
  subst e;rw[hr] at F2;injection F2 with F2
  subst F2
  rcases Cb with h | h<;>omega)
 hp:=k1
 Zn id p hp:=by
  rcases k3 id p hp with h | ⟨h1,h2,h3,h4⟩
  .rcases hI.Zn id p h with h | ⟨j,g1,g2,g3,g4,g5⟩
   .exact .inl h
   .exact .inr ⟨j,g1,g2,(hD j).2 (.inl g3),g4,g5⟩
  .exact .inr ⟨i,h1,h2,(hD i).2 (.inr rfl),h3,h4⟩
 tm:=aeG hG hI.tm hr hi eX gG hD k2 k5.sub (fun b hb=>k5.still b hb) hd k4
 Sw:=hI.Sw.trans (k5.AH hI.ge)
 ge:=hI.ge
 size:=by rw[OV];exact hI.size
 defers:=by rw[TP];exact hI.defers
 nD:=hI.nD
 Iw:=hI.Iw
def aeH(hG:AD O H self ops π rs bV bJ bG vF)(hI:Inv O ops rs bV bJ bG D m0 S0 w0 n0 d0 st c m S w a)(hr:rs[c]? =Gr r)(hi:¬D c)(eX:∀j,Ord ops (π j) (π c)->D j)(gG:∀j,Ord ops (π c) (π j)->¬D j)(hD:∀j,D' j↔D j\/j=c)(hd:∀d,r.dst=Gr d->d<a.tmps.size)(hw:lO rs c){w':yo}{u:yj}(k1:aT O m' S' w' (bJ (c+1)) (bG (c+1)))(k2:bG c<=bG (c+1))(k4:af O.ae m' S' w' (vF c) u)(k5:cp m S w (bJ c) m' S' w' (bJ (c+1)) (bG c)):
  ∃c' DI,Inv O ops rs bV bJ bG D' m0 S0 w0 n0 d0 (c+1) c' m' DI w' (a.put r.dst u):=by
 have dX:c<rs.length:=(xW.1 hr).1;obtain⟨c',h1,h2,h3,h4⟩:=VT rs (rs.length-(c+1)) (c+1) (by omega);obtain⟨k,rfl⟩:∃k,c'=c+1+k:=⟨c'-(c+1),by omega⟩;have hg:∀k',k'<=k->jH (bJ (c+1)) (bG (c+1)) (bJ (c+1+k')) (bG (c+1+k')):=fun k' py=>
  OE hG.run k1.aG k' (by omega) (fun j r g1 g2 hr=>Km hr (h3 j g1 (by omega)))
 obtain⟨DI,g1,g2,g3,g4⟩:=OU k1 (hg k (yx _));have hml:dI m m':=fun id p h=>k5.old id p (hI.hp.lt id p h) h
 refine⟨c+1+k,DI,⟨by omega,h2,?_,h3,?_,?_,g1,fun id p h=>.inl (k1.lt id p h),?_,?_,?_,by rw[OV];exact hI.size,by rw[TP];exact hI.defers,.inr (by simpa using hw),?_⟩⟩
 .intro j hj F1;rcases vO (uf hj) with e | hj
  .exact (hD j).2 (.inr e)
  .rcases vv j st with g | g
   .exact (hD j).2 (.inl (hI.before j g F1))
   .exact (hI.Iv j g hj F1).elim
 .refine h4.imp (fun h=>h) (fun h=>⟨h,fun hc=>?_⟩);obtain⟨rc,Zo,Cb⟩:=h;rcases (hD _).1 hc with g | g
  .exact hI.behind _ rc (by omega) Zo (by omega) g
  .omega
 .intro j rj hj F2 hk F3;rcases (hD j).1 F3 with g | g
  .exact hI.behind j rj (by omega) F2 hk g
  .omega
 .exact aeG hG hI.tm hr hi eX gG hD hml (fun b hb=>g2 b (k5.sub b hb)) (fun b hb=>k5.still b hb) hd (nN (fun _ _ h=>h) g2 (fun _ _=>rfl) _ _ k4)
 .exact (hI.Sw.trans (k5.AH hI.ge)).trans (g4 (bG 0))
 .have:=(hg k (yx _)).sN
  have:=hI.ge
  omega
 .intro j hj;rcases vv c j with g | g
  .obtain ⟨k',rfl⟩:∃k',j=c+1+k':=⟨j-(c+1),by omega⟩;exact (hg k' (by omega)).lt
  .exact hI.Iw j g
def aqc{q:Op}(h:bn q≠2):kN q=q:=by
 cases q<;>first
  | rfl
  | exact absurd rfl h
def abG{x y:aU}{l:List aU}(h:Fm x y l):¬(bn x.op=2/\1<=bn y.op)/\(1<=bn x.op->bn y.op=2->x.guard=Gs/\∃sz ag t,x.op=.ld sz ag (.t t)):=by
 have⟨_,h⟩:=h;have ex:Kj x y l=ydy->x.guard=Gs/\∃sz ag t,x.op=.ld sz ag (.t t):=by
  intro he;unfold Kj at he
  split at he
  .rename_i sz ag t DT fx xs h1 h2 h3;exact⟨h1,sz,ag,t,h2⟩
  .rename_i h1 h2 h3;exact⟨h1,_,_,_,h2⟩
  .rename_i h1 h2 h3;exact⟨h1,_,_,_,h2⟩
  .cases he
 have k2:∀q:Op,bn q<=2:=fun q=>by
  cases q with
  | sD k x lo hi=>cases k<;>simp[bn]
  | len k x=>rcases k with _ | _ | k<;>simp[bn]
  | call md f xs=>cases md<;>simp[bn]
  | _=>simp[bn]
 constructor
 .rintro ⟨h1,h2⟩;rcases h with h | h
  .have:bn y.op=1\/bn y.op=2:=by have:=k2 y.op;lia
   rcases this with e | e<;>(simp only[JW,h1,e] at h;cases h)
  .have ⟨_,sz,ag,t,e⟩:=ex h;rw[e] at h1;cases h1
 .intro h1 h2;rcases h with h | h
  .have:bn x.op=1\/bn x.op=2:=by have:=k2 x.op;lia
   rcases this with e | e<;>(simp only[JW,h2,e] at h;cases h)
  .exact ex h
def aqd(hC:pX O self)(hH:fW O H)(hG:AD O H self ops π rs bV bJ bG vF)(hn:H.n<=n0)(hI:Inv O ops rs bV bJ bG D m0 S0 w0 n0 d0 st c m S w a)(hr:rs[i]? =Gr r)(ho:ops[π i]? =Gr o)(hi:¬D i)(eX:∀j,Ord ops (π j) (π i)->D j)(gG:∀j,Ord ops (π i) (π j)->¬D j)(hD:∀j,D' j↔D j\/j=i){K:Act->yo->Prop}(hK:∀st' c' m' S' w' a',Inv O ops rs bV bJ bG D' m0 S0 w0 n0 d0 st' c' m' S' w' a'->K a' w'):wpOpIn (WF ro) 0 O.P ops Q (π i) K a w:=by
 have cX:=hG.of i r o hr ho;have Xn:=asl hG hI.tm hr hi eX gG;have aM:=hG.run.step i r hr;have hd:∀d,r.dst=Gr d->d<a.tmps.size:=by
  rw[cX.dst];exact adl cX.ok (by rw[hI.size];exact hn)
 have kw:=hI.Zm;have ml:1<=bn r.op->i<=c:=by
  intro hk;rcases vv c i with Zp | Zp
  .have Cd:i<rs.length:=(xW.1 hr).1;rcases hI.cut with h | ⟨⟨rc,Zo,Cb⟩,MY⟩
   .omega
   .rcases hG.pair c i rc r Zp Zo hr with h | h
    .exact (MY (eX c h)).elim
    .exact ((abG h).1 ⟨Cb,hk⟩).elim
  .exact Zp
 have hwc:lO rs i->i=c:=by
  intro hw;obtain⟨cf,h1,h2⟩:=hw;rw[hr] at h1;injection h1 with h1
  subst h1;have h3:=ml (by omega);rcases vO h3 with e | h3
  .exact e
  .rcases vv i st with g | g
   .exact (hi (hI.before i g ⟨r,hr,h2⟩)).elim
   .exact (hI.Iv i g h3 ⟨r,hr,h2⟩).elim
 have aG:1<=bn r.op->¬lO rs i->i<c:=by
  intro hk hw;rcases vO (ml hk) with e | h
  .subst e;rcases hI.cut with h | h
   .have Cd:i<rs.length:=(xW.1 hr).1;omega
   .exact (hw h.1).elim
  .exact h
 have Cb:¬lO rs i->bn r.op=0\/i<c:=fun hw=>by
  rcases xj (bn r.op) with h | h
  .exact .inl h
  .exact .inr (aG h hw)
 unfold wpOpIn;simp only[ho];unfold fC at aM
 cases Sx:rY (bV i) r.guard with
 | none=>simp[Sx] at aM
 | some b=>
  have Zl:=acr cX.guard (fun t ht=>Xn t (by simp[EG,ht])) Sx;rw[Zl]
  cases b with
  | false=>
   simp only[Sx,yc,yr] at aM;obtain⟨hv,hh,hc⟩:=aM;simp only[yH,xz];refine⟨fun _ _=>trivial,?_⟩;have ef:∀m S w,af O.ae m S w (vF i) undef:=fun m S w=>by rw[<-hv];simp[af,aE,undef]
   rw[<-cX.dst];rcases tu (lO rs i) with hw | hw
   .have e:=hwc hw;subst e;obtain⟨c',DI,h⟩:=aeH hG hI hr hi eX gG hD hd hw (m':=m) (S':=S) (w':=w) (u:=undef) (by rw[<-hh,<-hc];exact hI.hp) (by omega) (ef _ _ _) (by rw[<-hh];exact cp.refl)
    exact hK _ _ _ _ _ _ h
   .exact hK _ _ _ _ _ _ (OX hG hI hr hi eX gG hD hd hw (Cb hw) (m':=m) (S':=S) (w':=w) (u:=undef) hI.hp dI.refl (fun _ _ h=>.inl h) (ef _ _ _) cp.refl)
  | true=>
   simp only[Sx] at aM;simp only[xS];have kV:=abb cX.op aM;have M6:cg O m S w (bD (bV i) (lX r.op)) a.tmps:=fun t=>by
    rcases tu (t∈lX r.op) with h | h
    .rw [OW h];exact Xn t (by simp[EG,h])
    .have:ai (bD (bV i) (lX r.op)) t=.undef:=by
      clear Xn aM;revert h;generalize lX r.op=l;intro h
      induction l with
      | nil=>rfl
      | cons x l ih=>
       simp only[bD,ai];have hx:yt x t=ydz:=by
        cases hq:yt x t with
        | false=>rfl
        | true=>exact absurd (by rw[yi hq];exact xO) h
       rw[hx];exact ih (fun h'=>h (xy _ h'))
     rw[this];simp only[af]
   have A7:a7 O.prog O.aJ self (bD (bV i) (lX r.op)) (bJ i) (bG i) (kN r.op)=Gr (vF i,bJ (i+1),bG (i+1)):=
    aoh (fun t ht=>OW ht) aM
   have afr:¬lO rs i->kN r.op=r.op:=fun hw=>aqc (fun h=>hw ⟨r,hr,h⟩)
   have now:¬lO rs i->bm (bD (bV i) (lX r.op)) (bJ c) r.op=Gr (vF i)->Oper.wpIn (WF ro) 0 O.P o a w K Q:=by
    intro hw iU;by_cases DR:∃n sz z ps,r.op=.qQ n sz z ps
    .obtain ⟨n,sz,z,ps,DR⟩:=DR;have DK:bn r.op=0:=by rw[DR];rfl
     have aA0:a7 O.prog O.aJ self (bD (bV i) (lX r.op)) (bJ c) (bG c) r.op=Gr (vF i,bJ c,bG c):=by
      rw[DR] at iU ⊢;simp only[a7,iU]
     refine quiet_step (Hq:=bJ c) (cH:=bG c) hC hH (by omega) cX.op kV aA0 dd.refl (yx _) hI.hp.aG (fun id h1 h2=>by omega) M6 hI.hp (fun u m' S' w' k1 k2 k3 k4 k5=>?_);rw[<-cX.dst];exact hK _ _ _ _ _ _ (OX hG hI hr hi eX gG hD hd hw (.inl DK) k1 k2 (fun id p h=>.inl ((k3 id p h).resolve_right (by omega))) k4 k5)
    have jB:∃k,r.op=aW O.P H k o:=by
     rcases cX.op with h | ⟨cc,f,rr,_,_,h⟩ | ⟨_,_,_,_,_,_,_,h⟩ | ⟨_,_,_,_,_,_,_,h⟩ | ⟨_,_,_,_,_,_,h⟩
     .exact h
     .rw [h] at iU;simp[bm] at iU
     .rw [h] at iU;simp[bm] at iU
     .rw [h] at iU;simp[bm] at iU
     .exact (DR ⟨_,_,_,_,h⟩).elim
    obtain⟨k,hk⟩:=jB;rw[hk] at iU;rw[hk] at M6;obtain⟨u,h1,h2⟩:=aet hH M6 hI.hp iU;refine KC kV h1 (.inl rfl) ?_;rw[<-cX.dst];exact hK _ _ _ _ _ _ (OX hG hI hr hi eX gG hD hd hw (Cb hw) hI.hp dI.refl (fun _ _ h=>.inl h) h2 cp.refl)
   rcases tu (lO rs i) with hw | hw
   .have e:=hwc hw;subst e;refine adk hC hH (ani cX.op) kV A7 M6 hI.hp (fun u m' S' w' k1 k2 k3 k4=>?_);rw[<-cX.dst];obtain⟨c',DI,h⟩:=aeH hG hI hr hi eX gG hD hd hw k1 k2 k3 k4;exact hK _ _ _ _ _ _ h
   .rcases xj (bn r.op) with hk | hk
    .have A7:=afr hw▸A7;obtain⟨h1,_,_⟩:=adm (.inl hk) A7;exact now hw (by rw[an8 hk (bJ c) (bJ i)];exact h1)
    .have Ip:=aG hk hw;rcases vv i st with Xo | Xo
     .
      rcases hI.nD with h0 | h0
      .omega
      .have a6:D (st-1):=hI.before _ (by omega) h0;have bU:i≠st-1:=fun e=>hi (e▸a6)
       obtain⟨rp,hrp,cY⟩:=h0;rcases hG.pair i (st-1) r rp (by omega) hr hrp with h | h
       .exact (gG _ h a6).elim
       .obtain ⟨hg,sz,ag,t,jB⟩:=(abG h).2 hk cY;have hl:=aaY (c:=c) hG hr hi ⟨hg,jB⟩ hI.cn (fun j hj F1=>by
         rcases vv j st with g | g
         .exact hI.before j g F1
         .exact (hI.Iv j g hj F1).elim) gG hI.Iw (c-(i+1)) (by omega)
        rw[show i+1+(c-(i+1))=c by omega] at hl;refine now hw ?_;rw[jB];simp only[bm,aB];rw[OW (by simp[lX,jW])];exact hl
     .have iT:=OF hG hI (x:=i+1) (y:=c) (by omega) Ip (yx _);have M7:=OF hG hI (x:=st) (y:=i) (yx _) Xo (by omega)
      refine quiet_step (Hq:=bJ c) (cH:=bG c) hC hH (Km hr hw) cX.op kV (afr hw▸A7) iT.le iT.sN (hI.Iw i (by omega)) ?_ M6 hI.hp (fun u m' S' w' k1 k2 k3 k4 k5=>?_)
      .intro id h1 h2
       cases hm:m id with
       | none=>rfl
       | some p=>
        rcases hI.Zn id p hm with h | ⟨j,q1,q2,q3,q4,q5⟩
        .have:=M7.sN;omega
        .rcases Nat.lt_trichotomy j i with g | g | g
         .have:=(OF hG hI (x:=j+1) (y:=i) (by omega) g (by omega)).sN;omega
         .subst g;exact (hi q3).elim
         .have:=(OF hG hI (x:=i+1) (y:=j) (by omega) g (by omega)).sN;omega
      .rw [<-cX.dst];exact hK _ _ _ _ _ _ (OX hG hI hr hi eX gG hD hd hw (.inr Ip) k1 k2 (fun id p h=>(k3 id p h).imp (fun h=>h) (fun h=>⟨Xo,Ip,h.1,h.2⟩)) k4 k5)
def left(n:Nat)(listed:Array Bool):Nat:=(List.range n).countP fun i=> !listed.getD i ydz
def aqe{n:Nat}{i:Nat}(hi:i<n)(hs:listed.size=n)(hl:listed.getD i ydy=ydz):left n (listed.setIfInBounds i ydy)+1=left n listed:=by
 have key:∀(l:List Nat),l.Nodup->(i∈l->(l.countP fun j=> !(listed.setIfInBounds i ydy).getD j ydz)+1=l.countP fun j=> !listed.getD j ydz)/\(i∉l->(l.countP fun j=> !(listed.setIfInBounds i ydy).getD j ydz)=l.countP fun j=> !listed.getD j ydz):=by
  intro l
  induction l with
  | nil=>intro _;exact⟨fun h=>(by cases h),fun _=>rfl⟩
  | cons x l ih=>
   intro kV;have hx:x≠i->(listed.setIfInBounds i ydy).getD x ydz=listed.getD x ydz:=fun h=>getD_set_ne ydz (yde h)
   refine⟨fun hm=>?_,fun hm=>?_⟩
   .rw [ybR,ybR];by_cases e:x=i
    .simp_all
    .grind
   .grind
 exact (key _ List.nodup_range).1 (vW.2 hi)
def aoj{n:Nat}(h:left n listed=0):∀i,i<n->listed.getD i ydz=ydy:=by
 unfold left at h
 simp_all
def aok(hs:listed.size=ops.size)(hb:∀(i:Nat) (o:xa),ops[i]? =Gr o->∀e,e∈o.after->Region.binds .any e=ydy->e.on<i)(h:Region.ready .any ops listed=[]):∀i,i<ops.size->listed.getD i ydz=ydy:=by
 intro i
 induction i using ub with
 | _ i ih=>
  intro hi
  cases hq:listed.getD i ydz with
  | true=>rfl
  | false=>
   have:i∈Region.ready .any ops listed:=by
    refine mem_ready.2 ⟨?_,ops[i],by simp[hi],fun e he zV=>?_⟩
    .have aG:i<listed.size:=by lia
     simp only[wv,aG,tf,vh] at hq ⊢;exact hq
    .have:=hb i ops[i] (by simp[hi]) e he zV
     exact ih e.on this (by lia)
   rw[h] at this;cases this
def aso(hG:AD O H self ops π rs bV bJ bG vF)(hI:Inv O ops rs bV bJ bG D m0 S0 w0 n0 d0 st c m S w a)(jy:∀i,i<rs.length->D i):
  aT O m S w (bJ rs.length) (bG rs.length)/\cg O m S w (bV rs.length) a.tmps/\cp m0 S0 w0 (bJ 0) m S w (bJ rs.length) (bG 0)/\bG 0<=bG rs.length:=by
 have hc:c=rs.length:=by
  rcases hI.cut with h | ⟨⟨r,h1,_⟩,h2⟩
  .exact h
  .exact (h2 (jy c (xW.1 h1).1)).elim
 subst hc;refine⟨hI.hp,fun t=>?_,hI.Sw,hI.ge⟩;obtain⟨j,h1,h2,h3⟩:=hI.tm t;obtain⟨k,hk⟩:∃k,rs.length=j+k:=⟨rs.length-j,by omega⟩
 have:=J0 (t:=t) (i:=j) hG.run k (by omega) (fun l r g1 g2 hl hd=>by
  have:=(h2 l r hl hd).1 (jy l (xW.1 hl).1)
  omega)
 rw[<-hk] at this;rw[this];exact h3
structure KE(n:Nat)(π:Nat->Nat):Prop where
 inj:∀i j,π i=π j->i=j
 sur:∀x,x<n->∃i,i<n/\π i=x
 lt:∀i,i<n->π i<n
def au9(hC:pX O self)(hH:fW O H)(hG:AD O H self ops π rs bV bJ bG vF)(hπ:KE ops.size π)(hn:H.n<=n0)(hQ:∀a' m' S' w',aT O m' S' w' (bJ rs.length) (bG rs.length)->bG 0<=bG rs.length->cg O m' S' w' (bV rs.length) a'.tmps->cp m0 S0 w0 (bJ 0) m' S' w' (bJ rs.length) (bG 0)->a'.tmps.size=n0->a'.defers=d0->Q .normal a' w'):
  ∀(bq:Nat) (listed:Array Bool) (st c:Nat) (m:Mp) (S:Nat->Prop) (w:yo) (a:Act),listed.size=ops.size->left ops.size listed=bq->VS ops (fun i=>listed.getD i ydz=ydy)->
   Inv O ops rs bV bJ bG (fun i=>listed.getD (π i) ydz=ydy) m0 S0 w0 n0 d0 st c m S w a->wpAnyIn (WF ro) 0 O.P .any ops Q bq listed a w:=by
 have fin:∀(listed:Array Bool) (st c:Nat) (m:Mp) (S:Nat->Prop) (w:yo) (a:Act),Inv O ops rs bV bJ bG (fun i=>listed.getD (π i) ydz=ydy) m0 S0 w0 n0 d0 st c m S w a->(∀i,i<ops.size->listed.getD i ydz=ydy)->Q .normal a w:=by
  intro listed st c m S w a hI jy;obtain⟨h1,h2,h3,h4⟩:=aso hG hI (fun i hi=>jy _ (hπ.lt i (by rw[<-hG.len];exact hi)))
  exact hQ a m S w h1 h4 h2 h3 hI.size hI.defers
 intro bq
 induction bq with
 | zero=>
  intro listed st c m S w a hs hl hc hI;have jy:=aoj hl;refine⟨?_,fin listed st c m S w a hI jy⟩;rw[List.eq_nil_iff_forall_not_mem];intro i hm;obtain⟨h1,o,ho,_⟩:=mem_ready.1 hm;have hi:=(xC.1 ho).1
  have:=jy i hi
  have aG:i<listed.size:=by omega
  simp only[wv,aG,tf,vh] at h1 this;rw[this] at h1;cases h1
 | succ bq ih=>
  intro listed st c m S w a hs hl hc hI;refine⟨fun h=>fin listed st c m S w a hI (aok hs hG.back h),fun x hm=>?_⟩;obtain⟨h1,o,ho,h2⟩:=mem_ready.1 hm;have hx:x<ops.size:=(xC.1 ho).1;obtain⟨i,hi,rfl⟩:=hπ.sur x hx;have hr:rs[i]? =Gr (rs[i]'(by rw[hG.len];exact hi)):=by simp[hG.len,hi]
  have aG:π i<listed.size:=by omega
  have hni:¬listed.getD (π i) ydz=ydy:=by
   simp only[wv,aG,tf,vh] at h1 ⊢;rw[h1];simp
  have Zq:∀y,(listed.setIfInBounds (π i) ydy).getD y ydz=ydy↔listed.getD y ydz=ydy\/y=π i:=by
   intro y;by_cases e:y=π i
   .subst e;simp[aG]
   .rw [getD_set_ne ydz (yde e)];simp[e]
  have hD:∀j,(listed.setIfInBounds (π i) ydy).getD (π j) ydz=ydy↔listed.getD (π j) ydz=ydy\/j=i:=by
   intro j;rw[Zq];exact or_congr Iff.rfl ⟨fun e=>hπ.inj _ _ e,fun e=>by rw[e]⟩
  refine aqd (D:=fun i=>listed.getD (π i) ydz=ydy) hC hH hG hn hI hr ho hni (fun j hj=>acu hc (π i) o ho h2 (π j) hj) (fun j hj F3=>?_) hD (fun st' c' m' S' w' a' Zr=>ih (listed.setIfInBounds (π i) ydy) st' c' m' S' w' a' (by simp[hs]) ?_ ?_ Zr)
  .have hjl:π j<ops.size:=by
    rcases vv (π j) ops.size with h | h
    .exact h
    .rw [wv,yaV (by omega)] at F3;simp at F3
   exact hni (aqb hc (show ops[π j]? =Gr ops[π j] by simp[hjl]) F3 hj)
  .have:=aqe hx hs h1
   omega
  .intro j oj M8 hj e he hb;rw[Zq];rcases (Zq j).1 hj with g | g
   .exact .inl (hc j oj M8 g e he hb)
   .subst g;rw[ho] at M8;injection M8 with M8
    subst M8;exact .inl (h2 e he hb)
end
end
section
open Go
section
variable {pm:List Nat}{n:Nat}{P:xA}{s s':St}
def ank{F:Fence}{Q:uP->Act->yo->Prop}{a:Act}{w:yo}{c:vB}(h:c.wpIn F n P Q a w)(hg:∀l a w,¬Q (.goto l) a w):(Code.scope c).wpIn F n P Q a w:=by
 intro b k cs cX hb hr;have h0:(lone (b.atR a (.code (.scope c)::k)) cs w).fenced P F:=fenced_calm hb hr rfl;have s0:step P (lone (b.atR a (.code (.scope c)::k)) cs w)=.next (lone (b.atR a (.code c:: .inScope c::k)) cs w):=step_lone_go (by simp[stepG,stepG.exec,Frame.atR]);have⟨e,a₁,w₁,hq,Fj⟩:=h b (.inScope c::k) cs cX hb hr;have hx:∀id,exitTo id (.inScope c::k)=exitTo id k:=fun id=>by simp[exitTo]
 cases e with
 | normal=>
  have s1:step P (lone (b.atR a₁ (.inScope c::k)) cs w₁)=.next (lone (b.atR a₁ k) cs w₁):=step_lone_go (by simp[stepG,stepG.exec,Frame.atR]);exact⟨.normal,a₁,w₁,hq,.head h0 s0 (StepsIn.trans Fj (.one (fenced_calm hb hr rfl) s1))⟩
 | exit id=>
  exact⟨.exit id,a₁,w₁,hq,fun k' hk=>.head h0 s0 (Fj.1 k' (by rw[hx];exact hk)),fun bQ hk=>let ⟨k₁,h1,h2⟩:=Fj.2 bQ (by rw[hx];exact hk);⟨k₁,h1,.head h0 s0 h2⟩⟩
 | goto l=>exact (hg _ _ _ hq).elim
 | ret=>exact⟨_,a₁,w₁,hq,.of_steps (.one h0 s0) Fj⟩
 | panic ch=>exact⟨_,a₁,w₁,hq,.of_steps (.one h0 s0) Fj⟩
 | outgrown=>exact⟨_,a₁,w₁,hq,.of_steps (.one h0 s0) Fj⟩
def zH:Ex->uP
 | .normal=>.normal
 | .ret=>.ret
 | .exit id=>.exit id
def Marks(lo:Nat)(S:Nat->Prop)(w:yo)(ds:List yaC):Prop:=∃rs:List Nat,ds=rs.map (fun r=>{target:=.collected r,args:=#[]})/\rs.Nodup/\
 ∀r,r∈rs->w.heap[r]? =Gr (.deferred (Gr []))/\¬S r/\lo<=r
def By(ro:Option Nat)(w:yo):Prop:=∀l,ro=Gr l->∃r:tp,w.heap[l]? =Gr (.loop r)
section
variable {O:bC}{m:Mp}{S:Nat->Prop}{w:yo}{hp:Hp}{ct:Nat}
def adn(hh:aT O m S w hp ct){b:Nat}(h:eH m hp b):∀x,w.heap[b]?≠Gr (.deferred x):=by
 intro x hx;obtain⟨id,o,p,h1,h2,rfl⟩:=h;have h3:=hh.obj id o p h1 h2
 cases o with
 | cells rw pu ex sz cs=>have⟨q,arr,t,g1,g2,_⟩:=h3;rw[h2] at g1;injection g1 with g1;subst g1;rw[hx] at g2;cases g2
 | mp rw ks vs=>have⟨q,es,clock,g1,g2,_⟩:=h3;rw[h2] at g1;injection g1 with g1;subst g1;rw[hx] at g2;cases g2
 | si s pos=>have⟨q,t,g1,g2,_⟩:=h3;rw[h2] at g1;injection g1 with g1;subst g1;rw[hx] at g2;cases g2
 | lp tm ps as_ body st pe=>have⟨q,l,hi,g1,g2,_⟩:=h3;rw[h2] at g1;injection g1 with g1;subst g1;rw[hx] at g2;cases g2
def CG(hh:aT O m S w hp ct){w':yo}{lo:Nat}(hf:cp m S w hp m' S' w' ap base){ds:List yaC}(h:Marks lo S w ds):Marks lo S' w' ds:=by
 have⟨rs,h1,h2,h3⟩:=h;refine⟨rs,h1,h2,fun r hr=>?_⟩;have⟨this,h4,h5⟩:=h3 r hr;have aG:=(xC.1 this).1;have qY:¬eH m hp r:=fun ho=>adn hh ho _ this
 refine⟨(hf.same r aG qY).trans this,fun hs=>?_,h5⟩;rcases hf.new r hs with h | h | h
 .grind
 .grind
 .lia
def OG{w':yo}(hf:cp m S w hp m' S' w' ap base)(h:By ro w):By ro w':=fun l hl=>
 let ⟨r,hr⟩:=h l hl
 hf.loops l r hr
def fe(O:bC)(m:Mp)(S:Nat->Prop)(w:yo)(s:St)(ex:Ex)(s':St)(n lo:Nat)(e:uP)(a':Act)(w':yo):Prop:=
 e=zH ex/\∃m' S',cg O m' S' w' s'.tm a'.tmps/\aT O m' S' w' s'.hp s'.ct/\s'.base=s.base/\s.base<=s'.ct/\cp m S w s.hp m' S' w' s'.hp s.base/\a'.tmps.size=n/\Marks lo S' w' a'.defers
def Dd(O:bC)(h:Nat)(c:vB)(s:St)(ex:Ex)(s':St):Prop:=
 ∀(ro:Option Nat) (lo:Nat) (m:Mp) (S:Nat->Prop) (w:yo) (a:Act),By ro w->cg O m S w s.tm a.tmps->aT O m S w s.hp s.ct->s.base<=s.ct->(O.hint h).n<=a.tmps.size->O.w0.heap.size<=lo->lo<=w.heap.size->Marks lo S w a.defers->
  c.wpIn (WF ro) 0 O.P (fe O m S w s ex s' a.tmps.size lo) a w
structure iZ(O:bC):Prop where
 hint:∀h,fW O (O.hint h)
 mixed:O.P.follows .mixedOrders=ydy
 prog:∀n F,O.prog n=Gr F->∃fn,O.P.funcs[O.ae n]? =Gr fn/\GP O.P (O.hint n) fn=Gr F/\fn.name≠ "runtime.NumGoroutine"
 aJ:∀n sp aw r,O.aJ.pure n=Gr sp->sp aw=Gr r->eJ O n aw r
 Hw:∀n sp hp ct aw v ap aO,O.aJ.heap n=Gr sp->sp hp ct aw=Gr (v,ap,aO)->Dc O n hp ct aw v ap aO
def GF{P:xA}{H:Hint}{ops:Array xa}:∀(rs:List aU) (l:List xa) (done:List aU) (ms:List Nat),gE P H ops rs l->gE P H ops (mB done rs ms) l
 | [],l,done,ms,h=>by
  cases ms<;>simpa only[mB] using h
 | r::rs,[],done,ms,h=>by simp[gE] at h
 | r::rs,o::l,done,[],h=>by
  have⟨d,g,op⟩:=r;cases op<;>simpa only[mB] using h
 | r::rs,o::l,done,m::ms,h=>by
  simp only[gE] at h;have⟨h1,h2⟩:=h;have⟨d,g,op⟩:=r
  cases op with
  | jV DT f xs=>
   simp only[mB,gE];refine⟨?_,GF rs l _ ms h2⟩;rcases h1 with h1 | ⟨_,h1⟩
   .refine .inl ⟨?_,h1.dst,h1.ok,h1.guard⟩;have⟨c,f',g1,g2,g3,g4⟩:=UM h1.op;rw[g3,g4];exact .inr (.inl ⟨c,f',_,g1,g2,rfl⟩)
   .simp [bad] at h1
  | st sz x y=>
   simp only[mB,gE];refine⟨?_,GF rs l _ ms h2⟩;rcases h1 with h1 | ⟨_,h1⟩
   .refine .inl ⟨?_,h1.dst,h1.ok,h1.guard⟩;unfold stOp
    split
    .exact h1.op
    .have ⟨t,x',y',g1,g2,g3,g4⟩:=ay7 h1.op;exact .inr (.inr (.inl ⟨t,x',y',sz,_,g1,g2,by rw[g3,g4]⟩))
   .simp [bad] at h1
  | ew sz b x y=>
   simp only[mB,gE];refine⟨?_,GF rs l _ ms h2⟩;rcases h1 with h1 | ⟨_,h1⟩
   .refine .inl ⟨?_,h1.dst,h1.ok,h1.guard⟩;unfold ahL
    split
    .exact h1.op
    .have ⟨k,hk⟩:=au8 h1.op;exact .inr (.inr (.inr (.inl ⟨k,_,sz,b,x,y,hk,rfl⟩)))
   .simp [bad] at h1
  | _=>
   simp only[mB,gE];exact⟨h1,GF rs l _ ms h2⟩
end
section
variable {O:bC}{self:cu}
def OY{P:xA}{H:Hint}{ops:Array xa}:∀{rs:List aU} {l:List xa},gE P H ops rs l->rs.length=l.length/\∀(i:Nat) (r:aU) (o:xa),rs[i]? =Gr r->l[i]? =Gr o->Fa P H ops r o\/(r.guard=Gs/\r.op=bad)
 | [],[],_=>⟨rfl,fun i r o h=>by simp at h⟩
 | [],_::_,h=>by simp[gE] at h
 | _::_,[],h=>by simp[gE] at h
 | r::rs,o::l,h=>by
  have⟨h1,h2⟩:=OY h.2;refine⟨by simp[h1],fun i r' o' hr ho=>?_⟩
  cases i with
  | zero=>simp at hr ho;subst hr;subst ho;exact h.1
  | succ i=>exact h2 i r' o' (by simpa using hr) (by simpa using ho)
def asp{H:Hint}{o:xa}{z:List AV}(hq:qw P H (.kQ n sz z ps) o):∃k,Op.kQ n sz z ps=aW P H k o:=by
 rcases hq with h | ⟨_,_,_,_,_,h3⟩ | ⟨_,_,_,_,_,_,_,h3⟩ | ⟨_,_,_,_,_,_,_,h3⟩ | ⟨_,_,_,_,_,_,h3⟩
 .exact h
 .cases h3
 .cases h3
 .cases h3
 .cases h3
def ado{P:xA}{H:Hint}{ops:Array xa}{all:List aU}:∀(rs:List aU) (l:List xa),gE P H ops rs l->gE P H ops (E5 all rs) l
 | [],[],h=>h
 | [],_::_,h=>by simp[gE] at h
 | r::rs,[],h=>by simp[gE] at h
 | r::rs,o::l,h=>by
  simp only[gE] at h;obtain⟨h1,h2⟩:=h;simp only[E5,gE];refine⟨?_,ado rs l h2⟩;obtain⟨d,g,op⟩:=r
  cases op with
  | kQ n sz z ps=>
   simp only
   cases PO d all with
   | false=>exact h1
   | true=>
    simp only[yy];rcases h1 with h1 | ⟨_,h1⟩
    .refine .inl ⟨?_,h1.dst,h1.ok,h1.guard⟩;obtain⟨k,hk⟩:=asp h1.op;exact .inr (.inr (.inr (.inr ⟨k,n,sz,z,ps,hk,rfl⟩)))
    .simp [bad] at h1
  | _=>exact h1
def De(l:List xa):List Nat->List xa
 | []=>[]
 | x::r=>match l[x]? with | some o=>o::De l r | none=>De l r
def Vl{P:xA}{H:Hint}{ops:Array xa}{rs:List aU}{l:List xa}(h:gE P H ops rs l):∀(pm:List Nat),gE P H ops (Da rs pm) (De l pm)
 | []=>trivial
 | x::r=>by
  obtain⟨h1,h2⟩:=OY h;simp only[Da,De]
  cases hr:rs[x]? with
  | none=>
   have:l[x]? =Gs:=by rw[List.getElem?_eq_none_iff] at hr ⊢;omega
   rw[this];exact Vl h r
  | some q=>
   have aG:=(xW.1 hr).1;have hl:l[x]? =Gr (l[x]'(by omega)):=by rw[xu]
   rw[hl];exact⟨h2 x q _ hr hl,Vl h r⟩
def acw{l:List xa}:∀(pm:List Nat),(∀x,x∈pm->x<l.length)->(De l pm).length=pm.length/\∀(i:Nat),(De l pm)[i]? =(pm[i]?).bind (l[·]?)
 | [],_=>⟨rfl,fun i=>by simp[De]⟩
 | x::r,h=>by
  have hx:=h x xO;obtain⟨h1,h2⟩:=acw r (fun y hy=>h y (xy _ hy));have hl:l[x]? =Gr l[x]:=by rw[xu]
  simp only[De,hl];refine⟨by simp[h1],fun i=>?_⟩
  cases i with
  | zero=>simp[hl]
  | succ i=>simpa using h2 i
def abd{m:Nat}:∀(pm:List Nat) (k i:Nat),vK (GN m pm k) i=ydy->k<=i/\∃x,pm[i-k]? =Gr x/\vK m x=ydy
 | [],k,i,h=>by simp[GN] at h
 | x::r,k,i,h=>by
  simp only[GN,yco,wM] at h;rcases h with h | h
  .cases hx:vK m x with
   | false=>simp[hx] at h
   | true=>
    simp only[hx,yy,Nat.testBit_two_pow,xc] at h;subst h;exact⟨yx _,x,by simp,hx⟩
  .obtain ⟨h1,y,h2,h3⟩:=abd r (k+1) i h;refine⟨by omega,y,?_,h3⟩;rw[show i-k=(i-(k+1))+1 by omega,yaW];exact h2
def abe{ms pm all:List Nat}:∀(l:List Nat) (j:Nat),(CP ms pm all l)[j]? =(l[j]?).map fun x=>GN (ms.getD x 0) pm 0
 | [],j=>by simp[CP]
 | x::r,0=>by simp[CP]
 | x::r,j+1=>by simpa[CP] using abe r j
def amG(h:Kz n pm (AA pm n)=ydy):pm.length=n/\(∀x,x∈pm->x<n)/\KE n (fun i=>pm.getD i i):=by
 simp only[Kz,yf] at h;obtain⟨h1,h2⟩:=h;have hl:=yi h1;have Cd:(AA pm n).length=n:=by simp[AA]
 have h3:∀i,i<n->pm.getD i i<n/\(AA pm n).getD i i<n/\(AA pm n).getD (pm.getD i i) i=i/\pm.getD ((AA pm n).getD i i) i=i:=fun i hi=>by
  have:=yan.1 h2 i (vW.2 hi)
  simp only[yf] at this;obtain⟨a,b,c,d⟩:=this;exact⟨rL.1 a,rL.1 b,yi c,yi d⟩
 have out:∀i,n<=i->pm.getD i i=i:=fun i hi=>by rw[y9,List.getElem?_eq_none (by omega)];rfl
 generalize AA pm n=inv at h3 Cd;have ahV:∀(l:List Nat) (i a b:Nat),i<l.length->l.getD i a=l.getD i b:=fun l i a b hi=>by
  rw[y9,y9,xu hi];rfl
 refine⟨hl,fun x hx=>?_,⟨fun i j q8=>?_,fun x hx=>?_,fun i hi=>(h3 i hi).1⟩⟩
 .obtain ⟨i,hi,rfl⟩:=List.getElem_of_mem hx
  have:=(h3 i (by omega)).1
  rwa[y9,xu hi] at this
 .have q8:pm.getD i i=pm.getD j j:=q8;by_cases hi:i<n
  .by_cases hj:j<n
   .have a:=(h3 i hi).2.2.1;have b:=(h3 j hj).2.2.1;rw[q8] at a;rw[ahV inv _ i j (by rw[Cd];exact (h3 j hj).1)] at a
    exact a.symm.trans b
   .rw [out j (by omega)] at q8
    have:=(h3 i hi).1
    omega
  .by_cases hj:j<n
   .rw [out i (by omega)] at q8
    have:=(h3 j hj).1
    omega
   .rw [out i (by omega),out j (by omega)] at q8;exact q8
 .obtain ⟨_,b,_,d⟩:=h3 x hx;exact⟨_,b,by show pm.getD _ _=x;rw[ahV pm _ _ x (by omega)];exact d⟩
def amH{H:Hint}{ops:Array xa}{rs:List aU}(bN:(rE ops.toList 0&&As [] rs (lZ [] ops.toList))=ydy)(Xp:gE P H ops rs ops.toList)(hv:dh Pp L FZ rs s=Gr s'):
  ∃rs π,KE ops.size π/\rE ops.toList 0=ydy/\(rs.length=ops.size/\∀(i:Nat) (r:aU) (o:xa),rs[i]? =Gr r->ops[π i]? =Gr o->Fa P H ops r o\/(r.guard=Gs/\r.op=bad))/\
    (∀(i j:Nat) (x y:aU),i<j->rs[i]? =Gr x->rs[j]? =Gr y->Ord ops (π i) (π j)\/Fm x y ((rs.take j).drop (i+1)))/\dh Pp L FZ rs s=Gr s':=by
 simp only[yf] at bN;obtain⟨hlen,ak⟩:=OY Xp;refine⟨rs,fun i=>i,⟨fun _ _ h=>h,fun x h=>⟨x,h,rfl⟩,fun _ h=>h⟩,bN.1,⟨by rw[hlen];simp,fun i r o hr ho=>ak i r o hr (by simpa using ho)⟩,fun i j x y q8 hx hy=>?_,hv⟩
 obtain⟨mm,g1,g2⟩:=Tp (done:=[]) (i:=i) (j:=j) (a:=x) (b:=y) bN.2 (by simpa using hx) hy (by simpa using q8);refine g2.imp (fun g=>?_) (fun g=>by simpa using g);unfold Ord;rw[y9,g1];exact g
def amo{H:Hint}{ops:Array xa}{l:List aU}{zS:List Nat}(F5:gE P H ops l ops.toList)(Zs:CP (lZ [] ops.toList) pm pm pm=zS)(q1:rE ops.toList 0=ydy)(q2:Kz ops.size pm (AA pm ops.size)=ydy)(q3:As [] (mB [] (Da (E5 l l) pm) zS) zS=ydy)(hv:dh Pp L FZ (mB [] (Da (E5 l l) pm) zS) s=Gr s'):
  ∃rs π,KE ops.size π/\rE ops.toList 0=ydy/\(rs.length=ops.size/\∀(i:Nat) (r:aU) (o:xa),rs[i]? =Gr r->ops[π i]? =Gr o->Fa P H ops r o\/(r.guard=Gs/\r.op=bad))/\
    (∀(i j:Nat) (x y:aU),i<j->rs[i]? =Gr x->rs[j]? =Gr y->Ord ops (π i) (π j)\/Fm x y ((rs.take j).drop (i+1)))/\dh Pp L FZ rs s=Gr s':=by
 obtain⟨hl,aG,hπ⟩:=amG q2;have h1:=GF _ _ [] zS (Vl (ado (all:=l) _ _ F5) pm);obtain⟨h2,h3⟩:=OY h1;obtain⟨h4,h5⟩:=acw (l:=ops.toList) pm (fun x hx=>by simpa using aG x hx);refine⟨_,_,hπ,q1,⟨by rw[h2,h4,hl],fun i r o hr ho=>h3 i r o hr ?_⟩,fun i j x y q8 hx hy=>?_,hv⟩
 .have hi:i<pm.length:=by have:=(xW.1 hr).1;omega
  rw[h5,xu hi,wT];rw[y9,xu hi,vh] at ho;simpa using ho
 .have hj:j<pm.length:=by have:=(xW.1 hy).1;omega
  obtain⟨mm,g1,g2⟩:=Tp (done:=[]) (i:=i) (j:=j) (a:=x) (b:=y) q3 (by simpa using hx) hy (by simpa using q8);refine g2.imp (fun g=>?_) (fun g=>by simpa using g);rw[<-Zs,abe,xu hj,vd,yc] at g1;subst g1;obtain⟨_,z,g3,g4⟩:=abd _ _ _ g;unfold Ord
  rw[y9 (l:=pm),xu hj,vh]
  rw[y9 (l:=pm),show pm[i]? =Gr z by simpa using g3,vh];exact g4
def aol{m:Mp}{w:yo}(hh:aT O m S w hp ct):Calm w {w with drawn:=w.drawn+1}:=⟨rfl,rfl,rfl,yx _,fun _ _=>rfl⟩
def avb(hO:iZ O)(hC:pX O self)(h:Nat)(id:Nat)(ops:Array xa)(draw:Bool)(k:Nat)(hv:dh O.prog O.aJ self (Ph O.P (O.hint h) ops draw k).1 s=Gr s'):Dd O h (.region id ops draw) s .normal s':=by
 intro ro lo m S w a cX ht hh hb hn aZ fP cx;unfold Ph at hv;have F5:=abE (P:=O.P) (H:=O.hint h) (ops:=ops) ops.toList k;generalize hq:Ez O.P (O.hint h) ops ops.toList k=q at hv F5;obtain⟨l,k'⟩:=q;simp only at hv F5;have post:∀{a':Act} {m':Mp} {S':Nat->Prop} {w':yo},aT O m' S' w' s'.hp s'.ct->s.ct<=s'.ct->cg O m' S' w' s'.tm a'.tmps->cp m S w s.hp m' S' w' s'.hp s.ct->a'.tmps.size=a.tmps.size->a'.defers=a.defers->s'.base=s.base->fe O m S w s .normal s' a.tmps.size lo .normal a' w':=by
  intro a' m' S' w' h1 h2 h3 h4 h5 h6 h7;exact⟨rfl,m',S',h3,h1,h7,by omega,h4.AH hb,h5,by rw[h6];exact CG hh h4 cx⟩
 cases draw with
 | false=>
  simp only[yT] at hv;refine wpIn_region ?_;rw[List.range_eq_range'];have hl:ops.size=ops.toList.length:=by simp
  rw[hl];exact aeE hC (hO.hint h) ops.toList l 0 s s' a m S w (fun j=>by simp) F5 hv ht hh hn (fun a' m' S' w' h1 h2 h3 h4 h5 h6 h7=>post h1 h2 h3 h4 h5 h6 h7)
 | true=>
  simp only[yy] at hv;have zW:∃rs π,KE ops.size π/\rE ops.toList 0=ydy/\(rs.length=ops.size/\∀(i:Nat) (r:aU) (o:xa),rs[i]? =Gr r->ops[π i]? =Gr o->Fa O.P (O.hint h) ops r o\/(r.guard=Gs/\r.op=bad))/\
    (∀(i j:Nat) (x y:aU),i<j->rs[i]? =Gr x->rs[j]? =Gr y->Ord ops (π i) (π j)\/Fm x y ((rs.take j).drop (i+1)))/\dh O.prog O.aJ self rs s=Gr s':=by
   have Xp:=GF l ops.toList [] (lZ [] ops.toList) F5
   cases bN:(rE ops.toList 0&&As [] (mB [] l (lZ [] ops.toList)) (lZ [] ops.toList)) with
   | true=>
    rw[bN] at hv;exact amH bN Xp hv
   | false=>
    rw[bN] at hv;simp only[yT] at hv;generalize hpm:places l (lZ [] ops.toList)=pm at hv;generalize Zs:CP (lZ [] ops.toList) pm pm pm=zS at hv
    cases QK:(rE ops.toList 0&&(Kz ops.size pm (AA pm ops.size)&&As [] (mB [] (Da (E5 l l) pm) zS) zS)) with
    | false=>
     rw[QK] at hv;simp[dh,bad,a7,fb,aB] at hv
    | true=>
     rw[QK] at hv;simp only[yy] at hv;simp only[yf] at QK;obtain⟨q1,q2,q3⟩:=QK;exact amo F5 Zs q1 q2 q3 hv
  clear hv;obtain⟨rs,π,hπ,ay8,⟨hlen,ak⟩,ay9,hv⟩:=zW
  .obtain ⟨bV,bJ,bG,vF,hR,e1,e2,e3,e4,e5,e6,e7⟩:=aeF hv;have hG:AD O (O.hint h) self ops π rs bV bJ bG vF:=by
    refine⟨hR,hlen,fun i r o hr ho=>?_,ay9,fun i o ho e he hbd=>?_⟩
    .rcases ak i r o hr ho with g | ⟨g1,g2⟩
     .exact g
     .have:=hR.step i r hr
      simp[fC,g1,rY,g2,bad,a7,fb,aB] at this
    .have:=aaT ay8 (j:=i) (o:=o) (by simpa using ho) e he hbd
     omega
   refine wpIn_region_any hO.mixed ?_;have LB:=aol hh;have kB:=Er hh LB (S':=S) (fun _ h=>h) (fun _ h=>.inl h) hh.slt
   have Sv:cp m S w s.hp m S {w with drawn:=w.drawn+1} s.hp (bG 0):=CI hh LB (fun _ h=>h) (fun _ h=>.inl h);obtain⟨c,c1,c2,c3,c4⟩:=VT rs rs.length 0 (by omega);have hg:∀k',k'<=c->jH (bJ 0) (bG 0) (bJ (0+k')) (bG (0+k')):=fun k' py=>
    OE hR (by rw[e2,e3];exact hh.aG) k' (by omega) (fun j r g1 g2 hr=>Km hr (c3 j g1 (by omega)))
   have iT:=hg c (yx _);rw[ye] at iT;obtain⟨S1,g1,g2,g3,g4⟩:=OU (by rw[e2,e3];exact kB:aT O m S {w with drawn:=w.drawn+1} (bJ 0) (bG 0)) iT
   have AB:∀i,(uQ ops.size ydz).getD i ydz=ydy->False:=fun i hi=>by
    simp only[wv] at hi;by_cases aG:i<ops.size
    .simp [aG] at hi
    .rw [yaV (by simpa using aG)] at hi;simp at hi
   refine au9 (m0:=m) (S0:=S) (w0:=w) (n0:=a.tmps.size) (d0:=a.defers) hC (hO.hint h) hG hπ hn (fun a' m' S' w' h1 h2 h3 h4 h5 h6=>?_) ops.size _ 0 c m S1 _ a (by simp) ?_ (fun j o _ hj=>(AB j hj).elim) ?_
   .rw [e5,e6] at h1;rw[e3,e6] at h2;rw[e4] at h3;rw[e2,e3,e5] at h4;exact post h1 h2 h3 h4 h5 h6 e7
   .unfold left;rw[List.countP_eq_length.2]
    .simp
    .intro i hi;simp only[vS]
     cases hq:(uQ ops.size ydz).getD i ydz with
     | false=>rfl
     | true=>exact (AB i hq).elim
   .refine ⟨tG _,c2,fun i hi=>by omega,c3,c4.imp (fun h=>h) (fun h=>⟨h,fun hd=>AB _ hd⟩),fun i r _ _ _ hd=>AB _ hd,g1,fun id p hp=>.inl (by rw[e3];exact hh.lt id p hp),fun t=>⟨0,tG _,fun i r _ _=>⟨fun hd=>(AB _ hd).elim,fun h=>by omega⟩,?_⟩,?_,iT.sN,rfl,rfl,.inl rfl,fun j hj=>?_⟩
    .rw [e1];exact nN (fun _ _ h=>h) (fun b hb=>g2 b hb) (fun b hb=>LB.same b (hh.slt b hb)) _ _ (ht t)
    .rw [e2];have g5:=g4 (bG 0);rw[e2] at g5;exact Sv.trans g5
    .have:=(hg j hj).lt
     rw[ye] at this;exact this
end
end
end
section
open Go
section
variable {ps:List Nat}{b l:Nat}{P:xA}
section
variable {O:bC}{m:Mp}{S:Nat->Prop}{w:yo}{hp:Hp}{ct:Nat}
def abH(hh:aT O m S w hp ct){g:Nat}{w':yo}(hw:One w w' g)(hg:¬S g)(ho:¬eH m hp g)(aZ:O.w0.heap.size<=g):aT O m S w' hp ct:=by
 have aM:gX S w w':=fun b hb=>hw.other b (fun e=>hg (e▸hb))
 refine⟨fun id o p h1 h2=>?_,hh.lt,hh.inj,fun b hb=>by rw[hw.size];exact hh.slt b hb,fun id p h=>by rw[hw.size];exact hh.blt id p h,hh.low,fun b hb=>?_,by rw[hw.size];exact hh.gZ,hh.aG⟩
 .exact Al (fun _ _ h=>h) (fun _ h=>h) aM (fun q hq=>hw.other _ (fun e=>ho ⟨id,o,q,h1,hq,e⟩)) (fun _ _ h=>h) (hh.obj id o p h1 h2)
 .rw [hw.other b (by lia)];exact hh.nf b hb
def abI{o:yaB}(h:w.heap[b]? =Gr o)(hc:∀c t f,o≠.cells c t f):(getObj b).run P w=.ok o w:=by
 simp only[getObj,Sem.run,h]
def Om{o x:yaB}(h:w.heap[b]? =Gr o)(hc:∀c t f,o≠.cells c t f):(setObj b x).run P w=.ok () {w with heap:=w.heap.setIfInBounds b x}:=by
 simp only[setObj,Sem.run,h]
def JM{r:tp}(h:w.heap[b]? =Gr (.loop r)):(Instr.getLoop b).run P w=.ok r w:=by
 simp only[Instr.getLoop,Sem.run_bind,abI (P:=P) h (fun _ _ _=>by simp),Result.andThen_ok,Sem.run_pure]
def Kn(hh:aT O m S w hp ct){st:Nat}(hg:ak hp l=Gr (.lp tm ps as_ body st pe))(hm:m l=Gr p):
  ∃(r:tp) (h:Nat),w.heap[p.b]? =Gr (.loop r)/\¬S p.b/\r.state=Dl st/\st<=2/\r.pending=Bx pe/\cg O m S w tm r.tmps/\r.params.toList=ps/\DH O.P (O.hint h) as_ r.assign/\DH O.P (O.hint h) body r.body/\
   (O.hint h).n<=r.tmps.size/\BE (O.hint h).n ps=ydy:=by
 have⟨q,r,h,g1,g2,g3⟩:=hh.obj l _ p hg hm
 grind
def acx(hh:aT O m S w hp ct){st:Nat}(hg:ak hp l=Gr (.lp tm ps as_ body st pe))(hm:m l=Gr p){r:tp}(hr:w.heap[p.b]? =Gr (.loop r)){st':Nat}{pe':AG}(h2:st'<=2):
  aT O m S {w with heap:=w.heap.setIfInBounds p.b (.loop {r with state:=Dl st',pending:=Bx pe'})} (aR hp l (.lp tm ps as_ body st' pe')) ct/\
  cp m S w hp m S {w with heap:=w.heap.setIfInBounds p.b (.loop {r with state:=Dl st',pending:=Bx pe'})} (aR hp l (.lp tm ps as_ body st' pe')) ct:=by
 have⟨r',h,g1,g2,g3,g4,g5,g6,g7,g8,g9,g10,g11⟩:=Kn hh hg hm;rw[hr] at g1;injection g1 with g1
 injection g1 with g1
 subst g1;have gN:=Gw w p.b (.loop {r with state:=Dl st',pending:=Bx pe'})
 refine J9 hh hg hm g2 gN ⟨p,{r with state:=Dl st',pending:=Bx pe'},h,hm,Oi hr,g2,rfl,h2,rfl,?_,g7,g8,g9,g10,g11⟩ (fun _ _=>⟨_,Oi hr⟩);exact CF (fun _ _ h=>h) (fun _ h=>h) (fun b hb=>gN.other b (fun e=>g2 (e▸hb))) g6
def acy{n:Nat}:∀{ps:List Nat} {vs:List AV} {us:List yj} {tm tm':Env} {tmps:Array yj},zA tm ps vs=Gr tm'->aE O.ae m S w vs us->cg O m S w tm tmps->n<=tmps.size->BE n ps=ydy->
  ps.length=us.length/\cg O m S w tm' ((ps.zip us).foldl (fun t (x:Nat×yj)=>t.setIfInBounds x.1 x.2) tmps)/\((ps.zip us).foldl (fun t (x:Nat×yj)=>t.setIfInBounds x.1 x.2) tmps).size=tmps.size
 | [],[],us,tm,tm',tmps,h,hr,ht,hn,ha=>by
  simp only[zA,yc] at h;simp only[aE] at hr
  simp_all
 | [],_::_,us,tm,tm',tmps,h,hr,ht,hn,ha=>by simp[zA] at h
 | _::_,[],us,tm,tm',tmps,h,hr,ht,hn,ha=>by simp[zA] at h
 | p::ps,v::vs,us,tm,tm',tmps,h,hr,ht,hn,ha=>by
  simp only[zA] at h;obtain⟨u,t,rfl,h1,h2⟩:=hr;simp only[BE,yf] at ha;have hp:=rL.1 ha.1;have ht1:cg O m S w ((p,v)::tm) (tmps.setIfInBounds p u):=UP (a:=⟨tmps,[]⟩) (d:=Gr p) ht (fun i hi=>by injection hi with hi;show i<tmps.size;lia) h1
  have⟨g1,g2,g3⟩:=acy (n:=n) h h2 ht1 (by simpa using hn) ha.2
  simp_all
def aqf(ps:Array Tmp)(args:Array yj)(tmps:Array yj):(ps.zip args).foldl (fun tmps (x:Tmp×yj)=>tmps.setIfInBounds x.1 x.2) tmps=(ps.toList.zip args.toList).foldl (fun t (x:Nat×yj)=>t.setIfInBounds x.1 x.2) tmps:=by
 rw[<-Array.foldl_toList,Array.toList_zip]
def amp{r:tp}(h:w.heap[b]? =Gr (.loop r))(jump:Option vB):
  (Instr.endRound b jump).run P w=.ok (.bool jump.isNone) {w with heap:=w.heap.setIfInBounds b (.loop {r with state:=if jump.isNone then .ready else .done,pending:=jump})}:=by
 simp only[Instr.endRound,Sem.run_bind,JM h,Result.andThen_ok,Om (P:=P) h (fun _ _ _=>by simp),Sem.run_pure]
def amb{r:tp}(h:w.heap[b]? =Gr (.loop r))(hs:r.state=.ready):
  (Instr.beginRound b).run P w=.ok () {w with heap:=w.heap.setIfInBounds b (.loop {r with state:=.busy})}:=by
 simp only[Instr.beginRound,Sem.run_bind,JM h,Result.andThen_ok,Om (P:=P) h (fun _ _ _=>by simp),hs,Sem.run_pure]
def aqg(hS:∀v s ex s',self v s=Gr (ex,s')->∀c h l k,(comp O.P (O.hint h) c l k).1=v->Dd O h c s ex s'){xs:List AV}(hv:jT self hp ct l xs=Gr (v,ap,aO)):afo O hp ct l xs v ap aO:=by
 intro m S w args p hh hm fj;unfold jT at hv
 split at hv
 case h_2=>cases hv
 rename_i tm ps as_ body pe hg;have⟨r,h,g1,g2,g3,g4,g5,g6,g7,⟨ca,ka,g8⟩,⟨cb,kb,g9⟩,g10,g11⟩:=Kn hh hg hm
 cases hb:zA tm ps xs with
 | none=>simp[hb] at hv
 | some tm'=>
  simp only[hb] at hv;have⟨b1,b2,b3⟩:=acy hb fj g6 g10 g11;rw[<-g7] at b1 b2 b3;have eS:args.size=r.params.size:=by
   grind
  let tmps:Array yj:=(r.params.zip args).foldl (fun tmps (x:Tmp×yj)=>tmps.setIfInBounds x.1 x.2) r.tmps
  have ahW:tmps=(r.params.toList.zip args.toList).foldl (fun t (x:Nat×yj)=>t.setIfInBounds x.1 x.2) r.tmps:=aqf _ _ _;refine⟨r.fn,tmps,r.assign,r.body,?_,?_⟩
  .simp only [Instr.yield,Sem.run_bind,JM g1,Result.andThen_ok,eS,ybZ,ydt,xz,Sem.run_pure];rfl
  refine roundIn_of_wpIn (F:=Fence.wide) trivial ?_
  cases h1:self as_ ⟨tm',hp,ct,ct⟩ with
  | none=>simp[h1] at hv
  | some q=>
   have⟨ex1,s1⟩:=q
   cases ex1 with
   | ret=>simp[h1] at hv
   | exit id=>simp[h1] at hv
   | normal=>
    simp only[h1] at hv;have eY:=hS _ _ _ _ h1 r.assign h ca ka g8;have cX:∀w',cp m S w hp m S w' hp ct->By (Gr p.b) w':=fun w' hf=>OG hf (fun l hl=>⟨r,by injection hl with hl;subst hl;exact g1⟩)
    refine wpIn_mono (eY (Gr p.b) w.heap.size m S w ⟨tmps,[]⟩ (cX w cp.refl) (by rw[ahW];exact b2) hh (yx _) (by show _<=tmps.size;rw[ahW,b3];exact g10) hh.gZ (yx _) ⟨[],rfl,by simp,by simp⟩) ?_
    rintro e a1 w1 ⟨rfl,m1,S1,k1,k2,k3,k4,k5,k6,k7⟩;simp only[zH,Exit.then];have sO:m1 l=Gr p:=k5.old l p (hh.lt l p hm) hm
    split at hv
    case h_2=>cases hv
    rename_i jk A0 DF E6 sH iT;have⟨r1,kB,f1,f2,f3,f4,f5,f6,f7,f8,f9,f10,f11⟩:=Kn k2 iT sO;have Zt:=amb (P:=O.P) f1 f3;have⟨q1,q2⟩:=acx k2 iT sO f1 (st':=1) (pe':=sH) (by lia)
    have dS:({r1 with state:=Dl 1,pending:=Bx sH}:tp)={r1 with state:=.busy}:=by rw[<-f5];rfl
    rw[dS] at q1 q2;refine⟨_,Zt,?_⟩
    cases h2:self body ⟨s1.tm,aR s1.hp l (.lp jk A0 DF E6 1 sH),s1.ct,s1.ct⟩ with
    | none=>simp[h2] at hv
    | some q=>
     have⟨ex,s2⟩:=q;simp only[h2] at hv;have DO:=hS _ _ _ _ h2 r.body h cb kb g9
     have aA1:By (Gr p.b) {w1 with heap:=w1.heap.setIfInBounds p.b (.loop {r1 with state:=.busy})}:=fun l hl=>by
      grind
     have Zu:cg O m1 S1 {w1 with heap:=w1.heap.setIfInBounds p.b (.loop {r1 with state:=.busy})} s1.tm a1.tmps:=
      CF (fun _ _ h=>h) (fun _ h=>h) (fun b hb=>q2.still b hb) k1
     have aA2:(O.hint h).n<=a1.tmps.size:=by
      grind
     refine wpIn_mono (DO (Gr p.b) w.heap.size m1 S1 _ a1 aA1 Zu q1 (yx _) aA2 hh.gZ (xi k5.size q2.size) (CG k2 q2 k7)) ?_;rintro e a2 w2 ⟨rfl,m2,S2,j1,j2,j3,j4,j5,j6,j7⟩;have M9:m2 l=Gr p:=j5.old l p (k2.lt l p sO) sO
     split at hv
     case h_2=>cases hv
     rename_i qS B6 MW Lx pe2 zX;have⟨r2,Na,d1,d2,d3,d4,d5,d6,d7,d8,d9,d10,d11⟩:=Kn j2 zX M9;have aA3:cp m S w hp m2 S2 w2 s2.hp ct:=(k5.trans (q2.AH k4)).trans (j5.AH k4);have ahX:ct<=s2.ct:=xi k4 j4;have fin:∀(jump:Option vB) (st':Nat) (pe':AG),Bx pe'=jump->Dl st'=(if jump.isNone then .ready else .done)->st'<=2->
       ∃v' w',(Instr.endRound p.b jump).run O.P w2=.ok v' w'/\Bq O m S w hp ct (.bool jump.isNone) (aR s2.hp l (.lp qS B6 MW Lx st' pe')) s2.ct (.returned v') w':=by
      intro jump st' pe' e1 e2 e3;have⟨z1,z2⟩:=acx j2 zX M9 d1 (st':=st') (pe':=pe') e3;rw[e1,e2] at z1 z2;exact⟨_,_,amp d1 jump,_,m2,S2,rfl,z1,ahX,by simp[af],aA3.trans (z2.AH ahX)⟩
     cases ex with
     | normal=>
      simp only[yc,yr] at hv;obtain⟨rfl,rfl,rfl⟩:=hv;simp only[zH,roundPost];exact fin Gs 0 .none rfl rfl (by lia)
     | ret=>
      simp only[VO,yc,yr] at hv;obtain⟨rfl,rfl,rfl⟩:=hv;simp only[zH,roundPost];exact fin (Gr .ret) 2 .ret rfl rfl (by lia)
     | exit id=>
      simp only[VO,yc,yr] at hv;obtain⟨rfl,rfl,rfl⟩:=hv;simp only[zH,roundPost];exact fin (Gr (.exit id)) 2 (.exit id) rfl rfl (by lia)
end
end
end
section
open Go
section
variable {O:bC}{self:cu}
def GG{P:xA}{f:yaf}{fn:yaY}{args:Array yj}{w:yo}(hf:P.funcs[f]? =Gr fn)(hb:fn.body.isSome=ydy)(hn:fn.name≠ "runtime.NumGoroutine"):(callFunc f args).run P w=.ok (.enter f args) w:=by
 have h1:fn.body≠Gs:=fun e=>by rw[e] at hb;cases hb
 simp[callFunc,program,Sem.run,hf,h1,hn]
def TB{P:xA}{H:Hint}{fn:yaY}{F:ax}(h:GP P H fn=Gr F):∃c,fn.body=Gr c/\F.body=(comp P H c 0 0).1/\rK P fn.results.toList=Gr F.c9/\H.n<=fn.ntmps:=by
 unfold GP at h
 split at h
 .rename_i c rs h1 h2
  cases hb:yJ H.n fn.ntmps with
  | false=>rw[hb] at h;cases h
  | true=>
   rw[hb] at h;simp only[yy,yc] at h;subst h
   simp_all
 .cases h
def aqh{m:Mp}{w:yo}{a:Act}(fn:yaf)(ps:Array Tmp)(assign body:vB){h:Nat}(hh:aT O m S w hp ct)(ht:cg O m S w tm a.tmps)(cX:By ro w)(Zv:DH O.P (O.hint h) as_ assign)(Zw:DH O.P (O.hint h) b' body)(hn:(O.hint h).n<=a.tmps.size)(iy:BE (O.hint h).n ps.toList=ydy){lo:Nat}(fP:lo<=w.heap.size)(cx:Marks lo S w a.defers):
  ∃l mark w1,(Instr.enterLoop fn a.tmps ps assign body ro).run O.P w=.ok (l,mark) w1/\aT O (gi m ct ⟨l,0,0,0⟩) S w1 ((ct,.lp tm ps.toList as_ b' 0 .none)::hp) (ct+1)/\
   cp m S w hp (gi m ct ⟨l,0,0,0⟩) S w1 ((ct,.lp tm ps.toList as_ b' 0 .none)::hp) ct/\m ct=Gs/\Marks lo S w1 (mark++a.defers)/\w.heap.size<=l:=by
 have bL:m ct=Gs:=by
  cases hq:m ct with
  | none=>rfl
  | some p=>have:=hh.lt ct p hq;omega
 have lay:∀(w':yo) (d:Nat),Calm w w'->Marks lo S w' a.defers->
   aT O (gi m ct ⟨w'.heap.size,0,0,0⟩) S (w'.alloc (.loop {state:=.ready,pending:=Gs,fn:=fn,tmps:=a.tmps,params:=ps,assign:=assign,body:=body,defers:=d})) ((ct,.lp tm ps.toList as_ b' 0 .none)::hp) (ct+1)/\
   cp m S w hp (gi m ct ⟨w'.heap.size,0,0,0⟩) S (w'.alloc (.loop {state:=.ready,pending:=Gs,fn:=fn,tmps:=a.tmps,params:=ps,assign:=assign,body:=body,defers:=d})) ((ct,.lp tm ps.toList as_ b' 0 .none)::hp) ct:=by
  intro w' d hw ahY;have kB:aT O m S w' hp ct:=Er hh hw (fun _ h=>h) (fun _ h=>.inl h) (fun b hb=>yI (hh.slt b hb) hw.size);have Sv:cp m S w hp m S w' hp ct:=CI hh hw (fun _ h=>h) (fun _ h=>.inl h);have hg:jH hp ct ((ct,.lp tm ps.toList as_ b' 0 .none)::hp) (ct+1):=by
   refine⟨fun id o ho=>⟨o,?_,kh.refl o⟩,by omega,fun id o ho=>?_,fun id o ho hi=>?_⟩
   .rw [iG,yp (by have:=hh.aG id o ho;omega)];exact ho
   .rw [iG] at ho;by_cases hc:ct=id
    .omega
    .simp only [hc,xz] at ho;have:=hh.aG id o ho;omega
   .rw [iG,yp (by omega)] at ho;exact⟨o,ho⟩
  have dl:∀i q,ak ((ct,Obj.lp tm ps.toList as_ b' 0 .none)::hp) i=Gr q->i≠ct->ak hp i=Gr q:=fun i q h hi=>by
   rw[iG,yp (fun e=>hi e.symm)] at h;exact h
  have Na:aT O m S w' ((ct,.lp tm ps.toList as_ b' 0 .none)::hp) (ct+1):=by
   have bU:∀id p,m id=Gr p->id≠ct:=fun id p hm e=>by have:=hh.lt id p hm;omega
   exact⟨fun id o p ho hm=>kB.obj id o p (dl id o ho (bU id p hm)) hm,fun id p hm=>by have:=hh.lt id p hm;omega,
    fun i j oi oj pi pj hi hj bL iz e=>kB.inj i j oi oj pi pj (dl i oi hi (bU i pi bL)) (dl j oj hj (bU j pj iz)) bL iz e,kB.slt,kB.blt,kB.low,kB.nf,kB.gZ,hg.lt⟩
  have qX:gh O (gi m ct ⟨w'.heap.size,0,0,0⟩) S (w'.alloc (.loop {state:=.ready,pending:=Gs,fn:=fn,tmps:=a.tmps,params:=ps,assign:=assign,body:=body,defers:=d})) ct (.lp tm ps.toList as_ b' 0 .none):=by
   refine⟨⟨w'.heap.size,0,0,0⟩,_,h,ek,heap_alloc_new w' _,?_,rfl,by omega,rfl,?_,rfl,Zv,Zw,hn,iy⟩
   .intro hS
    have:=kB.slt _ hS
    simp at this
   .exact CF (lS bL) (fun _ h=>h) (fun b hb=>(JP kB _ b hb).trans (hw.same b (hh.slt b hb))) ht
  obtain⟨S',k1,k2,k3⟩:=ac9 (i:=ct) (p:=⟨w'.heap.size,0,0,0⟩) Na bL (by omega) rfl (fun o ho=>by
   rw[iG] at ho;simp only[xS,yc] at ho;subst ho
   exact .inl ⟨qX,by simp[kM]⟩)
  have k1':aT O (gi m ct ⟨w'.heap.size,0,0,0⟩) S (w'.alloc (.loop {state:=.ready,pending:=Gs,fn:=fn,tmps:=a.tmps,params:=ps,assign:=assign,body:=body,defers:=d})) ((ct,.lp tm ps.toList as_ b' 0 .none)::hp) (ct+1):=by
   have M3:∀id q,m id=Gr q->q.b≠w'.heap.size:=fun id q hq=>by have:=kB.blt id q hq;lia
   refine⟨?_,k1.lt,k1.inj,fun b hb=>k1.slt b (k2 b hb),k1.blt,k1.low,k1.nf,k1.gZ,k1.aG⟩;intro id o q ho hm;by_cases hc:id=ct
   .subst hc;rw[iG] at ho
    grind
   .rw [eN hc] at hm;exact Al (lS bL) (fun _ h=>h) (JP kB _) (fun q' bI=>alloc_old (kB.blt id q' bI)) (fun _ _ h=>h) (kB.obj id o q (dl id o ho hc) hm)
  refine⟨k1',Sv.trans ⟨rfl,rfl,rfl,by simp,fun b hb _=>alloc_old hb,fun _ h=>h,fun b hb=>JP kB _ b hb,fun b hb=>.inl hb,?_,fun i q _ hq=>lS bL i q hq,fun b r hb=>⟨r,(alloc_old (xC.1 hb).1).trans hb⟩⟩⟩;rintro b ⟨i,o,q,g1,g2,g3⟩;by_cases hc:i=ct
  .subst hc;rw[ek] at g2
   grind
  .rw [eN hc] at g2;exact .inl ⟨i,o,q,dl i o g1 hc,g2,g3⟩
 cases ro with
 | none=>
  have LB:Calm w (w.alloc (.deferred (Gr []))):=⟨rfl,rfl,rfl,by simp,fun b hb=>alloc_old hb⟩;have⟨rs,r1,r2,r3⟩:=cx;have aA4:Marks lo S (w.alloc (.deferred (Gr []))) a.defers:=⟨rs,r1,r2,fun r hr=>⟨(alloc_old (xC.1 (r3 r hr).1).1).trans (r3 r hr).1,(r3 r hr).2⟩⟩;have⟨k1,k2⟩:=lay (w.alloc (.deferred (Gr []))) w.heap.size LB aA4
  refine⟨(w.alloc (.deferred (Gr []))).heap.size,[{target:=.collected w.heap.size,args:=#[]}],_,?_,k1,k2,bL,?_,by simp⟩
  .simp [Instr.enterLoop,newObj,Sem.run]
  .have hold:∀(b:Nat) (x:yaB),(w.alloc (.deferred (Gr []))).heap[b]? =Gr x->((w.alloc (.deferred (Gr []))).alloc (.loop {state:=.ready,pending:=Gs,fn:=fn,tmps:=a.tmps,params:=ps,assign:=assign,body:=body,defers:=w.heap.size})).heap[b]? =Gr x:=fun b x hb=>
    (alloc_old (xC.1 hb).1).trans hb
   refine⟨w.heap.size::rs,by rw[r1];rfl,?_,?_⟩
   .grind
   .intro r hr;rcases xP.1 hr with rfl | hr
    .exact ⟨hold _ _ (heap_alloc_new w _),fun hs=>by have:=hh.slt _ hs;lia,fP⟩
    .exact ⟨hold _ _ ((alloc_old (xC.1 (r3 r hr).1).1).trans (r3 r hr).1),(r3 r hr).2⟩
 | some l0=>
  have⟨r0,iV⟩:=cX l0 rfl;have⟨k1,k2⟩:=lay w r0.defers Calm.refl cx;refine⟨w.heap.size,[],_,?_,k1,k2,bL,?_,yx _⟩
  .simp [Instr.enterLoop,JM iV,newObj,Sem.run]
  .exact CG hh k2 cx
def aza(hO:iZ O)(hC:pX O self){h:Nat}{f:xD}{ps:Array Tmp}{assign body:vB}(Zv:DH O.P (O.hint h) as_ assign)(Zw:DH O.P (O.hint h) b' body)(iy:BE (O.hint h).n ps.toList=ydy){s:St}{ex:Ex}(hv:bF O.prog O.aJ self (.rf (aP (O.hint h) f) ps.toList as_ b') s=Gr (ex,s')):Dd O h (.rangeFunc f ps assign body) s ex s':=by
 intro ro lo m S w a cX ht hh hb hn aZ fP cx;simp only[bF] at hv
 split at hv
 case h_2=>cases hv
 rename_i n first cap hx
 split at hv
 case h_1=>cases hv
 rename_i hL
 cases he:jG O.prog O.aJ self ((s.ct,.lp s.tm ps.toList as_ b' 0 .none)::s.hp) (s.ct+1) n (first++(.fn (.y s.ct) [] []::cap)) with
 | none=>simp[he] at hv
 | some q=>
  have⟨v,a6,qZ⟩:=q;simp only[he] at hv
  split at hv
  case h_2=>cases hv
  rename_i qS B6 MW Lx st pe zX
  cases aM:yt st 1 with
  | true=>rw[aM] at hv;cases hv
  | false=>
   rw[aM] at hv;simp only[yT] at hv;refine wpIn_rangeFunc (fun fn _=>?_);have⟨l,mark,w1,e1,e2,e3,e4,e5,e6⟩:=aqh (ro:=ro) fn ps assign body hh ht cX Zv Zw hn iy fP cx;have rf:=ck (hO.hint h) ht f;rw[hx] at rf;simp only[af] at rf;have⟨fi,ca,hf,r2,r3⟩:=rf;have hle:=lS e4 (p:=⟨l,0,0,0⟩);have Hx:gX S w w1:=fun b hb=>e3.still b hb
   have fj:aE O.ae (gi m s.ct ⟨l,0,0,0⟩) S w1 (first++(.fn (.y s.ct) [] []::cap)) (fi++#[Value.func (.yield l) #[] #[]]++ca).toList:=by
    have:=nK (jt hle (fun _ h=>h) Hx _ _ r2) (nK (a:=[.fn (.y s.ct) [] []]) (x:=[Value.func (.yield l) #[] #[]]) (by
     simp only[aE]
     exact⟨_,[],rfl,by simp only[af];exact⟨_,ek,rfl⟩,rfl⟩) (jt hle (fun _ h=>h) Hx _ _ r3))
    grind
   have Ws:=hC.heap _ _ _ _ _ _ _ he _ S w1 _ e2 fj;have hP:∃F,O.prog n=Gr F:=by
    unfold jG at he;rw[hL] at he
    cases hq:O.prog n with
    | none=>simp[hq] at he
    | some F=>exact⟨F,rfl⟩
   have⟨F,hF⟩:=hP;have⟨fn',q1,q2,q3⟩:=hO.prog n F hF;have⟨cb,q4,_⟩:=TB q2;have gj:(callFunc (O.ae n) (fi++#[Value.func (.yield l) #[] #[]]++ca)).run O.P w1=.ok (.enter (O.ae n) (fi++#[Value.func (.yield l) #[] #[]]++ca)) w1:=GG q1 (by rw[q4];rfl) q3
   refine⟨l,mark,w1,{target:=.fn (.func (O.ae n)) ca,args:=fi++#[Value.func (.yield l) #[] #[]]},w1,O.ae n,fi++#[Value.func (.yield l) #[] #[]]++ca,w1,e1,?_,fun _ _=>trivial,?_,fun hd=>by simp[WF,Fence.wide] at hd,?_⟩
   .show Sem.run O.P (Deferred.ofValue (a.eval f) _) w1=_
    rw[hf];simp[Deferred.ofValue,Act.eval]
   .simp only [invoke];exact gj
   .rcases Ws with ⟨_,Ws⟩ | ⟨u,w',h1,_⟩
    case inr=>rw[gj] at h1;cases h1
    have avc:CallsIn (WF ro) 0 O.P (O.ae n) (fi++#[Value.func (.yield l) #[] #[]]++ca) w1 (Bq O (gi m s.ct ⟨l,0,0,0⟩) S w1 ((s.ct,.lp s.tm ps.toList as_ b' 0 .none)::s.hp) (s.ct+1) v a6 qZ):=Ws;refine CallsIn.mono avc ?_;rintro e w3 ⟨u,m',S',rfl,k1,k2,k3,k4⟩;have jn:m' s.ct=Gr ⟨l,0,0,0⟩:=k4.old s.ct _ (yca _) ek;have⟨r,Na,d1,d2,d3,d4,d5,d6,_⟩:=Kn k1 zX jn;have sQ:(r.state==LoopState.busy)=ydz:=by
     rw[d3];rcases st with _ | _ | st
     .rfl
     .simp_all
     .have:st=0:=by lia
      subst this;rfl
    have gN:=Gw w3 l (.loop {r with state:=.exhausted});have Nb:=adj k1 s.ct;have qY:¬eH m' (cN a6 s.ct) l:=aa8 k1 zX jn
    have z1:aT O m' S' {w3 with heap:=w3.heap.setIfInBounds l (.loop {r with state:=.exhausted})} (VE.cN a6 s.ct) qZ:=abH Nb gN d2 qY (by have:=hh.gZ;lia)
    have z2:cp m' S' w3 a6 m' S' {w3 with heap:=w3.heap.setIfInBounds l (.loop {r with state:=.exhausted})} (VE.cN a6 s.ct) s.base:=by
     refine⟨rfl,rfl,rfl,by rw[gN.size];exact yx _,fun b _ hb=>gN.other b (fun e=>hb (e▸KB zX jn)),fun _ h=>h,fun b hb=>gN.other b (fun e=>d2 (e▸hb)),fun b hb=>.inl hb,fun b hb=>.inl (aeC hb),fun _ _ _ h=>h,fun b x hb=>?_⟩
     grind
    have Xq:cp m S w s.hp m' S' {w3 with heap:=w3.heap.setIfInBounds l (.loop {r with state:=.exhausted})} (VE.cN a6 s.ct) s.base:=
     ((e3.AH hb).trans (k4.AH (by lia))).trans z2
    have QM:(Instr.endLoop l).run O.P w3=.ok (Bx pe) {w3 with heap:=w3.heap.setIfInBounds l (.loop {r with state:=.exhausted})}:=by
     simp only[Instr.endLoop,Sem.run_bind,JM d1,Result.andThen_ok,sQ,yH,xz,Sem.run_pure,Om (P:=O.P) d1 (fun _ _ _=>by simp),d5]
    have ahY:Marks lo S' {w3 with heap:=w3.heap.setIfInBounds l (.loop {r with state:=.exhausted})} (mark++a.defers):=CG k1 z2 (CG e2 k4 e5)
    have Cf:cg O m' S' {w3 with heap:=w3.heap.setIfInBounds l (.loop {r with state:=.exhausted})} s.tm a.tmps:=by
     refine CF (fun id p hp=>?_) Xq.sub (fun b hb=>Xq.still b hb) ht;have h1:=hh.lt id p hp;exact k4.old id p (by lia) (hle id p hp)
    have post:∀Zx,s'={s with hp:=VE.cN a6 s.ct,ct:=qZ}->ex=Zx->fe O m S w s ex s' a.tmps.size lo (zH Zx) {a with defers:=mark++a.defers} {w3 with heap:=w3.heap.setIfInBounds l (.loop {r with state:=.exhausted})}:=by
     rintro Zx rfl rfl;exact⟨rfl,m',S',Cf,z1,rfl,by show s.base<=qZ;lia,Xq,rfl,ahY⟩
    refine⟨_,_,QM,?_⟩
    cases pe with
    | none=>
     simp only[yc,yr] at hv;exact post .normal hv.2.symm hv.1.symm
    | ret=>
     simp only[yc,yr] at hv;exact wpIn_ret (post .ret hv.2.symm hv.1.symm)
    | exit id=>
     simp only[yc,yr] at hv;exact wpIn_exit (post (.exit id) hv.2.symm hv.1.symm)
end
end
def Le(f g:cu):Prop:=∀c s r,f c s=Gr r->g c s=Gr r
section
variable {P:aF}{L:Lib}{f g:cu}
def Tn(h:Le f g)(n:Nat)(aw:List AV)(r:AV)(hr:bO P L f n aw=Gr r):bO P L g n aw=Gr r:=by
 unfold bO at hr ⊢
 cases hL:L.pure n with
 | some sp=>simpa only[hL] using hr
 | none=>
  simp only[hL] at hr ⊢
  cases hP:P n with
  | none=>simp[hP] at hr
  | some F=>
   simp only[hP] at hr ⊢
   cases hf:f F.body ⟨fa 0 aw,[],0,0⟩ with
   | none=>simp[hf] at hr
   | some q=>rw[h _ _ _ hf];simpa only[hf] using hr
def TC(h:Le f g)(hp:Hp)(ct:Nat)(n:Nat)(aw:List AV)(r:AV×Hp×Nat)(hr:jG P L f hp ct n aw=Gr r):jG P L g hp ct n aw=Gr r:=by
 unfold jG at hr ⊢
 cases hL:L.heap n with
 | some sp=>simpa only[hL] using hr
 | none=>
  simp only[hL] at hr ⊢
  cases hP:P n with
  | none=>simp[hP] at hr
  | some F=>
   simp only[hP] at hr ⊢
   cases hf:f F.body ⟨fa 0 aw,hp,ct,ct⟩ with
   | none=>simp[hf] at hr
   | some q=>rw[h _ _ _ hf];simpa only[hf] using hr
def aaZ(h:Le f g)(hp:Hp)(ct:Nat)(l:Nat)(xs:List AV)(r:AV×Hp×Nat)(hr:jT f hp ct l xs=Gr r):jT g hp ct l xs=Gr r:=by
 unfold jT at hr ⊢
 cases hl:ak hp l with
 | none=>simp[hl] at hr
 | some o=>
  simp only[hl] at hr ⊢
  split at hr
  .rename_i tm ps as_ body pe zY
   cases hb:zA tm ps xs with
   | none=>simp[hb] at hr
   | some tm'=>
    simp only[hb] at hr ⊢
    cases h1:f as_ ⟨tm',hp,ct,ct⟩ with
    | none=>simp[h1] at hr
    | some q=>
     rw[h _ _ _ h1];simp only[h1] at hr ⊢
     split at hr
     .rename_i s1 aA5
      split at hr
      .rename_i jk A0 DF E6 sH aA6
       cases h2:f body ⟨s1.tm,aR s1.hp l (.lp jk A0 DF E6 1 sH),s1.ct,s1.ct⟩ with
       | none=>simp[h2] at hr
       | some q2=>rw[h _ _ _ h2];simpa only[h2] using hr
      .simp at hr
     .simp at hr
  .simp at hr
def abf(h:Le f g)(hp:Hp)(ct:Nat)(m:Md)(fv:AV)(xs:List AV)(r:AV×Hp×Nat)(hr:fb P L f hp ct m fv xs=Gr r):fb P L g hp ct m fv xs=Gr r:=by
 unfold fb at hr ⊢
 split at hr
 .rename_i n first cap
  cases m with
  | pure=>
   cases hz:cA deep hp (first++(xs++cap)) with
   | none=>simp[hz] at hr
   | some q=>
    simp only[hz] at hr ⊢
    cases hc:bO P L f n q.1 with
    | none=>simp[hc] at hr
    | some u=>rw[Tn h n q.1 u hc];simpa only[hc] using hr
  | own=>
   cases hz:cA deep hp (first++(xs++cap)) with
   | none=>simp[hz] at hr
   | some q=>
    simp only[hz] at hr ⊢
    cases hc:bO P L f n q.1 with
    | none=>simp[hc] at hr
    | some u=>rw[Tn h n q.1 u hc];simpa only[hc] using hr
  | heap=>exact TC h _ _ _ _ _ hr
  | dyn=>
   cases hz:aH (first++(xs++cap)) with
   | true=>
    simp only[hz,yy] at hr ⊢
    cases hc:bO P L f n (first++(xs++cap)) with
    | none=>simp[hc] at hr
    | some u=>rw[Tn h n _ u hc];simpa only[hc] using hr
   | false=>
    simp only[hz,yT] at hr ⊢;exact TC h _ _ _ _ _ hr
 .split at hr
  .exact aaZ h _ _ _ _ _ hr
  .exact aaZ h _ _ _ _ _ hr
  .simp at hr
 .simp at hr
def acz(h:Le f g)(tm:Env)(hp:Hp)(ct:Nat)(o:Op)(r:AV×Hp×Nat)(hr:a7 P L f tm hp ct o=Gr r):a7 P L g tm hp ct o=Gr r:=by
 unfold a7 at hr ⊢
 split at hr
 .exact abf h _ _ _ _ _ _ hr
 .rename_i rs fv xs
  cases hc:fb P L f hp ct .dyn (aB tm fv) (dM tm xs) with
  | none=>simp[hc] at hr
  | some q=>rw[abf h _ _ _ _ _ _ hc];simpa only[hc] using hr
 all_goals simpa only using hr
def On(h:Le f g):∀(ops:List aU) (s s':St),dh P L f ops s=Gr s'->dh P L g ops s=Gr s'
 | [],s,s',hr=>by simpa only[dh] using hr
 | ⟨d,gd,o⟩::r,s,s',hr=>by
  simp only[dh] at hr ⊢
  split at hr
  .rename_i hw
   cases ho:a7 P L f s.tm s.hp s.ct o with
   | none=>simp[ho] at hr
   | some q=>rw[acz h _ _ _ _ _ ho];simp only[ho] at hr ⊢;exact On h r _ _ hr
  .rename_i hw
   (try simp only[hw]);exact On h r _ _ hr
  .simp at hr
def zg(h:Le f g):∀(c:VC) (s:St) (r:Ex×St),bF P L f c s=Gr r->bF P L g c s=Gr r
 | .skip,s,r,hr=>by simpa only[bF] using hr
 | .qR ops,s,r,hr=>by
  simp only[bF] at hr ⊢
  cases ho:dh P L f ops s with
  | none=>simp[ho] at hr
  | some s'=>rw[On h _ _ _ ho];simpa only[ho] using hr
 | .seq a b,s,r,hr=>by
  simp only[bF] at hr ⊢
  cases ha:bF P L f a s with
  | none=>simp[ha] at hr
  | some q=>
   rw[zg h a s q ha];obtain⟨ex,s1⟩:=q
   cases ex with
   | normal=>simp only[ha] at hr ⊢;exact zg h b s1 r hr
   | ret=>simpa only[ha] using hr
   | exit id=>simpa only[ha] using hr
 | .cond x a b,s,r,hr=>by
  simp only[bF] at hr ⊢
  split at hr
  .rename_i t ht
   cases t with
   | true=>simp only[yy] at hr ⊢;exact zg h a s r hr
   | false=>simp only[yT] at hr ⊢;exact zg h b s r hr
  .simp at hr
 | .iR id a,s,r,hr=>by
  simp only[bF] at hr ⊢
  cases ha:bF P L f a s with
  | none=>simp[ha] at hr
  | some q=>rw[zg h a s q ha];simpa only[ha] using hr
 | .kp live,s,r,hr=>by simpa only[bF] using hr
 | .fz ts,s,r,hr=>by simpa only[bF] using hr
 | .loop live a,s,r,hr=>by
  simp only[bF] at hr ⊢
  cases ha:bF P L f a (bB live s) with
  | none=>simp[ha] at hr
  | some q=>
   rw[zg h a _ q ha];obtain⟨ex,s1⟩:=q
   cases ex with
   | normal=>simp only[ha] at hr ⊢;exact h _ _ _ hr
   | ret=>simpa only[ha] using hr
   | exit id=>simpa only[ha] using hr
 | .rf fv ps as_ body,s,r,hr=>by
  simp only[bF] at hr ⊢
  split at hr
  .rename_i n first cap hx
   split at hr
   .grind
   .rename_i hL
    cases hc:jG P L f ((s.ct,.lp s.tm ps as_ body 0 .none)::s.hp) (s.ct+1) n (first++(.fn (.y s.ct) [] []::cap)) with
    | none=>simp[hc] at hr
    | some q=>rw[TC h _ _ _ _ _ hc];simpa only[hc] using hr
  .simp at hr
 | .exit id,s,r,hr=>by simpa only[bF] using hr
 | .ret,s,r,hr=>by simpa only[bF] using hr
end
def Ko(P:aF)(L:Lib)(c:VC)(s:St):ev P L 0 c s=Gs:=rfl
def Ps(P:aF)(L:Lib)(n:Nat):ev P L (n+1)=bF P L (ev P L n):=rfl
def agk(P:aF)(L:Lib):∀n,Le (ev P L n) (ev P L (n+1))
 | 0=>fun c s r h=>by rw[Ko] at h;cases h
 | n+1=>fun c s r h=>by
  exact zg (agk P L n) c s r h
def Vm(P:aF)(L:Lib){n m:Nat}(h:n<=m):Le (ev P L n) (ev P L m):=by
 induction h with
 | refl=>exact fun _ _ _ h=>h
 | step _ ih=>exact fun c s r hr=>agk P L _ c s r (ih c s r hr)
section
open Go
section
variable {ex:Ex}{lo n:Nat}{s:St}{w w':yo}
section
variable {O:bC}{self:cu}
def fe.none{m:Mp}{a:Act}(l:Nat):¬fe O m S w s ex s' n lo (.goto l) a w':=by
 rintro⟨h,_⟩;cases ex<;>cases h
def fe.then{m m1:Mp}{S1:Nat->Prop}{w1:yo}{s2:St}{a':Act}{e:uP}{ex1:Ex}(h1:s1.base=s.base)(hf:cp m S w s.hp m1 S1 w1 s1.hp s.base)(h:fe O m1 S1 w1 s1 ex s2 n lo e a' w'):fe O m S w s ex s2 n lo e a' w':=by
 have⟨h2,m',S',k1,k2,k3,k4,k5,k6,k7⟩:=h;rw[h1] at k3 k4 k5;exact⟨h2,m',S',k1,k2,k3,k4,hf.trans k5,k6,k7⟩
def fe.bD{m:Mp}{a':Act}{e:uP}(live:List Nat)(h:fe O m S w s ex s1 n lo e a' w'):fe O m S w s ex (bB live s1) n lo e a' w':=by
 have⟨h2,m',S',k1,k2,k3,k4,k5,k6,k7⟩:=h;have⟨m2,g1,g2,g3,g4,g5⟩:=TO (live:=live) k1 k2 (by rw[k3];exact k4)
 rw[k3] at g3 g4 g5;exact⟨h2,m2,S',g1,g2,g3,g4,k5.trans g5,k6,CG k2 g5 k7⟩
def agl{m:Mp}{w:yo}{tmps:Array yj}:∀{ts:List Nat} {s s1:St} {S:Nat->Prop},cg O m S w s.tm tmps->aT O m S w s.hp s.ct->rX ts s=Gr s1->
  ∃S1,cg O m S1 w s1.tm tmps/\aT O m S1 w s1.hp s1.ct/\s1.base=s.base/\s1.ct=s.ct/\∀base,cp m S w s.hp m S1 w s1.hp base
 | [],s,s1,S,ht,hh,h=>by
  simp only[rX,yc] at h;subst h;exact⟨S,ht,hh,rfl,rfl,fun _=>cp.refl⟩
 | t::r,s,s1,S,ht,hh,h=>by
  simp only[rX] at h
  cases hz:freeze deep s.hp (ai s.tm t) with
  | none=>simp[hz] at h
  | some q=>
   have⟨v,hp⟩:=q;simp only[hz] at h;have⟨h1,h2,h3⟩:=Uk (O:=O) hz;have hg:jH s.hp s.ct hp s.ct:=⟨h1,yx _,fun id o ho=>(by
     have:=h2 id
     rw[ho] at this
     cases hq:ak s.hp id with
     | none=>rw[hq] at this;simp at this
     | some o'=>exact hh.aG id o' hq),fun id o ho _=>(by
     have:=h2 id
     rw[ho] at this
     cases hq:ak s.hp id with
     | none=>rw[hq] at this;simp at this
     | some o'=>exact⟨o',rfl⟩)⟩
   have⟨S',k1,k2,k3,k4⟩:=OU hh hg;have Cf:cg O m S' w ((t,v)::s.tm) tmps:=by
    intro i;simp only[ai]
    cases hb:yt t i with
    | true=>
     have:=yi hb
     subst this;exact (h3 hp m S' w s.ct dd.refl k1).1 _ (nN (fun _ _ h=>h) k2 (fun _ _=>rfl) _ _ (ht t))
    | false=>
     exact nN (fun _ _ h=>h) k2 (fun _ _=>rfl) _ _ (ht i)
   have⟨S1,g1,g2,g3,g4,g5⟩:=agl (s:={s with tm:=(t,v)::s.tm,hp:=hp}) Cf k1 h;exact⟨S1,g1,g2,g3,g4,fun base=>(k4 base).trans (g5 base)⟩
def aeI(hO:iZ O)(n:Nat)(hC:∀k,k<=n->pX O (ev O.prog O.aJ k))(h:Nat):∀(c:vB) (l k:Nat) (j:Nat),j<=n->∀(s:St) (ex:Ex) (s':St),
  bF O.prog O.aJ (ev O.prog O.aJ j) (comp O.P (O.hint h) c l k).1 s=Gr (ex,s')->Dd O h c s ex s':=by
 have refl:∀{s:St} {ex:Ex} {m:Mp} {S:Nat->Prop} {w:yo} {a:Act} {lo:Nat},cg O m S w s.tm a.tmps->aT O m S w s.hp s.ct->s.base<=s.ct->Marks lo S w a.defers->fe O m S w s ex s a.tmps.size lo (zH ex) a w:=
  fun h1 h2 h3 h4=>⟨rfl,_,_,h1,h2,rfl,h3,cp.refl,rfl,h4⟩
 have Xr:∀{self:cu} {s:St} {r:Ex×St},bF O.prog O.aJ self (.qR [⟨Gs,Gs,bad⟩]) s=Gr r->False:=by
  intro self s r hv;simp[bF,dh,bad,a7,fb,aB] at hv
 intro c
 induction c with
 | skip=>
  intro l k j hj s ex s' hv ro lo m S w a cX ht hh hb hn aZ fP cx;simp only[comp,bF,yc,yr] at hv;obtain⟨rfl,rfl⟩:=hv;exact wpIn_skip (refl ht hh hb cx)
 | label x=>
  intro l k j hj s ex s' hv ro lo m S w a cX ht hh hb hn aZ fP cx;simp only[comp,bF,yc,yr] at hv;obtain⟨rfl,rfl⟩:=hv;exact wpIn_label (refl ht hh hb cx)
 | exit id=>
  intro l k j hj s ex s' hv ro lo m S w a cX ht hh hb hn aZ fP cx;simp only[comp,bF,yc,yr] at hv;obtain⟨rfl,rfl⟩:=hv
  exact wpIn_exit (refl (ex:=.exit id) ht hh hb cx)
 | ret=>
  intro l k j hj s ex s' hv ro lo m S w a cX ht hh hb hn aZ fP cx;simp only[comp,bF,yc,yr] at hv;obtain⟨rfl,rfl⟩:=hv
  exact wpIn_ret (refl (ex:=.ret) ht hh hb cx)
 | goto x=>intro l k j hj s ex s' hv;exact (Xr (by simpa only[comp] using hv)).elim
 | refuse x=>intro l k j hj s ex s' hv;exact (Xr (by simpa only[comp] using hv)).elim
 | region id ops d=>
  intro l k j hj s ex s' hv;simp only[comp] at hv;generalize hq:Ph O.P (O.hint h) ops d k=q at hv;have⟨r,k'⟩:=q;have main:∀{s s':St} {ex:Ex},bF O.prog O.aJ (ev O.prog O.aJ j) (.qR r) s=Gr (ex,s')->Dd O h (.region id ops d) s ex s':=by
   intro s s' ex hv;simp only[bF] at hv
   cases ho:dh O.prog O.aJ (ev O.prog O.aJ j) r s with
   | none=>simp[ho] at hv
   | some s1=>
    simp only[ho,yc,yr] at hv;obtain⟨rfl,rfl⟩:=hv;exact avb hO (hC j hj) h id ops d k (by rw[hq];exact ho)
  simp only at hv
  split at hv
  .exact main hv
  .rename_i t ts _;simp only[bF] at hv
   cases hf:rX (t::ts) s with
   | none=>simp[hf] at hv
   | some s1=>
    simp only[hf] at hv;intro ro lo m S w a cX ht hh hb hn aZ fP cx;have⟨S1,g1,g2,g3,g4,g5⟩:=agl ht hh hf;have h1:=main (s:=s1) (by simpa only[bF] using hv) ro lo m S1 w a cX g1 g2 (by rw[g3,g4];exact hb) hn aZ fP (CG hh (g5 s.base) cx)
    refine wpIn_mono h1 (fun e a' w' hp=>?_)
    exact fe.then (ex1:=.normal) g3 (g5 s.base) hp
 | seq x y ihx ihy=>
  intro l k j hj s ex s' hv ro lo m S w a cX ht hh hb hn aZ fP cx;simp only[comp] at hv;generalize A8:comp O.P (O.hint h) x l k=qx at hv;have⟨x',l1,k1⟩:=qx;simp only at hv;generalize Nc:comp O.P (O.hint h) y l1 k1=qy at hv;have⟨y',l2,k2⟩:=qy;simp only[bF] at hv
  cases hx:bF O.prog O.aJ (ev O.prog O.aJ j) x' s with
  | none=>simp[hx] at hv
  | some r=>
   have⟨ex1,s1⟩:=r;have h1:=ihx l k j hj s ex1 s1 (by rw[A8];exact hx) ro lo m S w a cX ht hh hb hn aZ fP cx
   refine wpIn_seq (wpIn_mono h1 ?_);rintro e a1 w1 ⟨rfl,m1,S1,g1,g2,g3,g4,g5,g6,g7⟩;have stop:ex1≠.normal->ex=ex1/\s'=s1:=by
    intro bU;rw[hx] at hv
    cases ex1 with
    | normal=>exact absurd rfl bU
    | ret=>simp only[yc,yr] at hv;exact⟨hv.1.symm,hv.2.symm⟩
    | exit id=>simp only[yc,yr] at hv;exact⟨hv.1.symm,hv.2.symm⟩
   cases ex1 with
   | normal=>
    simp only[hx] at hv;simp only[zH,Exit.then];have h2:=ihy l1 k1 j hj s1 ex s' (by rw[Nc];exact hv) ro lo m1 S1 w1 a1 (OG g5 cX) g1 g2 (by rw[g3];exact g4) (by rw[g6];exact hn) aZ (xi fP g5.size) g7
    rw[g6] at h2
    exact wpIn_mono h2 (fun e a' w' hp=>fe.then (ex1:=.normal) g3 g5 hp)
   | ret=>
    obtain⟨rfl,rfl⟩:=stop (by simp);exact⟨rfl,m1,S1,g1,g2,g3,g4,g5,g6,g7⟩
   | exit id=>
    obtain⟨rfl,rfl⟩:=stop (by simp);exact⟨rfl,m1,S1,g1,g2,g3,g4,g5,g6,g7⟩
 | cond x p q ihp ihq=>
  intro l k j hj s ex s' hv ro lo m S w a cX ht hh hb hn aZ fP cx;simp only[comp] at hv;generalize A8:comp O.P (O.hint h) p (l+1) k=qx at hv;have⟨p',l1,k1⟩:=qx;simp only at hv;generalize Nc:comp O.P (O.hint h) q l1 k1=qy at hv;have⟨q',l2,k2⟩:=qy;simp only at hv;have main:∀(ex:Ex) (s':St),bF O.prog O.aJ (ev O.prog O.aJ j) (.cond (aP (O.hint h) x) p' q') s=Gr (ex,s')->(Code.cond x p q).wpIn (WF ro) 0 O.P (fe O m S w s ex s' a.tmps.size lo) a w:=by
   intro ex s' hv;simp only[bF] at hv;have rx:=ck (hO.hint h) ht x
   split at hv
   .rename_i t hx;rw[hx] at rx;simp only[af] at rx
    cases t with
    | true=>
     simp only[yy] at hv;exact wpIn_cond_true rx (ihp (l+1) k j hj s ex s' (by rw[A8];exact hv) ro lo m S w a cX ht hh hb hn aZ fP cx)
    | false=>
     simp only[yT] at hv;exact wpIn_cond_false rx (ihq l1 k1 j hj s ex s' (by rw[Nc];exact hv) ro lo m S w a cX ht hh hb hn aZ fP cx)
   .cases hv
  cases ahZ:(O.hint h).out l with
  | none=>rw[ahZ] at hv;exact main ex s' hv
  | some live=>
   rw[ahZ] at hv;simp only at hv;rw[show bF O.prog O.aJ (ev O.prog O.aJ j) (.seq (.cond (aP (O.hint h) x) p' q') (.kp live)) s=match bF O.prog O.aJ (ev O.prog O.aJ j) (.cond (aP (O.hint h) x) p' q') s with | some (.normal,s1)=>Gr (.normal,bB live s1) | r=>r from rfl] at hv
   cases hx:bF O.prog O.aJ (ev O.prog O.aJ j) (.cond (aP (O.hint h) x) p' q') s with
   | none=>simp[hx] at hv
   | some r=>
    have⟨ex1,s1⟩:=r;have h1:=main ex1 s1 hx;rw[hx] at hv
    cases ex1 with
    | normal=>
     simp only[yc,yr] at hv;obtain⟨rfl,rfl⟩:=hv;exact wpIn_mono h1 (fun e a' w' hp=>fe.bD live hp)
    | ret=>simp only[yc,yr] at hv;obtain⟨rfl,rfl⟩:=hv;exact h1
    | exit id=>simp only[yc,yr] at hv;obtain⟨rfl,rfl⟩:=hv;exact h1
 | block id x ih=>
  intro l k j hj s ex s' hv ro lo m S w a cX ht hh hb hn aZ fP cx;simp only[comp] at hv;generalize A8:comp O.P (O.hint h) x l k=qx at hv;have⟨x',r⟩:=qx;simp only at hv;have main:∀(ex:Ex) (s':St),bF O.prog O.aJ (ev O.prog O.aJ j) (.iR id x') s=Gr (ex,s')->(Code.block id x).wpIn (WF ro) 0 O.P (fe O m S w s ex s' a.tmps.size lo) a w:=by
   intro ex s' hv;simp only[bF] at hv
   cases hx:bF O.prog O.aJ (ev O.prog O.aJ j) x' s with
   | none=>simp[hx] at hv
   | some q=>
    have⟨ex1,s1⟩:=q;have h1:=ih l k j hj s ex1 s1 (by rw[A8];exact hx) ro lo m S w a cX ht hh hb hn aZ fP cx
    refine wpIn_block (wpIn_mono h1 ?_);rintro e a1 w1 ⟨rfl,g⟩
    cases ex1 with
    | normal=>
     simp only[hx,yc,yr] at hv;obtain⟨rfl,rfl⟩:=hv;exact⟨rfl,g⟩
    | ret=>
     simp only[hx,yc,yr] at hv;obtain⟨rfl,rfl⟩:=hv;exact⟨rfl,g⟩
    | exit i=>
     simp only[hx] at hv
     cases Sy:yt i id with
     | true=>
      rw[Sy] at hv;simp only[yy,yc,yr] at hv;obtain⟨rfl,rfl⟩:=hv
      have:=yi Sy
      subst this;simp only[zH,Exit.inBlock,xS];exact⟨rfl,g⟩
     | false=>
      rw[Sy] at hv;simp only[yT,yc,yr] at hv;obtain⟨rfl,rfl⟩:=hv;have bU:i≠id:=fun e=>by subst e;simp at Sy
      simp only[zH,Exit.inBlock,bU,xz];exact⟨rfl,g⟩
  have azb:∀live:List Nat,bF O.prog O.aJ (ev O.prog O.aJ j) (.seq (.iR id x') (.kp live)) s=Gr (ex,s')->(Code.block id x).wpIn (WF ro) 0 O.P (fe O m S w s ex s' a.tmps.size lo) a w:=by
   intro live hv;rw[show bF O.prog O.aJ (ev O.prog O.aJ j) (.seq (.iR id x') (.kp live)) s=match bF O.prog O.aJ (ev O.prog O.aJ j) (.iR id x') s with | some (.normal,s1)=>Gr (.normal,bB live s1) | r=>r from rfl] at hv
   cases hx:bF O.prog O.aJ (ev O.prog O.aJ j) (.iR id x') s with
   | none=>simp[hx] at hv
   | some r=>
    have⟨ex1,s1⟩:=r;have h1:=main ex1 s1 hx;rw[hx] at hv
    cases ex1 with
    | normal=>
     simp only[yc,yr] at hv;obtain⟨rfl,rfl⟩:=hv;exact wpIn_mono h1 (fun e a' w' hp=>fe.bD live hp)
    | ret=>simp only[yc,yr] at hv;obtain⟨rfl,rfl⟩:=hv;exact h1
    | exit id=>simp only[yc,yr] at hv;obtain⟨rfl,rfl⟩:=hv;exact h1
  split at hv
  .exact azb _ hv
  .exact main ex s' hv
 | loop x ih=>
  intro l k j hj s ex s' hv;simp only[comp] at hv;generalize A8:comp O.P (O.hint h) x (l+1) k=qx at hv;have⟨x',r⟩:=qx;simp only at hv;have rounds:∀(j:Nat),j<=n->∀(s:St) (ex:Ex) (s':St),bF O.prog O.aJ (ev O.prog O.aJ j) (.loop ((O.hint h).live l) x') s=Gr (ex,s')->∃K,∀(ro:Option Nat) (lo:Nat) (m:Mp) (S:Nat->Prop) (w:yo) (a:Act),By ro w->cg O m S w s.tm a.tmps->aT O m S w s.hp s.ct->s.base<=s.ct->(O.hint h).n<=a.tmps.size->O.w0.heap.size<=lo->lo<=w.heap.size->Marks lo S w a.defers->
    Code.roundsIn (WF ro) 0 O.P x (fe O m S w s ex s' a.tmps.size lo) K a w:=by
   intro j
   induction j with
   | zero=>
    intro hj s ex s' hv;simp only[bF] at hv
    cases hx:bF O.prog O.aJ (ev O.prog O.aJ 0) x' (bB ((O.hint h).live l) s) with
    | none=>simp[hx] at hv
    | some q=>
     have⟨ex1,s1⟩:=q;have stop:ex1≠.normal->ex=ex1/\s'=s1:=by
      intro bU;rw[hx] at hv
      cases ex1 with
      | normal=>exact absurd rfl bU
      | ret=>simp only[yc,yr] at hv;exact⟨hv.1.symm,hv.2.symm⟩
      | exit id=>simp only[yc,yr] at hv;exact⟨hv.1.symm,hv.2.symm⟩
     refine⟨1,fun ro lo m S w a cX ht hh hb hn aZ fP cx=>?_⟩;rw[roundsIn_succ];have⟨m1,c1,c2,c3,c4,c5⟩:=TO (live:=(O.hint h).live l) ht hh hb;have h1:=ih (l+1) k 0 hj _ ex1 s1 (by rw[A8];exact hx) ro lo m1 S w a cX c1 c2 (by rw[c3];exact c4) hn aZ fP cx
     refine wpIn_mono h1 ?_;rintro e a1 w1 hp;have ap:=fe.then (O:=O) (m:=m) (S:=S) (w:=w) (s:=s) (ex1:=.normal) c3 c5 hp;obtain⟨rfl,_⟩:=hp
     cases ex1 with
     | normal=>simp only[hx,Ko] at hv;cases hv
     | ret=>obtain⟨rfl,rfl⟩:=stop (by simp);exact ap
     | exit id=>obtain⟨rfl,rfl⟩:=stop (by simp);exact ap
   | succ j ihj=>
    intro hj s ex s' hv;simp only[bF] at hv
    cases hx:bF O.prog O.aJ (ev O.prog O.aJ (j+1)) x' (bB ((O.hint h).live l) s) with
    | none=>simp[hx] at hv
    | some q=>
     have⟨ex1,s1⟩:=q;have stop:ex1≠.normal->ex=ex1/\s'=s1:=by
      intro bU;rw[hx] at hv
      cases ex1 with
      | normal=>exact absurd rfl bU
      | ret=>simp only[yc,yr] at hv;exact⟨hv.1.symm,hv.2.symm⟩
      | exit id=>simp only[yc,yr] at hv;exact⟨hv.1.symm,hv.2.symm⟩
     have more:∃K,ex1=.normal->∀(ro:Option Nat) (lo:Nat) (m:Mp) (S:Nat->Prop) (w:yo) (a:Act),By ro w->cg O m S w s1.tm a.tmps->aT O m S w s1.hp s1.ct->s1.base<=s1.ct->(O.hint h).n<=a.tmps.size->O.w0.heap.size<=lo->lo<=w.heap.size->Marks lo S w a.defers->
       Code.roundsIn (WF ro) 0 O.P x (fe O m S w s1 ex s' a.tmps.size lo) K a w:=by
      cases ex1 with
      | normal=>
       rw[hx] at hv;have cl:ev O.prog O.aJ (j+1) (.loop ((O.hint h).live l) x') s1=Gr (ex,s'):=hv;rw[Ps] at cl;have⟨K,hK⟩:=ihj (by lia) s1 ex s' cl;exact⟨K,fun _=>hK⟩
      | ret=>exact⟨0,fun h=>by cases h⟩
      | exit id=>exact⟨0,fun h=>by cases h⟩
     have⟨K,hK⟩:=more;refine⟨K+1,fun ro lo m S w a cX ht hh hb hn aZ fP cx=>?_⟩;rw[roundsIn_succ];have⟨m1,c1,c2,c3,c4,c5⟩:=TO (live:=(O.hint h).live l) ht hh hb;have h1:=ih (l+1) k (j+1) hj _ ex1 s1 (by rw[A8];exact hx) ro lo m1 S w a cX c1 c2 (by rw[c3];exact c4) hn aZ fP cx
     refine wpIn_mono h1 ?_;rintro e a1 w1 hp;have ap:=fe.then (O:=O) (m:=m) (S:=S) (w:=w) (s:=s) (ex1:=.normal) c3 c5 hp;obtain⟨rfl,_⟩:=hp
     cases ex1 with
     | normal=>
      simp only[zH,Exit.then];have⟨_,m2,S2,g1,g2,g3,g4,g5,g6,g7⟩:=ap;have h2:=hK rfl ro lo m2 S2 w1 a1 (OG g5 cX) g1 g2 (by rw[g3];exact g4) (by rw[g6];exact hn) aZ (xi fP g5.size) g7
      rw[g6] at h2;revert h2;generalize hA:a.tmps.size=sz;intro h2;have step:∀(K:Nat) (a':Act) (w':yo),Code.roundsIn (WF ro) 0 O.P x (fe O m2 S2 w1 s1 ex s' sz lo) K a' w'->Code.roundsIn (WF ro) 0 O.P x (fe O m S w s ex s' sz lo) K a' w':=by
       intro K
       induction K with
       | zero=>intro a' w' DQ;exact DQ
       | succ K ihK=>
        intro a' w' DQ;rw[roundsIn_succ] at DQ ⊢;refine wpIn_mono DQ (fun e a'' So hq=>?_)
        cases e with
        | normal=>exact ihK a'' So hq
        | exit id=>exact fe.then (ex1:=.normal) g3 g5 hq
        | goto x=>exact fe.then (ex1:=.normal) g3 g5 hq
        | ret=>exact fe.then (ex1:=.normal) g3 g5 hq
        | panic x=>exact fe.then (ex1:=.normal) g3 g5 hq
        | outgrown=>exact fe.then (ex1:=.normal) g3 g5 hq
      exact step K a1 w1 h2
     | ret=>obtain⟨rfl,rfl⟩:=stop (by simp);exact ap
     | exit id=>obtain⟨rfl,rfl⟩:=stop (by simp);exact ap
  have⟨K,hK⟩:=rounds j hj s ex s' hv;intro ro lo m S w a cX ht hh hb hn aZ fP cx;exact wpIn_loop_rounds K (hK ro lo m S w a cX ht hh hb hn aZ fP cx)
 | scope x ih=>
  intro l k j hj s ex s' hv ro lo m S w a cX ht hh hb hn aZ fP cx;simp only[comp] at hv;exact ank (ih l k j hj s ex s' hv ro lo m S w a cX ht hh hb hn aZ fP cx) (fun l a w=>fe.none l)
 | rangeFunc f ps as_ body iha ihb=>
  intro l k j hj s ex s' hv;simp only[comp] at hv;generalize A8:comp O.P (O.hint h) as_ l k=qx at hv;have⟨x',l1,k1⟩:=qx;simp only at hv;generalize Nc:comp O.P (O.hint h) body l1 k1=qy at hv;have⟨y',l2,k2⟩:=qy;simp only at hv
  cases ha:BE (O.hint h).n ps.toList with
  | false=>rw[ha] at hv;exact (Xr hv).elim
  | true=>
   rw[ha] at hv;exact aza hO (hC j hj) ⟨l,k,by rw[A8]⟩ ⟨l1,k1,by rw[Nc]⟩ ha hv
end
end
end
section
open Go
section
variable {v:AV}{args:Array yj}{aw:List AV}{n:Nat}{s:St}
section
variable {O:bC}{m:Mp}{S:Nat->Prop}{w:yo}
def acA:∀(aw:List AV) (j i:Nat),ai (fa j aw) (j+i)=aw.getD i .undef
 | [],j,i=>by simp[fa,ai]
 | v::r,j,i=>by
  cases i with
  | zero=>simp[fa,ai]
  | succ i=>
   simp only[fa,ai];have hb:yt j (j+(i+1))=ydz:=by
    cases hq:yt j (j+(i+1)) with
    | false=>rfl
    | true=>have:=yi hq;lia
   rw[hb,show j+(i+1)=j+1+i by lia];rw[acA r (j+1) i]
   simp
def acB(n:Nat)(h:aE O.ae m S w aw args.toList):cg O m S w (fa 0 aw) (args++uQ n undef):=by
 intro i
 have:=acA aw 0 i
 rw[ye] at this;rw[this,y9]
 cases hv:aw[i]? with
 | none=>simp only[Option.getD_none,af]
 | some v=>
  have⟨u,h1,h2⟩:=UI h hv;have hl:i<args.size:=by
   grind
  have:(args++uQ n undef).getD i undef=u:=by
   rw[wv,Array.getElem?_append_left hl]
   grind
  grind
def Hy(tmps:Array yj):ydd->Sem yj
 | .tmp t=>pure (tmps.getD t undef)
 | .cell a t=>do loadVar t (<-asAddr (tmps.getD a undef))
def anl(fn:yaY)(tmps:Array yj):results fn tmps=(do let vs <-fn.results.mapM (Hy tmps);pure (if h:vs.size=1 then vs[0] else .tuple vs)):=by
 rfl
def TQ{s:St}{ct:Nat}{tmps:Array yj}(hh:aT O m S w s.hp ct)(ht:cg O m S w s.tm tmps):∀{rs:List ydd} {rv:List RV} {vs:List AV},rK O.P rs=Gr rv->mU s rv=Gr vs->
  ∃us,(rs.mapM (Hy tmps)).run O.P w=.ok us w/\aE O.ae m S w vs us
 | [],rv,vs,h1,h2=>by
  simp only[rK,yc] at h1;subst h1;simp only[mU,yc] at h2;subst h2;exact⟨[],by simp,by simp[aE]⟩
 | .tmp t::rs,rv,vs,h1,h2=>by
  simp only[rK] at h1
  cases hc:rK O.P rs with
  | none=>simp[hc] at h1
  | some l=>
   simp only[hc,yc] at h1;subst h1;simp only[mU,results1] at h2
   cases hl:mU s l with
   | none=>simp[hl] at h2
   | some MV=>
    simp only[hl,yc] at h2;subst h2;have⟨us,g1,g2⟩:=TQ hh ht hc hl;refine⟨tmps.getD t undef::us,?_,by simp only[aE];exact⟨_,_,rfl,ht t,g2⟩⟩
    rw[ta];simp only[Hy,Sem.run_bind,Sem.run_pure,Result.andThen_ok];rw[g1];rfl
 | .cell a t::rs,rv,vs,h1,h2=>by
  simp only[rK] at h1
  cases hz:cC O.P t with
  | none=>simp[hz] at h1
  | some sz=>
   cases A3:dE O.P t with
   | none=>simp[hz,A3] at h1
   | some ag=>
    cases hc:rK O.P rs with
    | none=>simp[hz,A3,hc] at h1
    | some l=>
     simp only[hz,A3,hc,yc] at h1;subst h1;simp only[mU] at h2
     cases dS:results1 s (.cell a sz ag) with
     | none=>simp[dS] at h2
     | some v=>
      cases hl:mU s l with
      | none=>simp[dS,hl] at h2
      | some MV=>
       simp only[dS,hl,yc] at h2;subst h2;have⟨us,g1,g2⟩:=TQ hh ht hc hl;have ra:=ht a;have key:∃b o u,tmps.getD a undef=.pointer (Gr ⟨b,o,Gs⟩)/\(loadVar t ⟨b,o,Gs⟩).run O.P w=.ok u w/\af O.ae m S w v u:=by
        simp only[results1] at dS;cases hta:ai s.tm a<;>rw[hta] at dS ra<;>simp only[reduceCtorEq] at dS
        .rename_i id o;simp only[af] at ra;have⟨p,hm,hp⟩:=ra
         cases hg:ak s.hp id with
         | none=>simp[hg] at dS
         | some ob=>
          cases ob<;>simp only[hg,reduceCtorEq] at dS
          have Zy:=UH (o:=0) (n:=0) hh hg hm;have⟨u,q1,q2⟩:=Pk hz A3 (Ak o _ p.b p.o Zy) dS;exact⟨p.b,p.o+o,u,hp,q1,q2⟩
        .rename_i cs;simp only[af] at ra;have⟨b,o,hp,_,_,Zy⟩:=ra;have⟨u,q1,q2⟩:=Pk hz A3 Zy dS;exact⟨b,o,u,hp,q1,q2⟩
       have⟨b,o,u,q1,q2,q3⟩:=key;refine⟨u::us,?_,by simp only[aE];exact⟨_,_,rfl,q3,g2⟩⟩
       rw[ta]
       have:(Hy tmps (.cell a t)).run O.P w=.ok u w:=by
        simp only[Hy];rw[q1];simp[asAddr,q2]
       rw[Sem.run_bind,this,Result.andThen_ok,Sem.run_bind,g1];rfl
def amI{tmps:Array yj}{fn:yaY}{rv:List RV}(hh:aT O m S w s.hp ct)(ht:cg O m S w s.tm tmps)(h1:rK O.P fn.results.toList=Gr rv)(h2:jD s rv=Gr v):
  ∃u,(results fn tmps).run O.P w=.ok u w/\af O.ae m S w v u:=by
 unfold jD at h2
 cases hl:mU s rv with
 | none=>simp[hl] at h2
 | some vs=>
  have⟨us,g1,g2⟩:=TQ hh ht h1 hl;have hlen:=jE _ _ g2;have hm:(fn.results.mapM (Hy tmps)).run O.P w=.ok us.toArray w:=by
   rw[Array.mapM_eq_mapM_toList];simp[g1]
  have eW:(results fn tmps).run O.P w=.ok (if h:us.toArray.size=1 then us.toArray[0] else .tuple us.toArray) w:=by
   rw[anl,Sem.run_bind,hm];rfl
  rw[hl] at h2
  split at h2
  .rename_i v' zY;simp only[yc] at zY h2;subst zY;simp only[aE] at g2
   grind
  .rename_i eK bU zY;simp only[yc] at zY h2;subst zY;subst h2;have h1:¬us.toArray.size=1:=by
    intro h
    have:vs.length=1:=by simp_all
    cases vs with
    | nil=>simp at this
    | cons x t=>
     cases t with
     | nil=>exact bU x rfl
     | cons y t=>simp at this
   simp only[af]
   grind
  .grind
def Up{s:St}{tmps:Array yj}{fn:yaY}{rv:List RV}{v:AV}{m0:Mp}{S0:Nat->Prop}{w0:yo}{hp0:Hp}{Sz:Nat}(h1:rK O.P fn.results.toList=Gr rv)(h2:jD s rv=Gr v)(iS:Sz<=s.ct):∀(rs:List Nat) (w:yo),
  rs.Nodup->(∀r,r∈rs->w.heap[r]? =Gr (.deferred (Gr []))/\¬S r/\w0.heap.size<=r)->O.w0.heap.size<=w0.heap.size->aT O m S w s.hp s.ct->cg O m S w s.tm tmps->cp m0 S0 w0 hp0 m S w s.hp Sz->
  ydf Fence.wide 0 O.P fn tmps (Bq O m0 S0 w0 hp0 Sz v s.hp s.ct) (rs.map (fun r=>{target:=.collected r,args:=#[]})) .returning w
 | [],w,_,_,_,hh,ht,hf=>by
  have⟨u,g1,g2⟩:=amI hh ht h1 h2;exact⟨u,g1,u,m,S,rfl,hh,iS,g2,hf⟩
 | r::rs,w,kV,hr,aZ,hh,ht,hf=>by
  have⟨kU,dJ⟩:=List.nodup_cons.1 kV;have⟨a1,a2,a3⟩:=hr r xO;have gN:=Gw w r (.deferred Gs);have qY:¬eH m s.hp r:=fun ho=>adn hh ho _ a1
  have DQ:=abH hh gN a2 qY (xi aZ a3)
  have aM:gX S w {w with heap:=w.heap.setIfInBounds r (.deferred Gs)}:=fun b hb=>gN.other b (fun e=>a2 (e▸hb))
  have oB:cp m0 S0 w0 hp0 m S {w with heap:=w.heap.setIfInBounds r (.deferred Gs)} s.hp Sz:=by
   refine⟨hf.os,hf.tape,hf.output,by rw[gN.size];exact hf.size,fun b hb ho=>(gN.other b (by lia)).trans (hf.same b hb ho),hf.sub,fun b hb=>(gN.other b (fun e=>a2 (e▸hf.sub b hb))).trans (hf.still b hb),hf.new,hf.own,hf.old,fun b x hb=>?_⟩
   have⟨x',hx⟩:=hf.loops b x hb;exact⟨x',(gN.other b (fun e=>by subst e;rw[a1] at hx;cases hx)).trans hx⟩
  refine⟨by simp,.inl ⟨r,_,rfl,?_,Up h1 h2 iS rs _ dJ (fun r' bQ=>?_) aZ DQ (CF (fun _ _ h=>h) (fun _ h=>h) aM ht) oB⟩⟩
  .simp only [Instr.takeDeferred,Sem.run_bind,abI (P:=O.P) a1 (fun _ _ _=>by simp),Result.andThen_ok,Om (P:=O.P) a1 (fun _ _ _=>by simp),Sem.run_pure]
  .have ⟨b1,b2,b3⟩:=hr r' (xy _ bQ);exact⟨(gN.other r' (fun e=>kU (e▸bQ))).trans b1,b2,b3⟩
end
section
variable {O:bC}{self:cu}
def azc(hO:iZ O)(hS:∀v s ex s',self v s=Gr (ex,s')->∀c h l k,(comp O.P (O.hint h) c l k).1=v->Dd O h c s ex s'){F:ax}(hF:O.prog n=Gr F){ex:Ex}(hv:self F.body ⟨fa 0 aw,hp,ct,ct⟩=Gr (ex,s))(hex:ex=.normal\/ex=.ret)(hr:jD s F.c9=Gr v):Dc O n hp ct aw v s.hp s.ct:=by
 intro m S w args hh fj;have⟨fn,q1,q2,q3⟩:=hO.prog n F hF;have⟨c,q4,q5,q6,q7⟩:=TB q2;refine .inl ⟨GG q1 (by rw[q4];rfl) q3,?_⟩
 have hc:=hS _ _ _ _ hv c n 0 0 q5.symm;have hw:=hc Gs w.heap.size m S w {tmps:=args++uQ (fn.ntmps-args.size) undef,defers:=[]} (fun l hl=>by cases hl) (acB _ fj) hh (yx _) (by simp;lia) hh.gZ (yx _) ⟨[],rfl,by simp,by simp⟩
 refine callsIn_of_wp_marks (F:=Fence.wide) q1 q4 trivial (wpIn_mono hw ?_);rintro e a' w' ⟨rfl,m',S',k1,k2,k3,k4,k5,k6,rs,k7,k8,k9⟩;have main:ydf Fence.wide 0 O.P fn a'.tmps (Bq O m S w hp ct v s.hp s.ct) a'.defers .returning w':=by
  rw[k7];exact Up q6 hr k4 rs w' k8 k9 hh.gZ k2 k1 k5
 rcases hex with rfl | rfl
 .exact main
 .exact main
def CQ.mono{P:xA}{f:yaf}{w:yo}{R R':ybo->yo->Prop}(h:CQ P f args w R)(hr:∀e w',R e w'->R' e w'):CQ P f args w R':=by
 rcases h with ⟨h1,h2⟩ | ⟨u,w',h1,h2⟩
 .exact .inl ⟨h1,CallsIn.mono h2 hr⟩
 .exact .inr ⟨u,w',h1,hr _ _ h2⟩
def aom{w:yo}(hg:Db O w)(hs:∀b,S b->b<w.heap.size):aT O fA S w [] 0:=
 ⟨(fun id o p h _=>by simp[ak] at h),(fun id p h=>by cases h),(fun i j oi oj pi pj h=>by simp[ak] at h),hs,(fun id p h=>by cases h),(fun id p h=>by cases h),hg.1,hg.2,(fun id o h=>by simp[ak] at h)⟩
def UR{b:Nat}(h:eH fA [] b):False:=by
 have⟨_,_,_,h,_⟩:=h;simp[ak] at h
def Tu{r:AV}(h:Dc O n [] 0 aw v s.hp s.ct)(hr:result s.hp v=Gr r):eJ O n aw r:=by
 intro w S args hg hs fj hp;refine CQ.mono (h fA S w args (aom hg hs) fj) ?_;rintro e w' ⟨u,m',S',rfl,k1,k2,k3,k4⟩;have aZ:∀b,eH m' s.hp b->w.heap.size<=b:=fun b hb=>(k4.own b hb).elim (fun h=>(UR h).elim) (fun h=>h)
 have⟨S2,g1,g2,g3,g4⟩:=aoc (lo:=w.heap.size) k1 hr k3 aZ;refine⟨u,S2,rfl,⟨k4.os,k4.tape,k4.output,k4.size,fun b hb=>k4.same b hb UR⟩,fun b hb=>g1 b (k4.sub b hb),fun b hb=>?_,g3,g4⟩;rcases g2 b hb with h | h
 .rcases k4.new b h with h | h | h
  .exact .inl h
  .exact (UR h).elim
  .exact .inr h
 .exact .inr (aZ b h)
def anm(hO:iZ O)(hS:∀v s ex s',self v s=Gr (ex,s')->∀c h l k,(comp O.P (O.hint h) c l k).1=v->Dd O h c s ex s'):pX O self:=by
 have heap:∀(n:Nat) (F:ax),O.prog n=Gr F->∀(hp:Hp) (ct:Nat) (aw:List AV) (ex:Ex) (s:St) (v:AV),self F.body ⟨fa 0 aw,hp,ct,ct⟩=Gr (ex,s)->(ex=.normal\/ex=.ret)->jD s F.c9=Gr v->Dc O n hp ct aw v s.hp s.ct:=
  fun n F hF hp ct aw ex s v h1 h2 h3=>azc hO hS hF h1 h2 h3
 refine⟨?_,?_,fun hp ct l xs v ap aO hv=>aqg hS hv⟩
 .intro n aw r hv;unfold bO at hv
  cases hL:O.aJ.pure n with
  | some sp=>rw[hL] at hv;exact hO.aJ n sp aw r hL hv
  | none=>
   simp only[hL] at hv
   cases hF:O.prog n with
   | none=>simp[hF] at hv
   | some F=>
    simp only[hF] at hv
    split at hv
    .rename_i s hb
     cases hr:jD s F.c9 with
     | none=>simp[hr] at hv
     | some v=>simp only[hr] at hv;exact Tu (heap n F hF [] 0 aw .normal s v hb (.inl rfl) hr) hv
    .rename_i s hb
     cases hr:jD s F.c9 with
     | none=>simp[hr] at hv
     | some v=>simp only[hr] at hv;exact Tu (heap n F hF [] 0 aw .ret s v hb (.inr rfl) hr) hv
    .cases hv
 .intro hp ct n aw v ap aO hv;unfold jG at hv
  cases hL:O.aJ.heap n with
  | some sp=>rw[hL] at hv;exact hO.Hw n sp hp ct aw v ap aO hL hv
  | none=>
   simp only[hL] at hv
   cases hF:O.prog n with
   | none=>simp[hF] at hv
   | some F=>
    grind
def abg(hO:iZ O):∀n,pX O (ev O.prog O.aJ n):=by
 intro n
 induction n using ub with
 | _ n ih=>
  refine anm hO (fun v s ex s' hv c h l k hc=>?_)
  cases n with
  | zero=>rw[Ko] at hv;cases hv
  | succ n=>
   rw[Ps,<-hc] at hv;exact aeI hO n (fun k hk=>ih k (by lia)) h c l k n (yx _) s ex s' hv
def sound(hO:iZ O){f:Nat}{r:AV}(h:Za O.prog O.aJ n f aw=Gr r):eJ O f aw r:=(abg hO n).pure f aw r h
end
end
end
def iL:List Nat->List Nat->Bool
 | [],_=>ydy
 | a::x,b::y=>yt a b&&iL x y
 | _::_,[]=>ydz
def nU(sub:List Nat):List Nat->Nat->Option Nat
 | [],k=>bif iL sub [] then Gr k else Gs
 | b::r,k=>bif iL sub (b::r) then Gr k else nU sub r (k+1)
def QN:List AV->Option AV
 | [.str s,.str sep]=>
  bif yQ s.length 4294967281 then
   match nU sep s 0 with
   | some i=>Gr (.av [.str (s.take i),.str (s.drop (i+sep.length)),.bool ydy])
   | none=>Gr (.av [.str s,.str [],.bool ydz])
  else Gs
 | _=>Gs
def Oo:List AV->Option AV
 | [.str s,.str p]=>Gr (bif iL p s then .av [.str (s.drop p.length),.bool ydy] else .av [.str s,.bool ydz])
 | _=>Gs
def Oq:List AV->Option AV
 | [.str s,.str p]=>Gr (.bool (iL p s))
 | _=>Gs
def Oa:List AV->Option AV
 | [.str s,.str p]=>Gr (.str (bif iL p s then s.drop p.length else s))
 | _=>Gs
def Hz(i:Nat):List Nat->Bool
 | []=>ydz
 | j::r=>bif yt j i then ydy else Hz i r
def mC(set:List Nat):List Nat->List Nat
 | []=>[]
 | b::r=>bif Hz b set then mC set r else b::r
def GR:List Nat->Bool
 | []=>ydy
 | b::r=>yQ b 128&&GR r
def trimS:List AV->Option AV
 | [.str s,.str set]=>bif GR set&&(yQ s.length 4294967281&&yQ set.length 4294967281) then Gr (.str (mC set (mC set s.reverse).reverse)) else Gs
 | _=>Gs
def je(s:List Nat):Nat->List Nat
 | 0=>[]
 | n+1=>s++je s n
def CR:List AV->Option AV
 | [.str s,.int .i64 (.ofNat n)]=>bif yJ n 1099511627776&&yJ (s.length*n) 1099511627776 then Gr (.str (je s n)) else Gs
 | _=>Gs
def oR:Nat->Nat->List Nat->List Nat
 | 0,_,acc=>acc
 | f+1,n,acc=>bif yQ n 10 then (48+n)::acc else oR f (n/10) ((48+n%10)::acc)
def az(n:Nat):List Nat:=oR (n+1) n []
def bc:Int->List Nat
 | .ofNat n=>az n
 | .negSucc n=>45::az (n+1)
def Df:Int->Bool
 | .ofNat n=>yQ n 9223372036854775808
 | .negSucc n=>yQ n 9223372036854775808
def LC:List AV->Option AV
 | [.int .i64 n]=>bif Df n then Gr (.str (bc n)) else Gs
 | _=>Gs
def Cz:List AV->Option AV
 | [.int .u64 (.ofNat n),.int .i64 10]=>bif yQ n 18446744073709551616 then Gr (.str (az n)) else Gs
 | _=>Gs
def cQ:List Nat->Nat->Option Nat
 | [],a=>Gr a
 | b::r,a=>bif yJ 48 b&&yJ b 57 then cQ r (10*a+(b-48)) else Gs
def LD:List AV->Option AV
 | [.str s]=>
  bif yQ 0 s.length&&yJ s.length 18 then
   match cQ s 0 with | some n=>Gr (.av [.int .i64 n,.undef]) | none=>Gs
  else Gs
 | _=>Gs
def p6:List AV->Option AV
 | [.int .u64 (.ofNat x),.int .u64 (.ofNat y),.int .u64 (.ofNat c)]=>
  bif yJ c 1&&(yQ x 18446744073709551616&&yQ y 18446744073709551616) then Gr (.av [.int .u64 ((x+y+c)%18446744073709551616:Nat),.int .u64 ((x+y+c)/18446744073709551616:Nat)]) else Gs
 | _=>Gs
def CV:List AV->Option AV
 | [.int .u64 (.ofNat x),.int .u64 (.ofNat y),.int .u64 (.ofNat c)]=>
  bif yJ c 1&&(yQ x 18446744073709551616&&yQ y 18446744073709551616) then Gr (.av [.int .u64 ((x+18446744073709551616*2-y-c)%18446744073709551616:Nat),.int .u64 (bif yJ (y+c) x then 0 else 1)]) else Gs
 | _=>Gs
def Av:List AV->Option AV
 | [.int .u64 (.ofNat x),.int .u64 (.ofNat y)]=>bif yQ x 18446744073709551616&&yQ y 18446744073709551616 then Gr (.av [.int .u64 (x*y/18446744073709551616:Nat),.int .u64 (x*y%18446744073709551616:Nat)]) else Gs
 | _=>Gs
def dO:Nat->Nat->Nat
 | 0,_=>0
 | f+1,n=>bif yt n 0 then 0 else 1+dO f (n/2)
def KF:List AV->Option AV
 | [.int .u64 (.ofNat x)]=>bif yQ x 18446744073709551616 then Gr (.int .i64 (dO 64 x)) else Gs
 | _=>Gs
def Ho:List AV->Option AV
 | [.int .u64 (.ofNat x)]=>bif yQ x 18446744073709551616 then Gr (.int .i64 (64-dO 64 x:Nat)) else Gs
 | _=>Gs
def OZ:List AV->Option AV
 | [.an .f64 b]=>Gr (.int .u64 b)
 | _=>Gs
def N6:List AV->Option AV
 | [.int .u64 (.ofNat n)]=>Gr (.an .f64 n)
 | _=>Gs
section
open Go
section
variable {a:AV}{args:Array yj}{aw:List AV}{s:List Nat}{w:yo}
section
variable {O:bC}{n:Nat}
def JQ{w':yo}(h:RowKit.Below w.heap.size w w'):Calm w w':=⟨h.os,h.tape,h.output,h.size,h.block⟩
def aon(k:Nat):Calm w (w.drewN k):=⟨rfl,rfl,rfl,yx _,fun _ _=>rfl⟩
def aoo(h:Db O w){a:Addr}{v:yj}(hc:O.w0.cell? a=Gr v):w.cell? a=Gr v:=by
 have hb:a.block<O.w0.heap.size:=by
  unfold World.cell? at hc
  cases hq:O.w0.heap[a.block]? with
  | none=>simp[hq] at hc
  | some o=>exact (xC.1 hq).1
 unfold World.cell? at hc ⊢;rw[h.1 _ hb];exact hc
def pT{r:AV}(hr:∀S w' lo u,af O.ae fA S w' r u->qv O.ae S w' lo r u)(gj:∀args w,(callFunc (O.ae n) args).run O.P w=.ok (.enter (O.ae n) args) w)(h:∀w S args,Db O w->aE O.ae fA S w aw args.toList->wG O.P (O.ae n) args w fun e w'=>∃u,e=.returned u/\Calm w w'/\∀S,af O.ae fA S w' r u):eJ O n aw r:=by
 intro w S args hg hS ef _;refine .inl ⟨gj args w,Go.callsIn_wide.2 ((h w S args hg ef).mono ?_)⟩;rintro e w' ⟨u,rfl,hc,hu⟩;exact⟨u,S,rfl,hc,fun _ h=>h,fun _ h=>.inl h,fun b hb=>yI (hS b hb) hc.size,hr S w' _ u (hu S)⟩
def OH{r:AV}(hr:∀S w' lo u,af O.ae fA S w' r u->qv O.ae S w' lo r u)(h:∀w S args,aE O.ae fA S w aw args.toList->∃u,(callFunc (O.ae n) args).run O.P w=.ok (.value u) w/\∀S,af O.ae fA S w r u):eJ O n aw r:=by
 intro w S args _ hS ef _;have⟨u,h1,h2⟩:=h w S args ef;exact .inr ⟨u,w,h1,u,S,rfl,Calm.refl,fun _ h=>h,fun _ h=>.inl h,hS,hr S w _ u (h2 S)⟩
def Kp:∀S w' lo u,af O.ae fA S w' (.str s) u->qv O.ae S w' lo (.str s) u:=fun S w' lo u h=>⟨[],rfl,h,rfl⟩
def Vn{k:IntKind}{z:Int}:∀S w' lo u,af O.ae fA S w' (.int k z) u->qv O.ae S w' lo (.int k z) u:=fun S w' lo u h=>⟨[],rfl,h,rfl⟩
def asq{k:FloatKind}{z:Nat}:∀S w' lo u,af O.ae fA S w' (.an k z) u->qv O.ae S w' lo (.an k z) u:=fun S w' lo u h=>⟨[],rfl,h,rfl⟩
def adp{b:Bool}:∀S w' lo u,af O.ae fA S w' (.bool b) u->qv O.ae S w' lo (.bool b) u:=fun S w' lo u h=>⟨[],rfl,h,rfl⟩
def abJ{S:Nat->Prop}{w':yo}{lo:Nat}:∀{vs:List AV} {us:List yj},(∀v,v∈vs->(∀ex sz k cs,v≠.cR ex sz k cs)/\aV v=ydy)->aE O.ae fA S w' vs us->mF O.ae S w' lo vs us []
 | [],us,_,h=>by simp only[aE] at h;exact⟨h,rfl⟩
 | v::vs,us,hv,h=>by
  simp only[aE] at h;obtain⟨u,t,rfl,h1,h2⟩:=h;have h3:=hv v (by simp);refine⟨u,t,[],[],rfl,rfl,?_,abJ (fun v hm=>hv v (by simp[hm])) h2⟩;cases v<;>first | exact⟨rfl,h1,h3.2⟩ | exact absurd rfl (h3.1 _ _ _ _)
def GK{vs:List AV}(hv:∀v,v∈vs->(∀ex sz k cs,v≠.cR ex sz k cs)/\aV v=ydy):∀S w' lo u,af O.ae fA S w' (.av vs) u->qv O.ae S w' lo (.av vs) u:=by
 intro S w' lo u h;obtain⟨xs,rfl,h⟩:=h;exact⟨xs,[],rfl,abJ hv h,by simp⟩
def Fb(h:aE O.ae fA S w [a] args.toList):∃u,args=#[u]/\af O.ae fA S w a u:=by
 simp only[aE] at h
 grind
def Dg{b:AV}(h:aE O.ae fA S w [a,b] args.toList):∃u v,args=#[u,v]/\af O.ae fA S w a u/\af O.ae fA S w b v:=by
 simp only[aE] at h
 grind
def agm{b c:AV}(h:aE O.ae fA S w [a,b,c] args.toList):∃u v x,args=#[u,v,x]/\af O.ae fA S w a u/\af O.ae fA S w b v/\af O.ae fA S w c x:=by
 simp only[aE] at h
 grind
def JR{l:List UInt8}(h:l.map xr=s):af O.ae fA S w (.str s) (.string ⟨l.toArray⟩):=by
 simp only[af];exact⟨_,rfl,h⟩
def toNat_inj{a b:UInt8}:yt a.toNat b.toNat=(a==b):=by
 by_cases h:a=b
 .simp_all
 .have h':a.toNat≠b.toNat:=fun e=>h (UInt8.toNat_inj.1 e)
  have e:(a==b)=ydz:=by simp_all
  rw[e]
  cases hq:yt a.toNat b.toNat with
  | false=>rfl
  | true=>exact absurd (yi hq) h'
def J3:∀(p s:List UInt8),iL (p.map xr) (s.map xr)=p.isPrefixOf s
 | [],s=>by cases s<;>rfl
 | a::p,[]=>rfl
 | a::p,b::s=>by
  simp only[yV,iL,List.isPrefixOf,J3 p s,toNat_inj]
def abK:∀(s sep:List UInt8) (k:Nat),nU (sep.map xr) (s.map xr) k=if 0<=Lib.index s sep then Gr (k+(Lib.index s sep).toNat) else Gs
 | [],sep,k=>by
  simp only[List.map_nil,nU,Lib.index]
  cases sep with
  | nil=>simp[iL]
  | cons a r=>simp[iL]
 | b::s,sep,k=>by
  have ih:=abK s sep (k+1);have hp:=J3 sep (b::s);simp only[yV,nU,hp,Lib.index]
  grind
def adq(b:UInt8):∀cs:List UInt8,Hz b.toNat (cs.map xr)=cs.contains b
 | []=>rfl
 | c::cs=>by
  simp only[yV,Hz,adq b cs,List.contains_cons,toNat_inj]
  grind
def Uq(cs:List UInt8):∀l:List UInt8,mC (cs.map xr) (l.map xr)=(l.dropWhile (cs.contains ·)).map xr
 | []=>rfl
 | b::l=>by
  simp only[yV,mC,adq,List.dropWhile_cons,Uq cs l]
  grind
def adr(l:List UInt8):∀n,je (l.map xr) n=(Lib.repeatL l n).map xr
 | 0=>rfl
 | n+1=>by simp only[je,Lib.repeatL,xB,adr l n]
def abh:∀(f n:Nat) (acc:List Nat),n<f->oR f n acc=(Lib.decDigits n).map xr++acc
 | 0,n,acc,h=>by lia
 | f+1,n,acc,h=>by
  rw[oR,Lib.decDigits];by_cases hn:n<10
  .rw [show yQ n 10=ydy from yz hn,yy,dif_pos hn]
   have:(ycz (48+n)).toNat=48+n:=by
    rw[ybs];lia
   grind
  .have hb:yQ n 10=ydz:=by
    cases hq:yQ n 10 with
    | false=>rfl
    | true=>exact absurd (yA hq) (by lia)
   rw[hb,yT,dif_neg hn,abh f (n/10) _ (by lia),xB,List.append_assoc]
   have:(ycz (48+n%10)).toNat=48+n%10:=by
    rw[ybs];lia
   grind
def US(n:Nat):az n=(Lib.decDigits n).map xr:=by
 rw[az,abh (n+1) n [] (by lia),List.append_nil]
def aqi(n:Int):bc n=(Lib.itoa n).map xr:=by
 cases n with
 | ofNat k=>
  have:¬ycb k<0:=by simp
  simp only[bc,Lib.itoa,this,xz,US];rfl
 | negSucc k=>
  have:Int.negSucc k<0:=Int.negSucc_lt_zero k
  simp only[bc,Lib.itoa,this,xS,US,yV];rfl
def UT:∀f x:Nat,dO f x=Lib.bitLenAux f x
 | 0,_=>rfl
 | f+1,x=>by
  rw[dO,Lib.bitLenAux];by_cases h:x=0
  .simp_all
  .have hb:yt x 0=ydz:=by
    cases hq:yt x 0 with
    | false=>rfl
    | true=>exact absurd (yi hq) h
   rw[hb,yT,yp h,UT f]
def abL:∀{cs:List UInt8},GR (cs.map xr)=ydy->∀(j:Nat) b,cs[j]? =Gr b->b.toNat<128
 | [],_,j,b,h=>by simp at h
 | c::cs,h,j,b,hb=>by
  simp only[yV,GR,yf] at h
  cases j with
  | zero=>
   simp_all
  | succ j=>exact abL h.2 j b (by simpa using hb)
def ads:∀{l:List UInt8} {a z:Nat},cQ (l.map xr) a=Gr z->Lib.decFrom a l=Gr z
 | [],a,z,h=>h
 | b::l,a,z,h=>by
  simp only[yV,cQ] at h
  cases hb:(yJ 48 b.toNat&&yJ b.toNat 57) with
  | false=>rw[hb] at h;cases h
  | true=>
   rw[hb] at h;simp only[yf] at hb;have h1:=yA hb.1;have h2:=yA hb.2
   have:=ads h
   rw[Lib.decFrom,Lib.digitVal,yE ⟨h1,h2⟩]
   grind
def aqj{l:List UInt8}{z:Nat}(h:cQ (l.map xr) 0=Gr z)(h0:0<l.length):Lib.atoi l=Gr (z:Int):=by
 cases l with
 | nil=>simp at h0
 | cons b r=>
  have hd:=ads h;have hb:48<=b.toNat:=by
   simp only[yV,cQ] at h
   cases hb:(yJ 48 b.toNat&&yJ b.toNat 57) with
   | false=>rw[hb] at h;cases h
   | true=>
    simp_all
  have h1:(b==45)=ydz:=by
   have:b≠45:=fun e=>by subst e;exact absurd hb (by decide)
   grind
  have h2:(b==43)=ydz:=by
   have:b≠43:=fun e=>by subst e;exact absurd hb (by decide)
   grind
  simp only[Lib.atoi,h1,h2,yH,xz,Lib.decNat,List.isEmpty_cons,hd,vd]
section
variable {f:yaf}
def amf(hf:O.ae n=f)(gj:∀args w,(callFunc f args).run O.P w=.ok (.enter f args) w)(hc:∀(s p:ByteArray) (w:yo),wG O.P f #[.string s,.string p] w fun e w'=>e=.returned (.tuple #[.string ⟨(Lib.trimPrefix s.data.toList p.data.toList).toArray⟩,.bool (Lib.hasPrefix s.data.toList p.data.toList)])/\w'=w):
  ∀aw r,Oo aw=Gr r->eJ O n aw r:=by
 intro aw r h;unfold Oo at h
 split at h
 .rename_i s p;simp only[yc] at h;subst h;refine pT ?_ (by rw[hf];exact gj) ?_
  .cases iL p s<;>exact GK (by simp[aV])
  .intro w S args hg ef;obtain⟨u,v,rfl,h1,h2⟩:=Dg ef;obtain⟨t1,rfl,rfl⟩:=h1;obtain⟨t2,rfl,rfl⟩:=h2;rw[hf];refine (hc t1 t2 w).mono ?_;rintro e w' ⟨rfl,rfl⟩;refine⟨_,rfl,Calm.refl,fun S=>?_⟩;rw[J3,yU];unfold Lib.trimPrefix Lib.hasPrefix
   cases hp:t2.data.toList.isPrefixOf t1.data.toList with
   | true=>
    simp only[yy,xS,af,aE]
    simp_all
   | false=>
    simp only[yT,yH,xz,af,aE]
    grind
 .cases h
def amg(hf:O.ae n=f)(gj:∀args w,(callFunc f args).run O.P w=.ok (.enter f args) w)(hc:∀(s p:ByteArray) (w:yo),wG O.P f #[.string s,.string p] w fun e w'=>e=.returned (.bool (Lib.hasPrefix s.data.toList p.data.toList))/\w'=w):
  ∀aw r,Oq aw=Gr r->eJ O n aw r:=by
 intro aw r h;unfold Oq at h
 split at h
 .rename_i s p;simp only[yc] at h;subst h;refine pT adp (by rw[hf];exact gj) ?_
  intro w S args hg ef;obtain⟨u,v,rfl,h1,h2⟩:=Dg ef;obtain⟨t1,rfl,rfl⟩:=h1;obtain⟨t2,rfl,rfl⟩:=h2;rw[hf];refine (hc t1 t2 w).mono ?_;rintro e w' ⟨rfl,rfl⟩;refine⟨_,rfl,Calm.refl,fun S=>?_⟩;rw[J3];simp only[af,Lib.hasPrefix]
 .cases h
def amc(hf:O.ae n=f)(gj:∀args w,(callFunc f args).run O.P w=.ok (.enter f args) w)(hc:∀(s p:ByteArray) (w:yo),wG O.P f #[.string s,.string p] w fun e w'=>e=.returned (.string ⟨(Lib.trimPrefix s.data.toList p.data.toList).toArray⟩)/\w'=w):
  ∀aw r,Oa aw=Gr r->eJ O n aw r:=by
 intro aw r h;unfold Oa at h
 split at h
 .rename_i s p;simp only[yc] at h;subst h;refine pT Kp (by rw[hf];exact gj) ?_
  intro w S args hg ef;obtain⟨u,v,rfl,h1,h2⟩:=Dg ef;obtain⟨t1,rfl,rfl⟩:=h1;obtain⟨t2,rfl,rfl⟩:=h2;rw[hf];refine (hc t1 t2 w).mono ?_;rintro e w' ⟨rfl,rfl⟩;refine⟨_,rfl,Calm.refl,fun S=>?_⟩;rw[J3,yU];refine JR ?_;unfold Lib.trimPrefix Lib.hasPrefix
  cases hp:t2.data.toList.isPrefixOf t1.data.toList with
  | true=>simp[List.map_drop]
  | false=>simp
 .cases h
def asr(hf:O.ae n=f)(gj:∀args w,(callFunc f args).run O.P w=.ok (.enter f args) w){a:Addr}{m:Int}(hm:O.w0.cell? a=Gr (.int .i64 m))(hc:∀(s sep:ByteArray) (w:yo),s.size<4294967281->w.cell? a=Gr (.int .i64 m)->wG O.P f #[.string s,.string sep] w fun e w'=>e=.returned (.tuple #[.string ⟨(Lib.cut s.data.toList sep.data.toList).1.toArray⟩,.string ⟨(Lib.cut s.data.toList sep.data.toList).2.1.toArray⟩,.bool (Lib.cut s.data.toList sep.data.toList).2.2])/\∃n,w'=w.drewN n):
  ∀aw r,QN aw=Gr r->eJ O n aw r:=by
 intro aw r h;unfold QN at h
 split at h
 .rename_i s sep
  cases hb:yQ s.length 4294967281 with
  | false=>rw[hb] at h;cases h
  | true=>
   rw[hb] at h;have key:∀(q:List UInt8×List UInt8×Bool),(∀t1 t2:ByteArray,t1.data.toList.map xr=s->t2.data.toList.map xr=sep->r=.av [.str ((Lib.cut t1.data.toList t2.data.toList).1.map xr),.str ((Lib.cut t1.data.toList t2.data.toList).2.1.map xr),.bool (Lib.cut t1.data.toList t2.data.toList).2.2])->
     (∃a b c,r=.av [.str a,.str b,.bool c])->eJ O n [.str s,.str sep] r:=by
    intro q hq avd;obtain⟨a',b',c',rfl⟩:=avd;refine pT (GK (by simp[aV])) (by rw[hf];exact gj) ?_
    intro w S args hg ef;obtain⟨u,v,rfl,h1,h2⟩:=Dg ef;obtain⟨t1,rfl,e1⟩:=h1;obtain⟨t2,rfl,e2⟩:=h2;rw[hf];have hl:t1.size<4294967281:=by
     have:=rU hb
     rw[<-e1,yU] at this
     simp_all
    refine (hc t1 t2 w hl (aoo hg hm)).mono ?_;rintro e w' ⟨rfl,k,rfl⟩;refine⟨_,rfl,aon k,fun S=>?_⟩;simp only[af,aE]
    grind
   refine key ([],[],ydz) ?_ ?_
   .intro t1 t2 e1 e2;subst e1;subst e2;rw[abK] at h;unfold Lib.cut;by_cases h0:0<=Lib.index t1.data.toList t2.data.toList
    .simp_all
    .grind
   .grind
 .cases h
def aqk(hf:O.ae n=f)(gj:∀args w,(callFunc f args).run O.P w=.ok (.enter f args) w)(hc:∀(s cs:ByteArray) (w:yo),s.size<=9223372036854775807->cs.size<4294967281->(∀(j:Nat) b,cs.data.toList[j]? =Gr b->b.toNat<128)->wG O.P f #[.string s,.string cs] w fun e w'=>e=.returned (.string ⟨(Lib.trimS s.data.toList cs.data.toList).toArray⟩)/\RowKit.Below w.heap.size w w'):
  ∀aw r,trimS aw=Gr r->eJ O n aw r:=by
 intro aw r h;unfold trimS at h
 split at h
 .rename_i s cs
  cases hb:(GR cs&&(yQ s.length 4294967281&&yQ cs.length 4294967281)) with
  | false=>rw[hb] at h;cases h
  | true=>
   rw[hb] at h;simp only[yy,yc] at h;subst h;simp only[yf] at hb;refine pT Kp (by rw[hf];exact gj) ?_
   intro w S args hg ef;obtain⟨u,v,rfl,h1,h2⟩:=Dg ef;obtain⟨t1,rfl,rfl⟩:=h1;obtain⟨t2,rfl,rfl⟩:=h2;have qV:=rU hb.2.1;have mM:=rU hb.2.2;rw[yU] at qV mM;rw[hf];refine (hc t1 t2 w (by rw[Lib.size_eq];lia) (by rw[Lib.size_eq];lia) (abL hb.1)).mono ?_
   rintro e w' ⟨rfl,hw⟩;refine⟨_,rfl,JQ hw,fun S=>JR ?_⟩;simp only[Lib.trimS,Lib.trimLeftS,Lib.trimRightS];rw[<-yaQ,Uq,<-yaQ,Uq]
 .cases h
def ann(hf:O.ae n=f)(gj:∀args w,(callFunc f args).run O.P w=.ok (.enter f args) w)(hc:∀(s:ByteArray) (c:Nat) (w:yo),c<=9223372036854775807->s.size*c<=140737488355328->wG O.P f #[.string s,.int .i64 c] w fun e w'=>e=.returned (.string ⟨(Lib.repeatL s.data.toList c).toArray⟩)/\RowKit.Below w.heap.size w w'):
  ∀aw r,CR aw=Gr r->eJ O n aw r:=by
 intro aw r h;unfold CR at h
 split at h
 .rename_i s c
  cases hb:(yJ c 1099511627776&&yJ (s.length*c) 1099511627776) with
  | false=>rw[hb] at h;cases h
  | true=>
   rw[hb] at h;simp only[yy,yc] at h;subst h;simp only[yf] at hb;have l1:=yA hb.1;have l2:=yA hb.2;refine pT Kp (by rw[hf];exact gj) ?_
   intro w S args hg ef;obtain⟨u,v,rfl,h1,h2⟩:=Dg ef;obtain⟨t1,rfl,rfl⟩:=h1;subst h2;rw[hf];rw[yU] at l2;refine (hc t1 c w (by lia) (by rw[Lib.size_eq];lia)).mono ?_
   rintro e w' ⟨rfl,hw⟩;exact⟨_,rfl,JQ hw,fun S=>JR (adr _ _).symm⟩
 .cases h
def aql(hf:O.ae n=f)(gj:∀args w,(callFunc f args).run O.P w=.ok (.enter f args) w)(hc:∀(z:Int) (w:yo),-9223372036854775808<=z->z<=9223372036854775807->Db O w->wG O.P f #[.int .i64 z] w fun e w'=>e=.returned (.string ⟨(Lib.itoa z).toArray⟩)/\Calm w w'):
  ∀aw r,LC aw=Gr r->eJ O n aw r:=by
 intro aw r h;unfold LC at h
 split at h
 .rename_i z
  cases hb:Df z with
  | false=>rw[hb] at h;cases h
  | true=>
   rw[hb] at h;simp only[yy,yc] at h;subst h;have hz: -9223372036854775808<=z/\z<=9223372036854775807:=by
    cases z with
    | ofNat k=>have:=rU hb;show -9223372036854775808<=(k:Int)/\(k:Int)<=9223372036854775807;lia
    | negSucc k=>have:=rU hb;lia
   refine pT Kp (by rw[hf];exact gj) ?_
   intro w S args hg ef;obtain⟨u,rfl,h1⟩:=Fb ef;subst h1;rw[hf];refine (hc z w hz.1 hz.2 hg).mono ?_;rintro e w' ⟨rfl,hw⟩;exact⟨_,rfl,hw,fun S=>JR (aqi z).symm⟩
 .cases h
def amd(hf:O.ae n=f)(gj:∀args w,(callFunc f args).run O.P w=.ok (.enter f args) w)(hc:∀(z:Nat) (w:yo),z<18446744073709551616->Db O w->wG O.P f #[.int .u64 z,.int .i64 10] w fun e w'=>e=.returned (.string ⟨(Lib.decDigits z).toArray⟩)/\Calm w w'):
  ∀aw r,Cz aw=Gr r->eJ O n aw r:=by
 intro aw r h;unfold Cz at h
 split at h
 .rename_i z
  cases hb:yQ z 18446744073709551616 with
  | false=>rw[hb] at h;cases h
  | true=>
   rw[hb] at h;simp only[yy,yc] at h;subst h;refine pT Kp (by rw[hf];exact gj) ?_
   intro w S args hg ef;obtain⟨u,v,rfl,h1,h2⟩:=Dg ef;subst h1;subst h2;rw[hf];refine (hc z w (rU hb) hg).mono ?_;rintro e w' ⟨rfl,hw⟩;exact⟨_,rfl,hw,fun S=>JR (US z).symm⟩
 .cases h
def aqm(hf:O.ae n=f)(gj:∀args w,(callFunc f args).run O.P w=.ok (.enter f args) w)(hc:∀(s:ByteArray) (z:Int) (w:yo),s.size<=18->Lib.atoi s.data.toList=Gr z->wG O.P f #[.string s] w fun e w'=>e=.returned (.tuple #[.int .i64 z,.nilIface])/\Calm w w'):
  ∀aw r,LD aw=Gr r->eJ O n aw r:=by
 intro aw r h;unfold LD at h
 split at h
 .rename_i s
  cases hb:(yQ 0 s.length&&yJ s.length 18) with
  | false=>rw[hb] at h;cases h
  | true=>
   rw[hb] at h;simp only[yy] at h;simp only[yf] at hb;have l1:=rU hb.1;have l2:=yA hb.2
   split at h
   .rename_i z hz;simp only[yc] at h;subst h;refine pT (GK (by simp[aV])) (by rw[hf];exact gj) ?_
    intro w S args hg ef;obtain⟨u,rfl,h1⟩:=Fb ef;obtain⟨t1,rfl,rfl⟩:=h1;rw[yU] at l1 l2;have ha:Lib.atoi t1.data.toList=Gr (z:Int):=aqj hz l1;rw[hf];refine (hc t1 z w (by rw[Lib.size_eq];exact l2) ha).mono ?_
    simp only[af,aE]
    grind
   .cases h
 .cases h
def aop(hf:O.ae n=f)(gj:∀args w,(callFunc f args).run O.P w=.ok (.enter f args) w)(hc:∀(x y:Nat) (w:yo),x<18446744073709551616->y<18446744073709551616->wG O.P f #[.int .u64 x,.int .u64 y] w fun e w'=>e=.returned (.tuple #[.int .u64 ((x*y/18446744073709551616:Nat):Int),.int .u64 ((x*y%18446744073709551616:Nat):Int)])/\w'=w):
  ∀aw r,Av aw=Gr r->eJ O n aw r:=by
 intro aw r h;unfold Av at h
 split at h
 .rename_i x y
  cases hb:(yQ x 18446744073709551616&&yQ y 18446744073709551616) with
  | false=>rw[hb] at h;cases h
  | true=>
   rw[hb] at h;simp only[yy,yc] at h;subst h;simp only[yf] at hb;refine pT (GK (by simp[aV])) (by rw[hf];exact gj) ?_
   intro w S args hg ef;obtain⟨u,v,rfl,h1,h2⟩:=Dg ef;subst h1;subst h2;rw[hf];refine (hc x y w (rU hb.1) (rU hb.2)).mono ?_;rintro e w' ⟨rfl,rfl⟩;refine⟨_,rfl,Calm.refl,fun S=>?_⟩;simp only[af,aE]
   grind
 .cases h
def aoq(hf:O.ae n=f)(gj:∀args w,(callFunc f args).run O.P w=.ok (.enter f args) w)(hc:∀(x:Int) (w:yo),0<=x->x<=18446744073709551615->wG O.P f #[.int .u64 x] w fun e w'=>e=.returned (.int .i64 (Lib.bitLen x.toNat:Nat))/\w'=w):
  ∀aw r,KF aw=Gr r->eJ O n aw r:=by
 intro aw r h;unfold KF at h
 split at h
 .rename_i x
  cases hb:yQ x 18446744073709551616 with
  | false=>rw[hb] at h;cases h
  | true=>
   rw[hb] at h;simp only[yy,yc] at h;subst h
   have:=rU hb
   refine pT Vn (by rw[hf];exact gj) ?_
   intro w S args hg ef;obtain⟨u,rfl,h1⟩:=Fb ef;subst h1;rw[hf];refine (hc (ycb x) w (yaI x) (by show (x:Int)<=_;lia)).mono ?_
   rintro e w' ⟨rfl,rfl⟩;refine⟨_,rfl,Calm.refl,fun S=>?_⟩;rw[UT];rfl
 .cases h
def aqn(hf:O.ae n=f)(gj:∀args w,(callFunc f args).run O.P w=.ok (.enter f args) w)(hc:∀(x:Int) (w:yo),0<=x->x<=18446744073709551615->wG O.P f #[.int .u64 x] w fun e w'=>e=.returned (.int .i64 (64-(Lib.bitLen x.toNat:Nat)))/\w'=w):
  ∀aw r,Ho aw=Gr r->eJ O n aw r:=by
 intro aw r h;unfold Ho at h
 split at h
 .rename_i x
  cases hb:yQ x 18446744073709551616 with
  | false=>rw[hb] at h;cases h
  | true=>
   rw[hb] at h;simp only[yy,yc] at h;subst h
   have:=rU hb
   have hle:∀f x,Lib.bitLenAux f x<=f:=by
    intro f
    induction f with
    | zero=>intro x;exact yx _
    | succ f ih=>
     intro x;rw[Lib.bitLenAux]
     grind
   refine pT Vn (by rw[hf];exact gj) ?_
   intro w S args hg ef;obtain⟨u,rfl,h1⟩:=Fb ef;subst h1;rw[hf];refine (hc (ycb x) w (yaI x) (by show (x:Int)<=_;lia)).mono ?_
   rintro e w' ⟨rfl,rfl⟩;refine⟨_,rfl,Calm.refl,fun S=>?_⟩;simp only[af,UT];show Value.int .i64 (64-(Lib.bitLenAux 64 x:Int))=Value.int .i64 ((64-Lib.bitLenAux 64 x:Nat):Int)
   grind
 .cases h
def amJ(hf:O.ae n=f)(hc:∀(b:Nat) (w:yo),(callFunc f #[.float .f64 b]).run O.P w=.ok (.value (.int .u64 b)) w):
  ∀aw r,OZ aw=Gr r->eJ O n aw r:=by
 intro aw r h;unfold OZ at h
 split at h
 .rename_i b;simp only[yc] at h;subst h;refine OH Vn ?_;intro w S args ef;obtain⟨u,rfl,h1⟩:=Fb ef;simp only[af] at h1;subst h1;rw[hf];exact⟨_,hc b w,fun S=>rfl⟩
 .cases h
def al9(hf:O.ae n=f)(hc:∀(b:Nat) (w:yo),(callFunc f #[.int .u64 b]).run O.P w=.ok (.value (.float .f64 b)) w):
  ∀aw r,N6 aw=Gr r->eJ O n aw r:=by
 intro aw r h;unfold N6 at h
 split at h
 .rename_i b;simp only[yc] at h;subst h;refine OH asq ?_;intro w S args ef;obtain⟨u,rfl,h1⟩:=Fb ef;simp only[af] at h1;subst h1;rw[hf];exact⟨_,hc b w,fun S=>rfl⟩
 .cases h
def aor(hf:O.ae n=f)(hc:∀(x y c:Nat) (w:yo),c<=1->(callFunc f #[.int .u64 x,.int .u64 y,.int .u64 c]).run O.P w=.ok (.value (.tuple #[.int .u64 (((x+y+c)%18446744073709551616:Nat):Int),.int .u64 (((x+y+c)/18446744073709551616:Nat):Int)])) w):
  ∀aw r,p6 aw=Gr r->eJ O n aw r:=by
 intro aw r h;unfold p6 at h
 split at h
 .rename_i x y c
  cases hb:(yJ c 1&&(yQ x 18446744073709551616&&yQ y 18446744073709551616)) with
  | false=>rw[hb] at h;cases h
  | true=>
   rw[hb] at h;simp only[yy,yc] at h;subst h;simp only[yf] at hb;refine OH (GK (by simp[aV])) ?_;intro w S args ef;obtain⟨u,v,z,rfl,h1,h2,h3⟩:=agm ef;subst h1;subst h2;subst h3;rw[hf];refine⟨_,hc x y c w (yA hb.1),fun S=>?_⟩;simp only[af,aE]
   grind
 .cases h
def aos(hf:O.ae n=f)(hc:∀(x y b:Nat) (w:yo),b<=1->(callFunc f #[.int .u64 x,.int .u64 y,.int .u64 b]).run O.P w=.ok (.value (.tuple #[.int .u64 (((x+18446744073709551616-y-b)%18446744073709551616:Nat):Int),.int .u64 ((if x<y+b then 1 else 0:Nat):Int)])) w):
  ∀aw r,CV aw=Gr r->eJ O n aw r:=by
 intro aw r h;unfold CV at h
 split at h
 .rename_i x y c
  cases hb:(yJ c 1&&(yQ x 18446744073709551616&&yQ y 18446744073709551616)) with
  | false=>rw[hb] at h;cases h
  | true=>
   rw[hb] at h;simp only[yy,yc] at h;subst h;simp only[yf] at hb;have eY:=yA hb.1;have hy:=rU hb.2.2;refine OH (GK (by simp[aV])) ?_;intro w S args ef;obtain⟨u,v,z,rfl,h1,h2,h3⟩:=agm ef;subst h1;subst h2;subst h3;rw[hf];refine⟨_,hc x y c w eY,fun S=>?_⟩;simp only[af,aE];refine⟨_,rfl,_,_,rfl,?_,_,_,rfl,?_,rfl⟩
   .grind
   .congr 1
    by_cases h:x<y+c
    .have:yJ (y+c) x=ydz:=by
      cases hq:yJ (y+c) x with
      | false=>rfl
      | true=>have:=yA hq;lia
     grind
    .rw [yz (by lia),yp h];rfl
 .cases h
end
end
end
end
end VE
