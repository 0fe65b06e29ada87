import Derived.RangeFuncLeaves
import Derived.OrdersIn
import Derived.LoopNIn
import Derived.RangeFuncIn
import Derived.Test.YtpdlhopnhojpjaaGreatDoorTab
set_option linter.all false
set_option maxRecDepth 100000
open Array renaming getD_eq_getD_getElem?→vB,getElem?_eq_some_iff→xF,replicate→tg
open Bool renaming and_eq_true→yi,false_eq_true→yN,not_eq_true'→uo,or_eq_false_iff→yaw,or_eq_true→tI
open Classical renaming em→ux
open Go renaming Call→tC,Code→vn,Deferred→tJ,Exit→uD,FuncId→yao,Loop→td,Next→yaO,Obj→tH,Oper→yZ,Operand→xC,Program→xa,RoundIn→ybb,TypeId→yH,Value→yj,World→ym
open List renaming countP_cons→ybd,getD_eq_getElem?_getD→yM,getElem?_cons_zero→vU,getElem?_eq_some_iff→wD,length_append→yG,length_cons→yy,length_drop→we,length_nil→yO,length_take→yI,mem_append→xL,mem_cons→wJ,mem_cons_of_mem→xY,mem_cons_self→wM,size_toArray→uO
open Nat renaming add_mul→wS,beq→yz,ble→yK,blt→yQ,eq_of_beq_eq_true→yt,eq_of_mul_eq_mul_right→tX,eq_or_lt_of_le→vz,eq_zero_or_pos→xB,le_of_ble_eq_true→yB,le_of_lt_succ→yac,le_refl→yq,le_trans→xv,lt_of_lt_of_le→yV,lt_or_ge→vJ,lt_succ_self→tF,mul_le_mul_right→yS,strongRecOn→uB,testBit→uT,zero_add→yg,zero_le→uJ
open Ne renaming symm→ybY
open Option renaming bind_some→xX,getD_some→uL
open Option.some renaming injEq→ye
open Prod.mk renaming injEq→yr
namespace VE
section
open Go
section
variable {O:bl} {m:Mp} {S:Nat->Prop} {w:ym} {hp:Hp} {ct:Nat}
def aaW (hh:aV O m S w hp ct) (id:Nat):aV O m S w (dJ hp id) ct:=by
 have sub:∀i o,ao (dJ hp id) i=some o->ao hp i=some o:=fun i o h=>by
  rw [I5] at h
  grind
 exact ⟨fun i o p h hm=>hh.obj i o p (sub i o h) hm,hh.lt,fun i j oi oj pi pj hi hj=>hh.inj i j oi oj pi pj (sub i oi hi) (sub j oj hj),hh.slt,hh.blt,hh.low,hh.lj,hh.gH,fun i o h=>hh.aU i o (sub i o h)⟩
def ace {id b:Nat} (h:eE m (dJ hp id) b):eE m hp b:=by
 obtain ⟨i,o,p,h1,h2,h3⟩:=h;rw [I5] at h1;by_cases hc:id=i
 ·grind
 ·simp only [hc,xn] at h1;exact ⟨i,o,p,h1,h2,h3⟩
def YQ (hh:aV O m S w hp ct) {id:Nat} {o:Obj} {p:Pl} (hg:ao hp id=some o) (hm:m id=some p):¬eE m (dJ hp id) p.b:=by
 rintro ⟨i,o',q,h1,h2,h3⟩;rw [I5] at h1;by_cases hc:id=i
 ·grind
 ·simp only [hc,xn] at h1;exact hc (hh.inj i id o' o q p h1 hg h2 hm h3).symm
def arf {ah:Hp} (hd:kO hp ah) {b:Nat} (h:eE m ah b):eE m hp b:=by
 obtain ⟨i,o,p,h1,h2,h3⟩:=h
 have:=hd i
 rw [h1] at this
 cases hq:ao hp i with
 | none=>rw [hq] at this;cases this
 | some q=>exact ⟨i,q,p,hq,h2,h3⟩
def Zf {lo:Nat} {v v':AV} {ah:Hp} {n:Nat} (hh:aV O m S w hp ct) (hf:freeze n hp v=some (v',ah)) {u:yj} (hv:ai O.ae m S w v u):
  ∃S',aV O m S' w ah ct/\(∀b,S b->S' b)/\(∀b,S' b->S b\/eE m hp b)/\a7 v'=true/\ai O.ae fE S' w v' u/\iV O.ae S' w lo v' u []:=by
 obtain ⟨h1,h2,h3⟩:=Sv (O:=O) hf;obtain ⟨S',g1,g2,g3⟩:=ab3 hh h1 (fun id o p ho hm=>by
  have:=h2 id
  rw [ho] at this
  cases hq:ao hp id with
  | none=>rw [hq] at this;cases this
  | some q=>exact ⟨q,rfl⟩) (yq _) (fun id o ho=>(by
  have:=h2 id
  rw [ho] at this
  cases hq:ao hp id with
  | none=>rw [hq] at this;cases this
  | some q=>exact hh.aU id q hq))
 obtain ⟨k1,k2⟩:=h3 ah m S' w ct df.refl g1;have hr:=k1 u (mv (fun _ _ h=>h) g2 (fun _ _=>rfl) v u hv);have bk:ai O.ae fE S' w v' u:=rH (fun _ h=>h) (fun _ _=>rfl) v' u k2 hr;refine ⟨S',g1,g2,g3,k2,bk,?_⟩
 cases v' with
 | bV _ _ _ _=>simp [a7] at k2
 | _=>exact ⟨rfl,bk,k2⟩
def ani {S':Nat->Prop} {lo:Nat} {v:AV} {u:yj} {bs:List Nat} (hS:∀b,S b->S' b) (hn:∀b,b∈bs->¬S' b) (h:iV O.ae S w lo v u bs):iV O.ae S' w lo v u bs:=by
 cases v with
 | bV ex sz n cs=>
  obtain ⟨b,o,c,arr,t,rfl,rfl,g1,g2,g3,g4,g5,g6,g7,g8,g9⟩:=h;exact ⟨b,o,c,arr,t,rfl,rfl,g1,g2,g3,hn b (by simp),g5,g6,g7,Di hS (fun _ _=>rfl) cs b o g9 rfl g8,g9⟩
 | _=>simp only [iV] at h ⊢;exact ⟨h.1,rH hS (fun _ _=>rfl) _ _ h.2.2 h.2.1,h.2.2⟩
def Z2 {lo:Nat} {v v':AV} {ah:Hp} {n:Nat} (hh:aV O m S w hp ct) (hf:mZ n hp v=some (v',ah)) {u:yj} (hv:ai O.ae m S w v u) (bj:∀b,eE m hp b->lo<=b):
  ∃S' bs,aV O m S' w ah ct/\(∀b,S b->S' b)/\(∀b,S' b->S b\/eE m hp b)/\iV O.ae S' w lo v' u bs/\bs.Nodup/\(∀b,b∈bs->eE m hp b/\¬eE m ah b)/\(∀b,eE m ah b->eE m hp b):=by
 have frozen:freeze n hp v=some (v',ah)->∃S' bs,aV O m S' w ah ct/\(∀b,S b->S' b)/\(∀b,S' b->S b\/eE m hp b)/\iV O.ae S' w lo v' u bs/\bs.Nodup/\(∀b,b∈bs->eE m hp b/\¬eE m ah b)/\(∀b,eE m ah b->eE m hp b):=by
  intro hz;obtain ⟨S',g1,g2,g3,g4,g5,g6⟩:=Zf (lo:=lo) hh hz hv
  exact ⟨S',[],g1,g2,g3,g6,by simp,by simp,fun b hb=>arf (Sv (O:=O) hz).2.1 hb⟩
 unfold mZ at hf
 split at hf
 ·rename_i id o k
  split at hf
  ·rename_i ex sz cs hg
   cases hc:yK (o+k*sz) cs.length with
   | false=>rw [hc] at hf;cases hf
   | true=>
    rw [hc] at hf;obtain ⟨rfl,rfl⟩:=hf;have hle:=yB hc;obtain ⟨p,c,hm,rfl,h1,h2⟩:=hv;obtain ⟨p',arr,t,g1,g2,g3,g4,g5,g6,g7,g8,g9,g10⟩:=hh.obj id _ _ hg hm;rw [hm] at g1;injection g1 with g1
    subst g1;rw [g3] at h2;refine ⟨S,[p.b],aaW hh id,fun _ h=>h,fun _ h=> .inl h,?_,by simp,?_,fun b hb=>ace hb⟩
    ·refine ⟨p.b,p.o+o,c,arr,t,rfl,rfl,h1,?_,bj _ (JO hg hm),g9 rfl,g2,?_,by omega,?_,Bv _ (zW _ _ (g8 rfl))⟩
     ·intro hx;simp only [yi] at hx;have e1:=yt hx.2;have e2:=Ae.1 hx.1.2;have e3:=g6 hx.1.1
      have:c*sz=k*sz:=by omega
      exact tX e2 this
     ·simp only [slice,yI,we];omega
     ·exact Di (fun _ h=>h) (fun _ _=>rfl) _ _ _ (Bv _ (zW _ _ (g8 rfl))) rfl (By _ _ _ _ (rE _ _ _ _ g7))
    ·intro b hb;simp only [List.mem_singleton] at hb;subst hb;exact ⟨JO hg hm,YQ hh hg hm⟩
  ·grind
 ·grind
def Zg {lo n:Nat}:∀{vs eD:List AV} {us:List yj} {hp ah:Hp} {S:Nat->Prop},aV O m S w hp ct->Aa n hp vs=some (eD,ah)->aA O.ae m S w vs us->(∀b,eE m hp b->lo<=b)->
  ∃S' bs,(∀b,S b->S' b)/\(∀b,S' b->S b\/eE m hp b)/\ma O.ae S' w lo eD us bs/\bs.Nodup/\(∀b,b∈bs->eE m hp b)/\(∀b,S' b->b<w.heap.size)
 | [],eD,us,hp,ah,S,hh,hf,hv,bj=>by
  obtain ⟨rfl,rfl⟩:=hf;exact ⟨S,[],fun _ h=>h,fun _ h=> .inl h,by simp only [ma];exact ⟨hv,by trivial⟩,by simp,by simp,hh.slt⟩
 | v::r,eD,us,hp,ah,S,hh,hf,hv,bj=>by
  simp only [Aa] at hf
  cases h1:mZ n hp v with
  | none=>simp [h1] at hf
  | some q=>
   obtain ⟨v1,a6⟩:=q;simp only [h1] at hf
   cases h2:Aa n a6 r with
   | none=>simp [h2] at hf
   | some q2=>
    simp only [h2,ye,yr] at hf;obtain ⟨rfl,rfl⟩:=hf;obtain ⟨u,t,rfl,fp,dM⟩:=hv;obtain ⟨S1,b1,k1,k2,k3,k4,k5,k6,k7⟩:=Z2 (lo:=lo) hh h1 fp bj;obtain ⟨S2,b2,g1,g2,g3,g4,g5,g6⟩:=Zg (us:=t) k1 h2 (iv (fun _ _ h=>h) k2 (fun _ _=>rfl) _ _ dM) (fun b hb=>bj b (k7 b hb));have Vq:∀b,b∈b1->¬S2 b:=by
     intro b hb hs;rcases g2 b hs with h | h
     ·cases v1 with
      | bV ex sz n cs=>
       simp only [iV] at k4
       grind
      | _=>simp only [iV] at k4;rw [k4.1] at hb;cases hb
     ·grind
    refine ⟨S2,b1++b2,fun b hb=>g1 b (k2 b hb),fun b hb=>?_,?_,?_,?_,g6⟩
    ·grind
    ·simp only [ma];exact ⟨u,t,b1,b2,rfl,rfl,ani g1 Vq k4,g3⟩
    ·grind
    ·grind
def SA {lo:Nat}:∀{cs:List AV} {us:List yj},aH cs=true->aA O.ae fE S w cs us->ma O.ae S w lo cs us []
 | [],us,_,h=>by simp only [aA] at h;exact ⟨h,by trivial⟩
 | c::r,us,hp,h=>by
  obtain ⟨u,t,rfl,h1,h2⟩:=h;simp only [aH,yi] at hp;refine ⟨u,t,[],[],rfl,rfl,?_,SA hp.2 h2⟩
  cases c with
  | bV _ _ _ _=>simp [a7] at hp
  | _=>exact ⟨rfl,h1,hp.1⟩
def anj {lo:Nat} {v r:AV} {u:yj} (hh:aV O m S w hp ct) (hr:result hp v=some r) (hv:ai O.ae m S w v u) (bj:∀b,eE m hp b->lo<=b):
  ∃S',(∀b,S b->S' b)/\(∀b,S' b->S b\/eE m hp b)/\(∀b,S' b->b<w.heap.size)/\pq O.ae S' w lo r u:=by
 unfold result at hr
 split at hr
 ·rename_i vs
  split at hr
  ·cases h1:Aa deep hp vs with
   | none=>simp [h1] at hr
   | some q=>
    simp only [h1,ye] at hr;subst hr;obtain ⟨us,rfl,hv⟩:=hv;obtain ⟨S',bs,g1,g2,g3,g4,g5,g6⟩:=Zg (lo:=lo) hh h1 hv bj;exact ⟨S',g1,g2,g6,us,bs,rfl,g3,g4⟩
  ·cases h1:freeze deep hp (.az vs) with
   | none=>simp [h1] at hr
   | some q=>
    obtain ⟨v',ah⟩:=q;simp only [h1,ye] at hr;subst hr;obtain ⟨S',g1,g2,g3,g4,g5,g6⟩:=Zf (lo:=lo) hh h1 hv;refine ⟨S',g2,g3,g1.slt,?_⟩
    cases v' with
    | az cs=>
     obtain ⟨xs,rfl,g5⟩:=g5;exact ⟨xs,[],rfl,SA (by simpa [a7] using g4) g5,by simp⟩
    | _=>exact ⟨[],g6⟩
 ·rename_i QF
  cases h1:mZ deep hp v with
  | none=>simp [h1] at hr
  | some q=>
   obtain ⟨v',ah⟩:=q;simp only [h1,ye] at hr;subst hr;obtain ⟨S',bs,g1,g2,g3,g4,_⟩:=Z2 (lo:=lo) hh h1 hv bj;refine ⟨S',g2,g3,g1.slt,?_⟩
   cases v' with
   | az cs=>
    obtain ⟨rfl,h2,h3⟩:=g4;obtain ⟨xs,rfl,h2⟩:=h2;exact ⟨xs,[],rfl,SA (by simpa [a7] using h3) h2,by simp⟩
   | _=>exact ⟨bs,g4⟩
end
end
section
open Go
def WF (ro:Option Nat):Fence:={Fence.wide with round:=ro}
section
variable {O:bl}
def adi (O:bl) (hp:Hp) (ct:Nat) (l:Nat) (xs:List AV) (v:AV) (ah:Hp) (aK:Nat):Prop:=
 ∀(m:Mp) (S:Nat->Prop) (w:ym) (args:Array yj) (p:Pl),aV O m S w hp ct->m l=some p->aA O.ae m S w xs args.toList->
  ∃f tmps assign body,(Instr.yield p.b args).run O.P w= .ok (.round p.b f tmps assign body) w/\ybb Fence.wide 0 O.P p.b f tmps assign body w (zY O m S w hp ct v ah aK)
structure oW (O:bl) (run:cG):Prop where
 pure:∀n ax r,bK O.prog O.aS run n ax=some r->fc O n ax r
 heap:∀hp ct n ax v ah aK,ix O.prog O.aS run hp ct n ax=some (v,ah,aK)->B8 O n hp ct ax v ah aK
 round:∀hp ct l xs v ah aK,oU run hp ct l xs=some (v,ah,aK)->adi O hp ct l xs v ah aK
end
section
variable {P:xa} {o:yZ} {a:Act} {w:ym} {ro:Option Nat} {next:Act->ym->Prop} {Q:uD->Act->ym->Prop}
def Nx {c:tC} {f:xC} (ho:o.op= .call c) (hc:c.callee= .value f) {g:yao} {fi ca:Array yj} (hf:a.eval f= .func (.func g) fi ca) {R:Ending->ym->Prop}
  (h:BO P g (fi++c.args.map a.eval++ca) w R) (hn:∀e w',R e w'->∃u,e= .returned u/\next (a.put o.dst u) w'):o.wpIn (WF ro) 0 P a w next Q:=by
 have fR:(o.semAt ro a.eval).run P w=(callFunc g (fi++c.args.map a.eval++ca)).run P w:=by
  rw [Oper.semAt_eq _ _ _ (fun c' h'=>by rw [ho] at h';cases h')];simp only [execOp,ho,resolve,hc,Deferred.ofValue,hf,Sem.run_bind,Sem.run_pure,Result.andThen_ok,invoke]
 refine ⟨fun _ _=>trivial,?_⟩;show o.uponIn (WF ro) 0 P a next Q ((o.semAt ro a.eval).run P w)
 rw [fR];rcases h with ⟨h1,h2⟩ | ⟨u,w',h1,h2⟩
 ·rw [h1,Oper.uponIn_enter];refine ⟨fun h=>by simp [WF,Fence.wide] at h,?_⟩;have h3:CallsIn (WF ro) 0 P g (fi++c.args.map a.eval++ca) w R:=h2;refine CallsIn.mono h3 (fun e w' he=>?_);obtain ⟨u,rfl,hq⟩:=hn e w' he;exact hq
 ·rw [h1];obtain ⟨u',e,hq⟩:=hn _ _ h2;injection e with e
  subst e;exact hq
def ao8 {c:tC} {f:xC} (ho:o.op= .call c) (hc:c.callee= .value f) {l:Nat} (hf:a.eval f= .func (.yield l) #[] #[]) {R:Ending->ym->Prop} {g:yao} {tmps:Array yj} {assign body:vn}
  (hy:(Instr.yield l (c.args.map a.eval)).run P w= .ok (.round l g tmps assign body) w) (h:ybb Fence.wide 0 P l g tmps assign body w R) (hn:∀e w',R e w'->∃u,e= .returned u/\next (a.put o.dst u) w'):o.wpIn (WF ro) 0 P a w next Q:=by
 have fR:(o.semAt ro a.eval).run P w= .ok (.round l g tmps assign body) w:=by
  rw [Oper.semAt_eq _ _ _ (fun c' h'=>by rw [ho] at h';cases h')];simp only [execOp,ho,resolve,hc,Deferred.ofValue,hf,Sem.run_bind,Sem.run_pure,Result.andThen_ok,invoke,Array.empty_append];exact hy
 refine ⟨fun _ _=>trivial,?_⟩;show o.uponIn (WF ro) 0 P a next Q ((o.semAt ro a.eval).run P w)
 rw [fR,Oper.uponIn_round];refine ⟨fun h=>by simp [WF,Fence.wide] at h,?_⟩;have h3:ybb (WF ro) 0 P l g tmps assign body w R:=h;refine RoundIn.mono h3 (fun e w' he=>?_);obtain ⟨u,rfl,hq⟩:=hn e w' he;exact hq
def JP {n:yaO} {u:yj} {w':ym} (hd:∀c,o.op≠.defer c) (h:(execOp a.eval o).run P w= .ok n w') (hn:n= .value u\/(n= .skip/\u=undef)) (hq:next (a.put o.dst u) w'):o.wpIn (WF ro) 0 P a w next Q:=by
 refine ⟨fun _ _=>trivial,?_⟩;show o.uponIn (WF ro) 0 P a next Q ((o.semAt ro a.eval).run P w)
 rw [Oper.semAt_eq _ _ _ hd,h];rcases hn with rfl | ⟨rfl,rfl⟩
 ·exact hq
 ·exact hq
end
def qQ (P:xa) (H:Hint) (q:Op) (o:yZ):Prop:=
 (∃k,q=aX P H k o)\/(∃c f rs,o.op= .call c/\c.callee= .value f/\q= .jv rs (aP H f) (iB H c.args.toList))\/
  (∃t x y sz rs,o.op= .store t x y/\cN P t=some sz/\q= .lB rs sz (aP H x) (aP H y))\/
  (∃k rs sz b x y,Op.cX sz b x y=aX P H k o/\q= .mg rs sz b x y)\/∃k sz b x y,Op.cX sz b x y=aX P H k o/\q= .pG sz b x y
def jx:Op->Op
 | .jv _ f xs=> .jv [] f xs
 | .lB _ s x v=> .st s x v
 | .mg _ s b x v=> .cX s b x v
 | o=>o
section
variable {O:bl} {H:Hint} {m:Mp} {S:Nat->Prop} {w:ym} {tm:Env} {a:Act} {hp:Hp} {ct:Nat} {self:cG} {ro:Option Nat} {next:Act->ym->Prop} {Q:uD->Act->ym->Prop}
def Ov {o:yZ} {k:Nat} {md:Md} {x:X} {xs:List X} (h:aX O.P H k o= .call md x xs) (hb:x≠.c .undef):∃c f,o.op= .call c/\c.callee= .value f/\x=aP H f/\xs=iB H c.args.toList:=by
 have nb:bad= .call md x xs->False:=fun h=>by simp only [bad,Op.call.injEq] at h;exact hb h.2.1.symm
 cases ho:o.op with
 | call c=>
  obtain ⟨callee,args,ts⟩:=c;simp only [aX,ho] at h
  split at h
  ·rename_i f;cases hm:H.mode k<;>simp only [hm,Op.call.injEq,reduceCtorEq] at h
   all_goals exact ⟨_,f,rfl,rfl,h.2.1.symm,h.2.2.symm⟩
  ·repeat' split at h
   all_goals first
    | exact (nb h).elim
    | (cases h;done)
    | (revert h;generalize yz _ _=bb;intro h;cases bb<;>first | exact (nb h).elim | (cases h;done))
  ·exact (nb h).elim
 | binOp op t x' y ty=>
  cases op<;>simp only [aX,ho,oY,qj] at h
  case eql=>
        repeat' split at h
        all_goals first
         | exact (nb h).elim
         | (cases h;done)
         | (cases cA:(O.P.stoodInHeld t||O.P.eqGuardType O.P.depth t)<;>rw [cA] at h<;>first | exact (nb h).elim | (cases h;done))
  case neq=>
        repeat' split at h
        all_goals first
         | exact (nb h).elim
         | (cases h;done)
         | (cases cA:(O.P.stoodInHeld t||O.P.eqGuardType O.P.depth t)<;>rw [cA] at h<;>first | exact (nb h).elim | (cases h;done))
  all_goals cases h
 | buildSlice t n parts=>
  simp only [aX,ho] at h
  repeat' split at h
  all_goals first
   | exact (nb h).elim
   | (cases h;done)
   | (revert h;generalize yK _ _=bb;intro h;cases bb<;>first | exact (nb h).elim | (simp only [yD] at h;cases h;done))
 | makeMap t r=>
  cases r<;>simp only [aX,ho] at h
  ·repeat' split at h
   all_goals first
    | exact (nb h).elim
    | (cases h;done)
  ·exact (nb h).elim
 | next x' b=>
  cases b<;>simp only [aX,ho] at h
  ·exact (nb h).elim
  ·cases h
 | _=>
  simp only [aX,ho] at h
  (repeat' split at h)
  all_goals first
   | contradiction
   | exact (nb h).elim
   | (cases h;done)
def amg {o:yZ} {k:Nat} {r:AV×Hp×Nat} (hv:bg O.prog O.aS self tm hp ct (aX O.P H k o)=some r):∀c,o.op≠.defer c:=by
 intro c ho;simp [aX,ho,bad,bg,er,aC] at hv
end
end
section
open Go
section
variable {O:bl} {H:Hint} {m:Mp} {S:Nat->Prop} {w:ym} {tm:Env} {a:Act} {hp:Hp} {ct cq:Nat}
def iS (tm:Env) (hp:Hp) (ct:Nat):Op->Option (AV×Obj)
 | .cX sz b x y=>n8 hp ct sz b (aC tm x) (iP hp sz (aC tm y))
 | _=>none
def Uh (O:bl) (m:Mp) (S:Nat->Prop) (w:ym) (a:Act) (ct:Nat) (o:yZ) (v:AV) (b:Obj):Prop:=
 ∃u g p,(execOp a.eval o).run O.P w= .ok (.value u) (w.drew.alloc g)/\p.b=w.heap.size/\¬je b/\
  ∀m',dz m m'->m' ct=some p->fH O m' S (w.drew.alloc g) ct b/\ai O.ae m' S (w.drew.alloc g) v u
def ao9 {e:yH} {z:yj} {sz need cap:Nat} {cs:List AV} {us:List yj} (hh:aV O m S w hp cq) (hr:aA O.ae m S w cs us) (hl:us.length=need*sz) (hz:z.cells.size=sz)
  (D0:Bool) (W5:D0=true->aH cs=true) (hc:need<=cap):
  let w':=w.drew.alloc (.cells (us.toArray++Builtin.zeroCells z.cells (cap-need)) e)
  let p:Pl:=⟨w.heap.size,0,cap*sz,sz⟩
  ∀m',dz m m'->m' ct=some p->fH O m' S w' ct (.cells true D0 false sz cs):=by
 intro w' p m' hm hi;have aJ:fZ S w w':=fun b hb=>by
  have:=hh.slt b hb
  exact RowKit.Below.heap_alloc w.drew _ b (by simpa using this)
 have jA:w'.heap[w.heap.size]? =some (.cells (us.toArray++Builtin.zeroCells z.cells (cap-need)) e (0,0)):=heap_alloc_new w.drew _;have jk:=iw _ _ hr;refine ⟨p,_,e,hi,jA,rfl,?_,?_,by simp,?_,W5,?_,by simp⟩
 ·show cs.length<=cap*sz
  rw [<-jk,hl];exact yS _ hc
 ·show 0+cap*sz<=_
  rw [Array.size_append,uO,size_zeroCells,hz,hl,<-wS];rw [yg];exact yS _ (by omega)
 ·refine NI jA cs us 0 (iv hm (fun _ h=>h) aJ _ _ hr) (fun j u hj=>?_);rw [yg,Array.getElem?_append_left (by rw [uO];exact (wD.1 hj).1),List.getElem?_toArray]
  exact hj
 ·intro _ hS
  have:=hh.slt _ hS
  simp [p] at this
def nZ {a b:Nat} (h:yQ a b=true):a<b:=yB h
def apa {o:yZ} {b':yH} {t u e:yH} {sz bX:Nat} {z:AV} {x y:xC} {v:AV} {ef:Obj} (hH:fO O H) (ht:cf O m S w tm a.tmps) (hh:aV O m S w hp cq)
  (fR:(execOp a.eval o).run O.P w=((do pure (.value (<-Builtin.append_ #[t,u] b' #[a.eval x,a.eval y])):Sem yaO)).run O.P w)
  (zE:O.P.underlying t=some (.slice e)) (hu:(∃e',O.P.underlying u=some (.slice e'))\/O.P.underlying u=some .string) (hs:cN O.P e=some sz) (hb:zx O.P e=some bX) (hz:mC O.P e=some z) (r8:(cellsOf z).length=sz)
  (hv:iS tm hp ct (.cX sz bX (aP H x) (aP H y))=some (v,ef)):Uh O m S w a ct o v ef:=by
 simp only [iS] at hv;obtain ⟨ti,zv,r9,rfl,rfl,L6,rfl⟩:=ab6 hs hb hz;have aR:∀u' w',(Builtin.append_ #[t,u] b' #[a.eval x,a.eval y]).run O.P w= .ok u' w'->(execOp a.eval o).run O.P w= .ok (.value u') w':=fun u' w' h=>by
  rw [fR,Sem.run_bind,h];rfl
 have Ez:zv.cells.size=ti.size:=by
  have:=iw _ _ (Df (ae:=O.ae) (m:=m) (S:=S) (w:=w) zv)
  rw [<-r8,<-this];simp
 cases lk:iP hp ti.size (aC tm (aP H y)) with
 | none=>simp [lk,n8] at hv
 | some q=>
  obtain ⟨n,new⟩:=q;rw [lk] at hv;obtain ⟨news,gO,dE⟩:=ZW hh (cE hH ht y) lk;have Hh:=iw _ _ gO;have rx:=cE hH ht x;cases hx:aC tm (aP H x)<;>rw [hx] at hv rx<;>simp only [n8,reduceCtorEq] at hv
  rename_i id o0 k;simp only [ai] at rx;obtain ⟨p,c,hm,ex,h1,h2⟩:=rx
  split at hv
  case h_2=>cases hv
  rename_i bS pu zz cs hg
  cases hc:(yz zz ti.size&&(yQ 0 n&&(yK (k+n) room&&(yK ((k+n)*ti.bytes) room&&(yz (o0+k*ti.size) cs.length&&yQ 0 ti.size))))) with
  | false=>rw [hc] at hv;cases hv
  | true=>
   rw [hc] at hv;simp only [yD,ye,yr] at hv;obtain ⟨rfl,rfl⟩:=hv;simp only [yi] at hc;have c0:=yt hc.1;have c5:=nZ hc.2.1;have c1:=yB hc.2.2.1;have c2:=yB hc.2.2.2.1;have c3:=yt hc.2.2.2.2.1;have c4:=nZ hc.2.2.2.2.2;simp only [room] at c1 c2;obtain ⟨p',arr,t',g1,g2,g3,g4,g5,g6,g7,g8,g9,g10⟩:=hh.obj id _ _ hg hm;rw [hm] at g1;injection g1 with g1
   subst g1;subst c0;rw [g3] at h2;have hce:=g6 rfl;have jU:c=k:=by
    have:c*ti.size=k*ti.size:=by omega
    exact tX c4 this
   subst jU;have A9:bR O.ae m S w (slice o0 (c*ti.size) cs) p.b (p.o+o0):=By _ _ _ _ (rE _ _ _ _ g7);obtain ⟨mI,f1,f2,f3⟩:=sC _ _ _ A9;have PI:(slice o0 (c*ti.size) cs).length=c*ti.size:=by simp only [slice,yI,we];omega
   have eJ:(pu&&aH new)=true->aH (slice o0 (c*ti.size) cs++new)=true:=fun h=>by
    simp only [yi] at h;exact Dg (Bv _ (zW _ _ (g8 h.1))) h.2
   have L7:Src O.P w ti.size c mI (.slice (some ⟨p.b,p.o+o0,none⟩) c c):=Fu (by omega) (fun j u hj=>by rw [oZ];exact f3 j u hj)
   have hr:=Nl (P:=O.P) (ty:=b') (w:=w) zE hu r9 L6 rfl L7 dE (by omega) c1 c2;have kD:=grownCap_ge w (c+n) c e;have jA:=ao9 (ct:=ct) (e:=e) (z:=zv) (cap:=grownCap w (c+n) c e) hh (mr f1 gO) (need:=c+n) (sz:=ti.size) (by rw [yG,f2,PI,dE.2.1,wS]) Ez (pu&&aH new) eJ kD;exact ⟨_,_,⟨w.heap.size,0,grownCap w (c+n) c e*ti.size,ti.size⟩,aR _ _ (by rw [ex];exact hr),rfl,by simp [je],fun m' hle hi=>⟨jA m' hle hi,by simp only [ai];exact ⟨_,_,hi,rfl,kD,by simp⟩⟩⟩
def amh {Hq:Hp} (hl:df hp Hq) {sz:Nat} {v:AV} {q:Nat×List AV} (h:iN hp sz v=some q):iN Hq sz v=some q:=by
 cases v<;>simp only [iN,reduceCtorEq] at h ⊢
 ·exact h
 ·exact h
 ·rename_i id o n
  cases hg:ao hp id with
  | none=>simp [hg] at h
  | some ob=>
   cases ob<;>simp only [hg,reduceCtorEq] at h
   obtain ⟨o',h1,r,rfl,_⟩:=hl id _ hg;simp only [h1];exact h
def ank {Hq:Hp} (hl:df hp Hq) {sz:Nat} {v:AV} {q:Nat×List AV} (h:iP hp sz v=some q):iP Hq sz v=some q:=by
 by_cases hs:∃b,v= .str b
 ·obtain ⟨b,rfl⟩:=hs;exact h
 ·have e:∀hp:Hp,iP hp sz v=iN hp sz v:=fun hp=>by
   cases v<;>first
    | rfl
    | exact absurd ⟨_,rfl⟩ hs
  rw [e] at h ⊢;exact amh hl h
def apb {Hq:Hp} (hl:df hp Hq) {sz b:Nat} {x y v:AV} {ef:Obj} (h:n8 hp ct sz b x (iP hp sz y)=some (v,ef)):n8 Hq ct sz b x (iP Hq sz y)=some (v,ef):=by
 cases hs:iP hp sz y with
 | none=>rw [hs] at h;simp [n8] at h
 | some q=>
  rw [ank hl hs];rw [hs] at h;obtain ⟨n,new⟩:=q;cases x<;>simp only [n8,reduceCtorEq] at h ⊢
  rename_i id o k
  cases hg:ao hp id with
  | none=>simp [hg] at h
  | some ob=>
   cases ob with
   | cells bS pu ex z cs=>
    cases ex with
    | false=>simp [hg] at h
    | true=>
     obtain ⟨o',h1,r,rfl,_⟩:=hl id _ hg;simp only [hg] at h;simp only [h1];exact h
   | _=>simp [hg] at h
def atJ {o:yZ} {k:Nat} {v:AV} {ef:Obj} (hH:fO O H) (ht:cf O m S w tm a.tmps) (hh:aV O m S w hp cq)
  (hv:iS tm hp ct (aX O.P H k o)=some (v,ef)):Uh O m S w a ct o v ef:=by
 have iU:∀{r:AV×Obj},iS tm hp ct bad=some r->False:=fun h=>by simp [bad,iS] at h
 cases ho:o.op with
 | call c=>
  obtain ⟨callee,args,ts⟩:=c;simp only [aX,ho] at hv
  split at hv
  ·cases LZ:H.mode k<;>simp [LZ,iS] at hv
  ·rename_i _ b
   split at hv
   ·rename_i x y t u gI nG;obtain ⟨al⟩:=args;obtain ⟨tl⟩:=ts;simp only at gI nG;subst gI;subst nG;obtain ⟨cs,fR⟩:=Fk (O:=O) (w:=w) (a:=a) ho;have Kx:(execOp a.eval o).run O.P w=((do pure (.value (<-Builtin.append_ #[t,u] o.type #[a.eval x,a.eval y])):Sem yaO)).run O.P w:=by
     rw [fR];simp [builtin]
    have key:∀{z:AV} {sz bX:Nat} {e:yH},O.P.underlying t=some (.slice e)->((∃e',O.P.underlying u=some (.slice e'))\/O.P.underlying u=some .string)->cN O.P e=some sz->zx O.P e=some bX->mC O.P e=some z->
      iS tm hp ct (bif yz (cellsOf z).length sz then .cX sz bX (aP H x) (aP H y) else bad)=some (v,ef)->Uh O m S w a ct o v ef:=by
     intro z sz bX e h1 h2 h3 h4 h5 h
     cases hb:yz (cellsOf z).length sz with
     | false=>rw [hb] at h;exact (iU h).elim
     | true=>
      rw [hb] at h;exact apa hH ht hh Kx h1 h2 h3 h4 h5 (yt hb) h
    split at hv
    ·rename_i e e' h1 h2
     split at hv
     ·rename_i sz bX z h3 h4 h5
      exact key h1 (.inl ⟨_,h2⟩) h3 h4 h5 hv
     ·exact (iU hv).elim
    ·rename_i e h1 h2
     split at hv
     ·rename_i sz bX z h3 h4 h5
      exact key h1 (.inr h2) h3 h4 h5 hv
     ·exact (iU hv).elim
    ·exact (iU hv).elim
   ·repeat' split at hv
    all_goals simp [iS,bad] at hv
   ·repeat' split at hv
    all_goals simp [iS,bad] at hv
   ·simp [iS] at hv
   ·simp [iS] at hv
   ·exact (iU hv).elim
  ·exact (iU hv).elim
 | next x b=>
  cases b<;>simp [aX,ho,iS,bad] at hv
 | binOp op t x y ty=>
  cases op<;>simp only [aX,ho,oY,qj] at hv
  case eql=>
        repeat' split at hv
        all_goals first
         | (simp [iS,bad] at hv;done)
         | (cases hb:(O.P.stoodInHeld t||O.P.eqGuardType O.P.depth t)<;>rw [hb] at hv<;>simp [iS,bad] at hv)
  case neq=>
        repeat' split at hv
        all_goals first
         | (simp [iS,bad] at hv;done)
         | (cases hb:(O.P.stoodInHeld t||O.P.eqGuardType O.P.depth t)<;>rw [hb] at hv<;>simp [iS,bad] at hv)
  all_goals simp [iS] at hv
 | buildSlice t n parts=>
  simp only [aX,ho] at hv
  repeat' split at hv
  all_goals first
   | (simp [iS,bad] at hv;done)
   | (
     revert hv;generalize yK _ _=bb;intro hv;cases bb<;>simp [iS,bad] at hv
     try (split at hv<;>simp [iS,bad] at hv))
 | makeMap t r=>
  cases r<;>simp only [aX,ho] at hv
  ·repeat' split at hv
   all_goals simp [iS,bad] at hv
  ·exact (iU hv).elim
 | _=>
  simp only [aX,ho] at hv
  (repeat' split at hv)
  all_goals first
   | contradiction
   | (simp [iS,bad] at hv;done)
end
end
section
open Go
section
variable {O:bl} {H:Hint} {m:Mp} {S:Nat->Prop} {w:ym} {tm:Env} {a:Act} {hp ah Hq:Hp} {ct aK cH:Nat} {self:cG} {ro:Option Nat} {next:Act->ym->Prop} {Q:uD->Act->ym->Prop}
def Z3 {g:tH} {p:Pl} {S':Nat->Prop} {base:Nat} (hh:aV O m S w Hq cH) (hi:m ct=none) (hb:p.b=w.heap.size) (h1:∀b,S b->S' b) (h2:∀b,S' b->S b\/b=w.heap.size):
  cp m S w Hq (fS m ct p) S' (w.alloc g) Hq base where
 os:=rfl
 tape:=rfl
 output:=rfl
 size:=by simp
 same b hb _:=alloc_old hb
 sub:=h1
 still b hb:=alloc_old (hh.slt b hb)
 new b hb:=(h2 b hb).imp (fun h=>h) (fun h=> .inr (by omega))
 own b hb:=by
  obtain ⟨i,o,q,g1,g2,g3⟩:=hb;by_cases hc:i=ct
  ·subst hc;rw [dW] at g2
   grind
  ·rw [eG hc] at g2;exact .inl ⟨i,o,q,g1,g2,g3⟩
 old i q _ h:=jO hi i q h
 loops b r hb:=⟨r,(alloc_old (xF.1 hb).1).trans hb⟩
def YR {Pb ax:List AV} {us:List yj} {a6:Hp} (hz:cD deep hp Pb=some (ax,a6)) (hl:df a6 Hq) (hh:aV O m S w Hq cH) (hr:aA O.ae m S w Pb us):aA O.ae fE S w ax us/\aH ax=true:=by
 obtain ⟨_,_,h3⟩:=Sd (O:=O) hz;obtain ⟨k1,k2⟩:=h3 Hq m S w cH hl hh;exact ⟨zX (fun _ h=>h) (fun _ _=>rfl) _ _ k2 (k1 us hr),k2⟩
def TD (hh:aV O m S w Hq cH):B7 O w:=⟨hh.lj,hh.gH⟩
def N2 (hH:fO O H) (ht:cf O m S w tm a.tmps) {f:xC} {g:Nat} {first cap:List AV} {args:Array xC} (hf:aC tm (aP H f)= .fn (.f g) first cap):
  ∃fi ca:Array yj,a.eval f= .func (.func (O.ae g)) fi ca/\aA O.ae m S w (first++(dH tm (iB H args.toList)++cap)) (fi++args.map a.eval++ca).toList:=by
 have rf:=cE hH ht f;rw [hf] at rf;obtain ⟨fi,ca,h1,h2,h3⟩:=rf;refine ⟨fi,ca,h1,?_⟩
 have:=mr h2 (mr (DD hH ht args.toList) h3)
 simp_all
def ami (hC:oW O self) (hH:fO O H) {o:yZ} {c:tC} {f:xC} (ho:o.op= .call c) (jn:c.callee= .value f) {g:Nat} {first cap ax:List AV} {a6:Hp} {r:AV}
  (hf:aC tm (aP H f)= .fn (.f g) first cap) (hz:cD deep hp (first++(dH tm (iB H c.args.toList)++cap))=some (ax,a6)) (hr:bK O.prog O.aS self g ax=some r)
  (hl:df a6 Hq) (ht:cf O m S w tm a.tmps) (hh:aV O m S w Hq cH)
  (hn:∀u S' w',aV O m S' w' Hq cH->ai O.ae m S' w' (shut r) u->cp m S w Hq m S' w' Hq cH->next (a.put o.dst u) w'):o.wpIn (WF ro) 0 O.P a w next Q:=by
 obtain ⟨fi,ca,h1,h2⟩:=N2 hH ht (args:=c.args) hf;obtain ⟨h3,h4⟩:=YR hz hl hh h2;refine Nx ho jn h1 (hC.pure g ax r hr w S _ (TD hh) hh.slt h3 h4) ?_;rintro e w' ⟨u,S',rfl,hw,g1,g2,g3,g4⟩;refine ⟨u,rfl,?_⟩;obtain ⟨S2,k1,k2,k3⟩:=ZZ g4 m;have hS:∀b,S b->S2 b:=fun b hb=>k1 b (g1 b hb)
 have L8:∀b,S2 b->S b\/w.heap.size<=b:=fun b hb=>(k2 b hb).elim (g2 b) (fun h=> .inr h.1)
 have hl:∀b,S2 b->b<w'.heap.size:=fun b hb=>(k2 b hb).elim (g3 b) (fun h=>h.2)
 exact hn u S2 w' (Dl hh hw hS L8 hl) k3 (BF hh hw hS L8)
def anl (hC:oW O self) (hH:fO O H) {o:yZ} {c:tC} {f:xC} (ho:o.op= .call c) (jn:c.callee= .value f) {g:Nat} {first cap ax:List AV} {a6:Hp} {r:AV}
  (hf:aC tm (aP H f)= .fn (.f g) first cap) (hz:cD deep hp (first++(dH tm (iB H c.args.toList)++cap))=some (ax,a6)) (hr:bK O.prog O.aS self g ax=some r)
  (hl:df (own a6 ct r).2.1 Hq) (eZ:(own a6 ct r).2.2<=cH) (aU:∀id o,ao hp id=some o->id<ct) (mi:∀id,ct<=id->id<(own a6 ct r).2.2->m id=none)
  (ht:cf O m S w tm a.tmps) (hh:aV O m S w Hq cH)
  (hn:∀u m' S' w',aV O m' S' w' Hq cH->dz m m'->(∀id p,m' id=some p->m id=some p\/(ct<=id/\id<(own a6 ct r).2.2))->ai O.ae m' S' w' (own a6 ct r).1 u->cp m S w Hq m' S' w' Hq cH->next (a.put o.dst u) w'):
  o.wpIn (WF ro) 0 O.P a w next Q:=by
 obtain ⟨fi,ca,h1,h2⟩:=N2 hH ht (args:=c.args) hf;obtain ⟨z1,z2,z3⟩:=Sd (O:=O) hz;have Vr:∀id o,ao a6 id=some o->id<ct:=fun id o h=>by
  have:=z2 id
  rw [h] at this
  cases hq:ao hp id with
  | none=>rw [hq] at this;cases this
  | some q=>exact aU id q hq
 have atK:∀id o,ao a6 id=some o->ao (own a6 ct r).2.1 id=some o:=fun id o h=>by
  cases r with
  | az vs=>exact Ou Vr id o h
  | _=>exact TC Vr id o h
 have mP:df a6 Hq:=fun id o h=>hl id o (atK id o h)
 obtain ⟨h3,h4⟩:=YR hz mP hh h2;refine Nx ho jn h1 (hC.pure g ax r hr w S _ (TD hh) hh.slt h3 h4) ?_;rintro e w' ⟨u,S',rfl,hw,g1,g2,g3,g4⟩;refine ⟨u,rfl,?_⟩;have CL:=Dl hh hw g1 g2 g3;have re:=BF (base:=cH) hh hw g1 g2;obtain ⟨m',S2,k1,k2,k3,k4,k5,k6⟩:=atI (lo:=w.heap.size) CL hl eZ Vr mi g4 hh.gH (fun j q hq=>hh.blt j q hq);refine hn u m' S2 w' k1 k2 (fun id p h=>(k3 id p h).imp (fun h=>h) (fun h=>⟨h.1,h.2.1⟩)) k4 ⟨hw.os,hw.tape,hw.output,hw.size,fun b hb _=>hw.same b hb,fun b hb=>k5 b (g1 b hb),fun b hb=>hw.same b (hh.slt b hb),?_,?_,fun i q _ h=>k2 i q h,re.loops⟩
 ·grind
 ·rintro b ⟨i,ob,q,q1,q2,q3⟩;rcases k3 i q q2 with h | h
  ·exact .inl ⟨i,ob,q,q1,h,q3⟩
  ·grind
def amj {P:xa} {H:Hint} {o:yZ} {k:Nat} {sz b:Nat} {x y:X} (hk:Op.pG sz b x y=aX P H k o):False:=by
 cases ho:o.op with
 | call c=>
  obtain ⟨callee,args,ts⟩:=c;simp only [aX,ho] at hk
  split at hk
  ·rename_i f;cases hm:H.mode k<;>simp only [hm,reduceCtorEq] at hk
  ·repeat' split at hk
   all_goals first
    | (cases hk;done)
    | (simp only [bad] at hk;cases hk;done)
    | (revert hk;generalize yz _ _=bb;intro hk;cases bb<;>simp [bad] at hk)
  ·simp only [bad] at hk;cases hk
 | binOp op t x' y ty=>
  cases op<;>simp only [aX,ho,oY,qj] at hk
  case eql=>
        repeat' split at hk
        all_goals first
         | (cases hk;done)
         | (simp only [bad] at hk;cases hk;done)
         | (cases cA:(P.stoodInHeld t||P.eqGuardType P.depth t)<;>rw [cA] at hk<;>simp [bad] at hk)
  case neq=>
        repeat' split at hk
        all_goals first
         | (cases hk;done)
         | (simp only [bad] at hk;cases hk;done)
         | (cases cA:(P.stoodInHeld t||P.eqGuardType P.depth t)<;>rw [cA] at hk<;>simp [bad] at hk)
  all_goals cases hk
 | buildSlice t n parts=>
  simp only [aX,ho] at hk
  repeat' split at hk
  all_goals first
   | (cases hk;done)
   | (simp only [bad] at hk;cases hk;done)
   | (revert hk;generalize yK _ _=bb;intro hk;cases bb<;>simp [bad] at hk)
 | makeMap t r=>
  cases r<;>simp only [aX,ho] at hk
  ·repeat' split at hk
   all_goals first
    | (cases hk;done)
    | (simp only [bad] at hk;cases hk;done)
  ·simp only [bad] at hk;cases hk
 | next x' b=>
  cases b<;>simp only [aX,ho] at hk
  ·simp only [bad] at hk;cases hk
  ·cases hk
 | _=>
  simp only [aX,ho] at hk
  (repeat' split at hk)
  all_goals first
   | contradiction
   | (cases hk;done)
   | (simp only [bad] at hk;cases hk;done)
def atL {P:xa} {H:Hint} {o:yZ} {sz b:Nat} {x y:X} (hq:qQ P H (.pG sz b x y) o):∃k,Op.cX sz b x y=aX P H k o:=by
 rcases hq with ⟨k,hk⟩ | ⟨_,_,_,_,_,h3⟩ | ⟨_,_,_,_,_,_,_,h3⟩ | ⟨_,_,_,_,_,_,_,h3⟩ | ⟨k,EC,b',x',y',h1,h3⟩
 ·exact (amj hk).elim
 ·cases h3
 ·cases h3
 ·cases h3
 ·simp only [Op.pG.injEq] at h3;obtain ⟨rfl,rfl,rfl,rfl⟩:=h3;exact ⟨k,h1⟩
def quiet_step (hC:oW O self) (hH:fO O H) {o:yZ} {q:Op} {v:AV} (hk:bC q<=1) (hq:qQ O.P H q o) (hd:∀c,o.op≠.defer c) (hv:bg O.prog O.aS self tm hp ct q=some (v,ah,aK)) (hl:df ah Hq) (eZ:aK<=cH)
  (aU:∀id o,ao hp id=some o->id<ct) (mi:∀id,ct<=id->id<aK->m id=none) (ht:cf O m S w tm a.tmps) (hh:aV O m S w Hq cH)
  (hn:∀u m' S' w',aV O m' S' w' Hq cH->dz m m'->(∀id p,m' id=some p->m id=some p\/(ct<=id/\id<aK))->ai O.ae m' S' w' v u->cp m S w Hq m' S' w' Hq cH->next (a.put o.dst u) w'):
  o.wpIn (WF ro) 0 O.P a w next Q:=by
 by_cases Ba:∃sz b x y,q= .pG sz b x y
 ·obtain ⟨sz,b,x,y,rfl⟩:=Ba;obtain ⟨k,jD⟩:=atL hq;simp only [bg] at hv
  cases hm:n8 hp ct sz b (aC tm x) (iP hp sz (aC tm y)) with
  | none=>simp [hm] at hv
  | some r=>
   obtain ⟨v1,ef⟩:=r;simp only [hm,ye,yr] at hv;obtain ⟨rfl,rfl,rfl⟩:=hv;have lD:df hp Hq:=fun id o' kz=>hl id o' (by
    rw [fX,yo (by have:=aU id o' kz;omega)];exact kz)
   have bk:iS tm Hq ct (aX O.P H k o)=some (v1,ef):=by rw [<-jD];exact apb lD hm
   have hi:=mi ct (yq _) (tF _);obtain ⟨u,g,p,h1,h2,h3,h4⟩:=atJ hH ht hh bk;have oF:Calm w w.drew:=⟨rfl,rfl,rfl,yq _,fun _ _=>rfl⟩;have iH:=Dl hh oF (S':=S) (fun _ h=>h) (fun _ h=> .inl h) hh.slt;have Hi:cp m S w Hq m S w.drew Hq cH:=BF hh oF (fun _ h=>h) (fun _ h=> .inl h);obtain ⟨S',k1,k2,k3⟩:=SV (i:=ct) (g:=g) (p:=p) iH hi eZ h2 (fun o' kz=>by
    obtain ⟨W0,g1,g2⟩:=hl ct ef (by rw [fX];simp)
    rw [kz] at g1;injection g1 with g1
    subst g1
    have:=R4 g2 dW (h4 _ (jO hi) dW).1 h3
    rwa [h2] at this)
   refine JP hd h1 (.inl rfl) (hn u _ S' _ k1 (jO hi) (fun id q hq=>?_) (mv (fun _ _ h=>h) k2 (fun _ _=>rfl) _ _ (h4 _ (jO hi) dW).2) (Hi.trans (Z3 iH hi h2 k2 k3)));by_cases hc:id=ct
   ·exact .inr (by omega)
   ·rw [eG hc] at hq;exact .inl hq
 have jD:∃k,q=aX O.P H k o:=by
  rcases hq with h | ⟨c,f,rs,_,_,rfl⟩ | ⟨_,_,_,_,_,_,_,rfl⟩ | ⟨_,_,_,_,_,_,_,rfl⟩ | ⟨_,_,_,_,_,_,h⟩
  ·exact h
  ·simp [bC] at hk
  ·simp [bC] at hk
  ·simp [bC] at hk
  ·exact (Ba ⟨_,_,_,_,h⟩).elim
 obtain ⟨k,hq⟩:=jD;have read:∀{v:AV},bB tm hp q=some v->df hp Hq->(∀u m' S' w',aV O m' S' w' Hq cH->dz m m'->(∀id p,m' id=some p->m id=some p\/(ct<=id/\id<aK))->ai O.ae m' S' w' v u->cp m S w Hq m' S' w' Hq cH->next (a.put o.dst u) w')->o.wpIn (WF ro) 0 O.P a w next Q:=by
  intro v hr hl hn;have bk:=ane hl hr;rw [hq] at bk;obtain ⟨u,h1,h2⟩:=ab2 hH ht hh bk;exact JP hd h1 (.inl rfl) (hn u m S w hh dz.refl (fun _ _ h=> .inl h) h2 cp.refl)
 have makes:∀{v:AV} {b:Obj},cW tm hp ct q=some (v,b)->df ((ct,b)::hp) Hq->ct+1<=cH->m ct=none->(∀u m' S' w',aV O m' S' w' Hq cH->dz m m'->(∀id p,m' id=some p->m id=some p\/(ct<=id/\id<ct+1))->ai O.ae m' S' w' v u->cp m S w Hq m' S' w' Hq cH->next (a.put o.dst u) w')->o.wpIn (WF ro) 0 O.P a w next Q:=by
  intro v b hr hl hc hi hn;rw [hq] at hr;have bk:cW tm Hq ct (aX O.P H k o)=some (v,b):=by rw [<-hr];exact IU (fun _ _=>rfl)
  obtain ⟨u,g,p,h1,h2,h3,h4⟩:=ara hH ht hh bk;obtain ⟨S',k1,k2,k3⟩:=SV (i:=ct) (g:=g) (p:=p) hh hi hc h2 (fun o' kz=>by
   obtain ⟨W0,g1,g2⟩:=hl ct b (by rw [fX];simp)
   rw [kz] at g1;injection g1 with g1
   subst g1
   have:=R4 g2 dW (h4 _ (jO hi) dW).1 h3
   rwa [h2] at this)
  refine JP hd h1 (.inl rfl) (hn u _ S' _ k1 (jO hi) (fun id q hq=>?_) (mv (fun _ _ h=>h) k2 (fun _ _=>rfl) _ _ (h4 _ (jO hi) dW).2) (Z3 hh hi h2 k2 k3));by_cases hc:id=ct
  ·exact .inr (by omega)
  ·rw [eG hc] at hq;exact .inl hq
 have cg:∀{q:Op},(match cW tm hp ct q with | some (v,b)=>some (v,(ct,b)::hp,ct+1) | none=>(none:gM))=some (v,ah,aK)->∃b,cW tm hp ct q=some (v,b)/\ah=(ct,b)::hp/\aK=ct+1:=by
  intro q h
  cases hm:cW tm hp ct q with
  | none=>simp [hm] at h
  | some r=>
   obtain ⟨v1,b⟩:=r;simp only [hm,ye,yr] at h;obtain ⟨rfl,rfl,rfl⟩:=h;exact ⟨b,rfl,rfl,rfl⟩
 have kF:∀{q:Op},(match bB tm hp q with | some v=>some (v,hp,ct) | none=>(none:gM))=some (v,ah,aK)->bB tm hp q=some v/\ah=hp/\aK=ct:=by
  intro q h
  cases hm:bB tm hp q with
  | none=>simp [hm] at h
  | some r=>
   simp only [hm,ye,yr] at h;obtain ⟨rfl,rfl,rfl⟩:=h;exact ⟨rfl,rfl,rfl⟩
 have JQ:(∃b,cW tm hp ct q=some (v,b)/\ah=(ct,b)::hp/\aK=ct+1)->o.wpIn (WF ro) 0 O.P a w next Q:=by
  rintro ⟨b,h1,rfl,rfl⟩;exact makes h1 hl eZ (mi ct (yq _) (tF _)) hn
 have atM:(bB tm hp q=some v/\ah=hp/\aK=ct)->o.wpIn (WF ro) 0 O.P a w next Q:=by
  rintro ⟨h1,rfl,rfl⟩;exact read h1 hl hn
 cases q with
 | st _ _ _=>simp [bC] at hk
 | q8 _ _ _ _=>simp [bC] at hk
 | rb _=>simp [bC] at hk
 | cX _ _ _ _=>simp [bC] at hk
 | oA _ _ _=>simp [bC] at hk
 | jv _ _ _=>simp [bC] at hk
 | lB _ _ _ _=>simp [bC] at hk
 | mg _ _ _ _ _=>simp [bC] at hk
 | pG sz b x y=>exact (Ba ⟨sz,b,x,y,rfl⟩).elim
 | box s x=>exact JQ (cg (by simp only [bg] at hv;exact hv))
 | nl n s z ps=>exact JQ (cg (by simp only [bg] at hv;exact hv))
 | pE s b z x y=>exact JQ (cg (by simp only [bg] at hv;exact hv))
 | A2=>exact JQ (cg (by simp only [bg] at hv;exact hv))
 | q9 x=>exact JQ (cg (by simp only [bg] at hv;exact hv))
 | call md x xs=>
  cases md with
  | heap=>simp [bC] at hk
  | dyn=>simp [bC] at hk
  | pure=>
   simp only [bg,er] at hv
   split at hv
   ·rename_i g first cap hx
    (try simp only at hv)
    cases hz:cD deep hp (first++(dH tm xs++cap)) with
    | none=>simp [hz] at hv
    | some z=>
     obtain ⟨ax,a6⟩:=z;simp only [hz] at hv
     cases hr:bK O.prog O.aS self g ax with
     | none=>simp [hr] at hv
     | some r=>
      simp only [hr,ye,yr] at hv;obtain ⟨rfl,rfl,rfl⟩:=hv;obtain ⟨c,f,ho,jn,rfl,rfl⟩:=Ov hq.symm (by rintro rfl;simp [aC] at hx);exact ami hC hH ho jn hx hz hr hl ht hh (fun u S' w' h1 h2 h3=>hn u m S' w' h1 dz.refl (fun _ _ h=> .inl h) h2 h3)
   ·simp at hv
   ·cases hv
  | own=>
   simp only [bg,er] at hv
   split at hv
   ·rename_i g first cap hx
    (try simp only at hv)
    cases hz:cD deep hp (first++(dH tm xs++cap)) with
    | none=>simp [hz] at hv
    | some z=>
     obtain ⟨ax,a6⟩:=z;simp only [hz] at hv
     cases hr:bK O.prog O.aS self g ax with
     | none=>simp [hr] at hv
     | some r=>
      simp only [hr,ye] at hv;obtain ⟨c,f,ho,jn,rfl,rfl⟩:=Ov hq.symm (by rintro rfl;simp [aC] at hx);have e1:v=(own a6 ct r).1:=by rw [hv]
      have e2:ah=(own a6 ct r).2.1:=by rw [hv]
      have e3:aK=(own a6 ct r).2.2:=by rw [hv]
      subst e1;subst e2;subst e3;exact anl hC hH ho jn hx hz hr hl eZ aU mi ht hh hn
   ·simp at hv
   ·cases hv
 | _=>exact atM (kF (by simp only [bg] at hv;exact hv))
end
end
section
open Go
section
variable {O:bl} {H:Hint} {m:Mp} {S:Nat->Prop} {w:ym} {tm:Env} {a:Act} {hp ah:Hp} {ct aK:Nat} {self:cG} {ro:Option Nat} {next:Act->ym->Prop} {Q:uD->Act->ym->Prop}
def cp.sZ {m':Mp} {S':Nat->Prop} {w':ym} {b b':Nat} (h:cp m S w hp m' S' w' ah b) (hb:b'<=b):cp m S w hp m' S' w' ah b':=
 ⟨h.os,h.tape,h.output,h.size,h.same,h.sub,h.still,h.new,h.own,fun i q hi hq=>h.old i q (by omega) hq,h.loops⟩
def atN {hp:Hp} {ct:Nat} {r:AV} (aU:∀id o,ao hp id=some o->id<ct):∀id o,ao (own hp ct r).2.1 id=some o->id<(own hp ct r).2.2:=by
 have hL:∀(vs:List AV) (hp:Hp) (ct:Nat),(∀id o,ao hp id=some o->id<ct)->∀id o,ao (ku hp ct vs).2.1 id=some o->id<(ku hp ct vs).2.2:=by
  intro vs
  induction vs with
  | nil=>intro hp ct h id o ho;exact h id o ho
  | cons v r ih=>intro hp ct h id o ho;exact ih _ _ (Jw h) id o ho
 cases r with
 | az vs=>exact hL vs hp ct aU
 | _=>exact Jw aU
def atO {hp:Hp} {ct:Nat} {r:AV} (aU:∀id o,ao hp id=some o->id<ct):∀id o,ao hp id=some o->ao (own hp ct r).2.1 id=some o:=by
 cases r with
 | az vs=>exact Ou aU
 | _=>exact TC aU
def atP {hp:Hp} {ct:Nat} {r:AV}:ct<=(own hp ct r).2.2:=by
 cases r with
 | az vs=>exact Ot
 | _=>exact Oq
def apc {hp:Hp} {ct:Nat} {r:AV}:∀id o,ao (own hp ct r).2.1 id=some o->id<ct->ao hp id=some o:=by
 have h1:∀(hp:Hp) (ct:Nat) (r:AV) id o,ao (fQ hp ct r).2.1 id=some o->id<ct->ao hp id=some o:=by
  intro hp ct r id o h hc;cases r<;>simp only [fQ] at h<;>try exact h
  rw [fX,yo (by omega)] at h;exact h
 have hL:∀(vs:List AV) (hp:Hp) (ct:Nat) id o,ao (ku hp ct vs).2.1 id=some o->id<ct->ao hp id=some o:=by
  intro vs
  induction vs with
  | nil=>intro hp ct id o ho _;exact ho
  | cons v r ih=>intro hp ct id o ho hc;exact h1 hp ct v id o (ih _ _ id o ho (by have:=Oq (hp:=hp) (ct:=ct) (r:=v);omega)) hc
 cases r with
 | az vs=>exact hL vs hp ct
 | _=>exact h1 hp ct _
structure jf (hp:Hp) (ct:Nat) (ah:Hp) (aK:Nat):Prop where
 le:df hp ah
 rh:ct<=aK
 lt:∀id o,ao ah id=some o->id<aK
 back:∀id o,ao ah id=some o->id<ct->∃o',ao hp id=some o'
def jf.refl (aU:∀id o,ao hp id=some o->id<ct):jf hp ct hp ct:=⟨df.refl,yq _,aU,fun _ o h _=>⟨o,h⟩⟩
def jf.trans {KZ:Hp} {aht:Nat} (h:jf hp ct ah aK) (k:jf ah aK KZ aht):jf hp ct KZ aht:=
 ⟨h.le.trans k.le,xv h.rh k.rh,k.lt,fun id o ho hi=>let ⟨o1,h1⟩:=k.back id o ho (yV hi h.rh);h.back id o1 h1 hi⟩
def Z4 {Pb ax:List AV} {a6:Hp} (hz:cD deep hp Pb=some (ax,a6)) (aU:∀id o,ao hp id=some o->id<ct):jf hp ct a6 ct:=by
 obtain ⟨z1,z2,_⟩:=Sd (O:=⟨default,⟨fun _=>none,fun _=>none⟩,fun _=>0,fun _=>none,fun _=>⟨0,fun _=>none,fun _=>[],fun _=>none,fun _=> .pure,fun _=>[]⟩,default⟩) hz;have hb:∀id o,ao a6 id=some o->∃o',ao hp id=some o':=fun id o h=>by
  have:=z2 id
  rw [h] at this
  cases hq:ao hp id with
  | none=>rw [hq] at this;cases this
  | some q=>exact ⟨q,rfl⟩
 exact ⟨z1,yq _,fun id o h=>let ⟨o',h'⟩:=hb id o h;aU id o' h',fun id o h _=>hb id o h⟩
def anm {r:AV} (aU:∀id o,ao hp id=some o->id<ct):jf hp ct (own hp ct r).2.1 (own hp ct r).2.2:=
 ⟨fun id o h=>⟨o,atO aU id o h,jF.refl o⟩,atP,atN aU,fun id o h hi=>⟨o,apc id o h hi⟩⟩
def YS {P:aM} {L:Lib} {q:Op} {v:AV} (hk:bC q<=1) (hv:bg P L self tm hp ct q=some (v,ah,aK)) (aU:∀id o,ao hp id=some o->id<ct):jf hp ct ah aK:=by
 have cg:∀{q:Op},(match cW tm hp ct q with | some (v,b)=>some (v,(ct,b)::hp,ct+1) | none=>(none:gM))=some (v,ah,aK)->jf hp ct ah aK:=by
  intro q h
  cases hm:cW tm hp ct q with
  | none=>simp [hm] at h
  | some r=>
   obtain ⟨v1,b⟩:=r;simp only [hm,ye,yr] at h;obtain ⟨rfl,rfl,rfl⟩:=h;refine ⟨fun id o ho=>⟨o,?_,jF.refl o⟩,by omega,fun id o ho=>?_,fun id o ho hi=>?_⟩
   ·rw [fX,yo (by have:=aU id o ho;omega)];exact ho
   ·rw [fX] at ho;by_cases hc:ct=id
    ·omega
    ·simp only [hc,xn] at ho;have:=aU id o ho;omega
   ·rw [fX,yo (by omega)] at ho;exact ⟨o,ho⟩
 have kF:∀{q:Op},(match bB tm hp q with | some v=>some (v,hp,ct) | none=>(none:gM))=some (v,ah,aK)->jf hp ct ah aK:=by
  intro q h
  cases hm:bB tm hp q with
  | none=>simp [hm] at h
  | some r=>
   simp only [hm,ye,yr] at h;obtain ⟨rfl,rfl,rfl⟩:=h;exact jf.refl aU
 cases bI:q with
 | st _ _ _=>simp [bI,bC] at hk
 | q8 _ _ _ _=>simp [bI,bC] at hk
 | rb _=>simp [bI,bC] at hk
 | cX _ _ _ _=>simp [bI,bC] at hk
 | oA _ _ _=>simp [bI,bC] at hk
 | jv _ _ _=>simp [bI,bC] at hk
 | lB _ _ _ _=>simp [bI,bC] at hk
 | mg _ _ _ _ _=>simp [bI,bC] at hk
 | pG sz b x y=>
  rw [bI] at hv;simp only [bg] at hv
  cases hm:n8 hp ct sz b (aC tm x) (iP hp sz (aC tm y)) with
  | none=>simp [hm] at hv
  | some r=>
   obtain ⟨v1,b⟩:=r;simp only [hm,ye,yr] at hv;obtain ⟨rfl,rfl,rfl⟩:=hv;refine ⟨fun id o ho=>⟨o,?_,jF.refl o⟩,by omega,fun id o ho=>?_,fun id o ho hi=>?_⟩
   ·rw [fX,yo (by have:=aU id o ho;omega)];exact ho
   ·rw [fX] at ho;by_cases hc:ct=id
    ·omega
    ·simp only [hc,xn] at ho;have:=aU id o ho;omega
   ·rw [fX,yo (by omega)] at ho;exact ⟨o,ho⟩
 | box s x=>exact cg (q:=q) (by rw [bI] at hv ⊢;simp only [bg] at hv;exact hv)
 | nl n s z ps=>exact cg (q:=q) (by rw [bI] at hv ⊢;simp only [bg] at hv;exact hv)
 | pE s b z x y=>exact cg (q:=q) (by rw [bI] at hv ⊢;simp only [bg] at hv;exact hv)
 | A2=>exact cg (q:=q) (by rw [bI] at hv ⊢;simp only [bg] at hv;exact hv)
 | q9 x=>exact cg (q:=q) (by rw [bI] at hv ⊢;simp only [bg] at hv;exact hv)
 | call md x xs=>
  subst bI;simp only [bg,er] at hv
  split at hv
  ·rename_i g first cap hx
   cases md with
   | heap=>simp [bC] at hk
   | dyn=>simp [bC] at hk
   | pure=>
    simp only at hv
    cases hz:cD deep hp (first++(dH tm xs++cap)) with
    | none=>simp [hz] at hv
    | some z=>
     obtain ⟨ax,a6⟩:=z;simp only [hz] at hv
     cases hr:bK P L self g ax with
     | none=>simp [hr] at hv
     | some r=>
      simp only [hr,ye,yr] at hv;obtain ⟨rfl,rfl,rfl⟩:=hv;exact Z4 hz aU
   | own=>
    simp only at hv
    cases hz:cD deep hp (first++(dH tm xs++cap)) with
    | none=>simp [hz] at hv
    | some z=>
     obtain ⟨ax,a6⟩:=z;simp only [hz] at hv
     cases hr:bK P L self g ax with
     | none=>simp [hr] at hv
     | some r=>
      simp only [hr,ye] at hv;have e2:ah=(own a6 ct r).2.1:=by rw [hv]
      have e3:aK=(own a6 ct r).2.2:=by rw [hv]
      subst e2;subst e3;have g1:=Z4 hz aU;exact g1.trans (anm g1.lt)
  ·cases md with
   | heap=>simp [bC] at hk
   | dyn=>simp [bC] at hk
   | _=>simp at hv
  ·cases hv
 | _=>exact kF (q:=q) (by rw [bI] at hv ⊢;simp only [bg] at hv;exact hv)
def N3 (hh:aV O m S w hp ct) (hg:jf hp ct ah aK):∃S',aV O m S' w ah aK/\(∀b,S b->S' b)/\(∀b,S' b->S b\/eE m hp b)/\∀base,cp m S w hp m S' w ah base:=by
 have hd:∀id o p,ao ah id=some o->m id=some p->∃o',ao hp id=some o':=fun id o p h hm=>hg.back id o h (hh.lt id p hm)
 obtain ⟨S',g1,g2,g3⟩:=ab3 hh hg.le hd hg.rh hg.lt;refine ⟨S',g1,g2,g3,fun base=>⟨rfl,rfl,rfl,yq _,fun _ _ _=>rfl,g2,fun _ _=>rfl,fun b hb=>(g3 b hb).imp (fun h=>h) .inl,?_,fun _ _ _ h=>h,fun _ r h=>⟨r,h⟩⟩⟩;rintro b ⟨i,o,p,h1,h2,h3⟩;obtain ⟨o',h4⟩:=hd i o p h1 h2;exact .inl ⟨i,o',p,h4,h2,h3⟩
def ape {q:Op} {v:AV} (hv:cR tm hp ct q=some (v,ah,aK)):ct<=aK:=by
 cases q<;>simp only [cR,reduceCtorEq] at hv
 all_goals
  grind
def SY {P:xa} {H:Hint} {o:yZ} {rs:List (Nat×Bool×Nat)} {x:X} {xs:List X} (hq:qQ P H (.jv rs x xs) o):∃c f,o.op= .call c/\c.callee= .value f/\x=aP H f/\xs=iB H c.args.toList:=by
 rcases hq with ⟨k,hk⟩ | ⟨c,f,rs',h1,h2,h3⟩ | ⟨_,_,_,_,_,_,_,h3⟩ | ⟨_,_,_,_,_,_,_,h3⟩ | ⟨_,_,_,_,_,_,h3⟩
 ·cases ho:o.op with
  | call c=>
   obtain ⟨callee,args,ts⟩:=c;simp only [aX,ho] at hk
   split at hk
   ·rename_i f;cases hm:H.mode k<;>simp only [hm,Op.jv.injEq,reduceCtorEq] at hk
    exact ⟨_,f,rfl,rfl,hk.2.1,hk.2.2⟩
   ·repeat' split at hk
    all_goals first
     | (cases hk;done)
     | (simp only [bad] at hk;cases hk;done)
     | (revert hk;generalize yz _ _=bb;intro hk;cases bb<;>simp [bad] at hk)
   ·simp only [bad] at hk;cases hk
  | binOp op t x' y ty=>
   cases op<;>simp only [aX,ho,oY,qj] at hk
   case eql=>
         repeat' split at hk
         all_goals first
          | (cases hk;done)
          | (simp only [bad] at hk;cases hk;done)
          | (cases cA:(P.stoodInHeld t||P.eqGuardType P.depth t)<;>rw [cA] at hk<;>simp [bad] at hk)
   case neq=>
         repeat' split at hk
         all_goals first
          | (cases hk;done)
          | (simp only [bad] at hk;cases hk;done)
          | (cases cA:(P.stoodInHeld t||P.eqGuardType P.depth t)<;>rw [cA] at hk<;>simp [bad] at hk)
   all_goals cases hk
  | buildSlice t n parts=>
   simp only [aX,ho] at hk
   repeat' split at hk
   all_goals first
    | (cases hk;done)
    | (simp only [bad] at hk;cases hk;done)
    | (revert hk;generalize yK _ _=bb;intro hk;cases bb<;>simp [bad] at hk)
  | makeMap t r=>
   cases r<;>simp only [aX,ho] at hk
   ·repeat' split at hk
    all_goals first
     | (cases hk;done)
     | (simp only [bad] at hk;cases hk;done)
   ·simp only [bad] at hk;cases hk
  | next x' b=>
   cases b<;>simp only [aX,ho] at hk
   ·simp only [bad] at hk;cases hk
   ·cases hk
  | _=>
   simp only [aX,ho] at hk
   (repeat' split at hk)
   all_goals first
    | contradiction
    | (cases hk;done)
    | (simp only [bad] at hk;cases hk;done)
 ·simp only [Op.jv.injEq] at h3;exact ⟨c,f,h1,h2,h3.2.1,h3.2.2⟩
 ·cases h3
 ·cases h3
 ·cases h3
def amk {P:xa} {H:Hint} {o:yZ} {k:Nat} {rs:List (Nat×Bool×Nat)} {sz:Nat} {x y:X} (hk:Op.lB rs sz x y=aX P H k o):False:=by
 cases ho:o.op with
 | call c=>
  obtain ⟨callee,args,ts⟩:=c;simp only [aX,ho] at hk
  split at hk
  ·grind
  ·repeat' split at hk
   all_goals first
    | (cases hk;done)
    | (simp only [bad] at hk;cases hk;done)
    | (revert hk;generalize yz _ _=bb;intro hk;cases bb<;>simp [bad] at hk)
  ·simp only [bad] at hk;cases hk
 | binOp op t x' y ty=>
  cases op<;>simp only [aX,ho,oY,qj] at hk
  case eql=>
        repeat' split at hk
        all_goals first
         | (cases hk;done)
         | (simp only [bad] at hk;cases hk;done)
         | (cases cA:(P.stoodInHeld t||P.eqGuardType P.depth t)<;>rw [cA] at hk<;>simp [bad] at hk)
  case neq=>
        repeat' split at hk
        all_goals first
         | (cases hk;done)
         | (simp only [bad] at hk;cases hk;done)
         | (cases cA:(P.stoodInHeld t||P.eqGuardType P.depth t)<;>rw [cA] at hk<;>simp [bad] at hk)
  all_goals cases hk
 | buildSlice t n parts=>
  simp only [aX,ho] at hk
  repeat' split at hk
  all_goals first
   | (cases hk;done)
   | (simp only [bad] at hk;cases hk;done)
   | (revert hk;generalize yK _ _=bb;intro hk;cases bb<;>simp [bad] at hk)
 | makeMap t r=>
  cases r<;>simp only [aX,ho] at hk
  ·repeat' split at hk
   all_goals first
    | (cases hk;done)
    | (simp only [bad] at hk;cases hk;done)
  ·simp only [bad] at hk;cases hk
 | next x' b=>
  cases b<;>simp only [aX,ho] at hk
  ·simp only [bad] at hk;cases hk
  ·cases hk
 | _=>
  simp only [aX,ho] at hk
  (repeat' split at hk)
  all_goals first
   | contradiction
   | (cases hk;done)
   | (simp only [bad] at hk;cases hk;done)
def aml {P:xa} {H:Hint} {o:yZ} {k:Nat} {rs:List (Nat×Bool×Nat)} {sz b:Nat} {x y:X} (hk:Op.mg rs sz b x y=aX P H k o):False:=by
 cases ho:o.op with
 | call c=>
  obtain ⟨callee,args,ts⟩:=c;simp only [aX,ho] at hk
  split at hk
  ·rename_i f;cases hm:H.mode k<;>simp only [hm,reduceCtorEq] at hk
  ·repeat' split at hk
   all_goals first
    | (cases hk;done)
    | (simp only [bad] at hk;cases hk;done)
    | (revert hk;generalize yz _ _=bb;intro hk;cases bb<;>simp [bad] at hk)
  ·simp only [bad] at hk;cases hk
 | binOp op t x' y ty=>
  cases op<;>simp only [aX,ho,oY,qj] at hk
  case eql=>
        repeat' split at hk
        all_goals first
         | (cases hk;done)
         | (simp only [bad] at hk;cases hk;done)
         | (cases cA:(P.stoodInHeld t||P.eqGuardType P.depth t)<;>rw [cA] at hk<;>simp [bad] at hk)
  case neq=>
        repeat' split at hk
        all_goals first
         | (cases hk;done)
         | (simp only [bad] at hk;cases hk;done)
         | (cases cA:(P.stoodInHeld t||P.eqGuardType P.depth t)<;>rw [cA] at hk<;>simp [bad] at hk)
  all_goals cases hk
 | buildSlice t n parts=>
  simp only [aX,ho] at hk
  repeat' split at hk
  all_goals first
   | (cases hk;done)
   | (simp only [bad] at hk;cases hk;done)
   | (revert hk;generalize yK _ _=bb;intro hk;cases bb<;>simp [bad] at hk)
 | makeMap t r=>
  cases r<;>simp only [aX,ho] at hk
  ·repeat' split at hk
   all_goals first
    | (cases hk;done)
    | (simp only [bad] at hk;cases hk;done)
  ·simp only [bad] at hk;cases hk
 | next x' b=>
  cases b<;>simp only [aX,ho] at hk
  ·simp only [bad] at hk;cases hk
  ·cases hk
 | _=>
  simp only [aX,ho] at hk
  (repeat' split at hk)
  all_goals first
   | contradiction
   | (cases hk;done)
   | (simp only [bad] at hk;cases hk;done)
def awD {P:xa} {H:Hint} {o:yZ} {sz:Nat} {x y:X} (hq:qQ P H (.st sz x y) o):∃t x' y',o.op= .store t x' y'/\cN P t=some sz/\x=aP H x'/\y=aP H y':=by
 obtain ⟨k,hk⟩:∃k,Op.st sz x y=aX P H k o:=by
  rcases hq with h | ⟨_,_,_,_,_,h⟩ | ⟨_,_,_,_,_,_,_,h⟩ | ⟨_,_,_,_,_,_,_,h⟩ | ⟨_,_,_,_,_,_,h⟩
  ·exact h
  ·cases h
  ·cases h
  ·cases h
  ·cases h
 cases ho:o.op with
 | call c=>
  obtain ⟨callee,args,ts⟩:=c;simp only [aX,ho] at hk
  split at hk
  ·rename_i f;cases hm:H.mode k<;>simp only [hm,reduceCtorEq] at hk
  ·repeat' split at hk
   all_goals first
    | (cases hk;done)
    | (simp only [bad] at hk;cases hk;done)
    | (revert hk;generalize yz _ _=bb;intro hk;cases bb<;>simp [bad] at hk)
  ·simp only [bad] at hk;cases hk
 | binOp op t x' y ty=>
  cases op<;>simp only [aX,ho,oY,qj] at hk
  case eql=>
        repeat' split at hk
        all_goals first
         | (cases hk;done)
         | (simp only [bad] at hk;cases hk;done)
         | (cases cA:(P.stoodInHeld t||P.eqGuardType P.depth t)<;>rw [cA] at hk<;>simp [bad] at hk)
  case neq=>
        repeat' split at hk
        all_goals first
         | (cases hk;done)
         | (simp only [bad] at hk;cases hk;done)
         | (cases cA:(P.stoodInHeld t||P.eqGuardType P.depth t)<;>rw [cA] at hk<;>simp [bad] at hk)
  all_goals cases hk
 | buildSlice t n parts=>
  simp only [aX,ho] at hk
  repeat' split at hk
  all_goals first
   | (cases hk;done)
   | (simp only [bad] at hk;cases hk;done)
   | (revert hk;generalize yK _ _=bb;intro hk;cases bb<;>simp [bad] at hk)
 | makeMap t r=>
  cases r<;>simp only [aX,ho] at hk
  ·repeat' split at hk
   all_goals first
    | (cases hk;done)
    | (simp only [bad] at hk;cases hk;done)
  ·simp only [bad] at hk;cases hk
 | next x' b=>
  cases b<;>simp only [aX,ho] at hk
  ·simp only [bad] at hk;cases hk
  ·cases hk
 | store t x' y'=>
  simp only [aX,ho] at hk
  split at hk
  ·rename_i s hs;simp only [Op.st.injEq] at hk;obtain ⟨rfl,rfl,rfl⟩:=hk;exact ⟨t,x',y',rfl,hs,rfl,rfl⟩
  ·simp only [bad] at hk;cases hk
 | _=>
  simp only [aX,ho] at hk
  (repeat' split at hk)
  all_goals first
   | contradiction
   | (cases hk;done)
   | (simp only [bad] at hk;cases hk;done)
def adj {P:xa} {H:Hint} {o:yZ} {rs:List (Nat×Bool×Nat)} {sz:Nat} {x y:X} (hq:qQ P H (.lB rs sz x y) o):∃t x' y',o.op= .store t x' y'/\cN P t=some sz/\x=aP H x'/\y=aP H y':=by
 rcases hq with ⟨k,hk⟩ | ⟨_,_,_,_,_,h3⟩ | ⟨t,x',y',EC,rs',h1,h2,h3⟩ | ⟨_,_,_,_,_,_,_,h3⟩ | ⟨_,_,_,_,_,_,h3⟩
 ·exact (amk hk).elim
 ·cases h3
 ·simp only [Op.lB.injEq] at h3;obtain ⟨_,rfl,rfl,rfl⟩:=h3;exact ⟨t,x',y',h1,h2,rfl,rfl⟩
 ·cases h3
 ·cases h3
def adk {P:xa} {H:Hint} {o:yZ} {rs:List (Nat×Bool×Nat)} {sz b:Nat} {x y:X} (hq:qQ P H (.mg rs sz b x y) o):∃k,Op.cX sz b x y=aX P H k o:=by
 rcases hq with ⟨k,hk⟩ | ⟨_,_,_,_,_,h3⟩ | ⟨_,_,_,_,_,_,_,h3⟩ | ⟨k,rs',EC,b',x',y',h1,h3⟩ | ⟨_,_,_,_,_,_,h3⟩
 ·exact (aml hk).elim
 ·cases h3
 ·cases h3
 ·simp only [Op.mg.injEq] at h3;obtain ⟨_,rfl,rfl,rfl,rfl⟩:=h3;exact ⟨k,h1⟩
 ·cases h3
def adl {P:xa} {H:Hint} {o:yZ} {sz b:Nat} {x y:X} (hq:qQ P H (.cX sz b x y) o):∃k,Op.cX sz b x y=aX P H k o:=by
 rcases hq with h | ⟨_,_,_,_,_,h3⟩ | ⟨_,_,_,_,_,_,_,h3⟩ | ⟨_,_,_,_,_,_,_,h3⟩ | ⟨_,_,_,_,_,_,h3⟩
 ·exact h
 ·cases h3
 ·cases h3
 ·cases h3
 ·cases h3
def amm {P:xa} {H:Hint} {q:Op} {o:yZ} (hq:qQ P H q o):qQ P H (jx q) o:=by
 cases h:q with
 | jv rs f xs=>
  subst h;obtain ⟨c,f',g1,g2,g3,g4⟩:=SY hq;exact .inr (.inl ⟨c,f',[],g1,g2,by rw [g3,g4];rfl⟩)
 | lB rs sz x y=>
  subst h;obtain ⟨t,x',y',g1,g2,g3,g4⟩:=adj hq;refine .inl ⟨0,?_⟩;simp only [jx,aX,g1,g2,g3,g4]
 | mg rs sz b x y=>
  subst h;exact .inl (adk hq)
 | _=>subst h;exact hq
def aaX (hC:oW O self) (hH:fO O H) {o:yZ} {q:Op} {v:AV} (hq:qQ O.P H q o) (hd:∀c,o.op≠.defer c) (hv:bg O.prog O.aS self tm hp ct q=some (v,ah,aK))
  (ht:cf O m S w tm a.tmps) (hh:aV O m S w hp ct)
  (hn:∀u m' S' w',aV O m' S' w' ah aK->ct<=aK->ai O.ae m' S' w' v u->cp m S w hp m' S' w' ah ct->next (a.put o.dst u) w'):o.wpIn (WF ro) 0 O.P a w next Q:=by
 have quiet:bC q<=1->o.wpIn (WF ro) 0 O.P a w next Q:=by
  intro hk;have hg:=YS hk hv hh.aU;obtain ⟨S1,g1,g2,g3,g4⟩:=N3 hh hg;refine quiet_step hC hH hk hq hd hv df.refl (yq _) hh.aU (fun id h1 h2=>?_) (BC (fun _ _ h=>h) g2 (fun _ _=>rfl) ht) g1 (fun u m' S' w' k1 k2 k3 k4 k5=>hn u m' S' w' k1 hg.rh k4 ((g4 ct).trans (k5.sZ hg.rh)))
  cases hm:m id with
  | none=>rfl
  | some p=>have:=hh.lt id p hm;omega
 have Ui:∀{q':Op},(∃k,q'=aX O.P H k o)->cR tm hp ct q'=some (v,ah,aK)->o.wpIn (WF ro) 0 O.P a w next Q:=by
  intro q' jD hw;obtain ⟨k,rfl⟩:=jD;obtain ⟨n,u,w',m',S',h1,h2,h3,h4,h5,h6⟩:=are hH ht hh hw;exact JP hd h1 h2 (hn u m' S' w' h3 (ape hw) h4 h6)
 have write:cR tm hp ct q=some (v,ah,aK)->o.wpIn (WF ro) 0 O.P a w next Q:=by
  intro hw;refine Ui ?_ hw;rcases hq with h | ⟨c,f,rs,_,_,rfl⟩ | ⟨_,_,_,_,_,_,_,rfl⟩ | ⟨_,_,_,_,_,_,_,rfl⟩ | ⟨_,_,_,_,_,_,rfl⟩
  ·exact h
  ·simp [cR] at hw
  ·simp [cR] at hw
  ·simp [cR] at hw
  ·simp [cR] at hw
 have heap:∀{c:tC} {f:xC} {g:Nat} {first cap:List AV},o.op= .call c->c.callee= .value f->aC tm (aP H f)= .fn (.f g) first cap->
   ix O.prog O.aS self hp ct g (first++(dH tm (iB H c.args.toList)++cap))=some (v,ah,aK)->o.wpIn (WF ro) 0 O.P a w next Q:=by
  intro c f g first cap ho jn hx he;obtain ⟨fi,ca,h1,h2⟩:=N2 hH ht (args:=c.args) hx;refine Nx ho jn h1 (hC.heap _ _ _ _ _ _ _ he m S w _ hh h2) ?_;rintro e w' ⟨u,m',S',rfl,k1,k2,k3,k4⟩;exact ⟨u,rfl,hn u m' S' w' k1 k2 k3 k4⟩
 have round:∀{c:tC} {f:xC} {l:Nat} {x y:List AV},o.op= .call c->c.callee= .value f->aC tm (aP H f)= .fn (.y l) x y->
   oU self hp ct l (dH tm (iB H c.args.toList))=some (v,ah,aK)->o.wpIn (WF ro) 0 O.P a w next Q:=by
  intro c f l x y ho jn hx he;have rf:=cE hH ht f;rw [hx] at rf;simp only [ai] at rf;obtain ⟨p,hm,hf⟩:=rf;have gI:=DD hH ht c.args.toList;obtain ⟨g,tmps,cT,body,h1,h2⟩:=hC.round _ _ _ _ _ _ _ he m S w (c.args.map a.eval) p hh hm (by simpa using gI);refine ao8 ho jn hf h1 h2 ?_;rintro e w' ⟨u,m',S',rfl,k1,k2,k3,k4⟩;exact ⟨u,rfl,hn u m' S' w' k1 k2 k3 k4⟩
 have dyn:∀{c:tC} {f:xC},o.op= .call c->c.callee= .value f->er O.prog O.aS self hp ct .dyn (aC tm (aP H f)) (dH tm (iB H c.args.toList))=some (v,ah,aK)->o.wpIn (WF ro) 0 O.P a w next Q:=by
  intro c f ho jn he;unfold er at he
  split at he
  ·rename_i g first cap hx
   (try simp only at he)
   cases hp0:aH (first++(dH tm (iB H c.args.toList)++cap)) with
   | true=>
    rw [hp0] at he;simp only [yD] at he
    cases hr:bK O.prog O.aS self g (first++(dH tm (iB H c.args.toList)++cap)) with
    | none=>simp [hr] at he
    | some r=>
     simp only [hr,ye,yr] at he;obtain ⟨rfl,rfl,rfl⟩:=he;obtain ⟨fi,ca,h1,h2⟩:=N2 hH ht (args:=c.args) hx;refine Nx ho jn h1 (hC.pure g _ r hr w S _ (TD hh) hh.slt (zX (fun _ h=>h) (fun _ _=>rfl) _ _ hp0 h2) hp0) ?_;rintro e w' ⟨u,S',rfl,hw,g1,g2,g3,g4⟩;obtain ⟨S2,k1,k2,k3⟩:=ZZ g4 m;have hS:∀b,S b->S2 b:=fun b hb=>k1 b (g1 b hb)
     have L8:∀b,S2 b->S b\/w.heap.size<=b:=fun b hb=>(k2 b hb).elim (g2 b) (fun h=> .inr h.1)
     have hl:∀b,S2 b->b<w'.heap.size:=fun b hb=>(k2 b hb).elim (g3 b) (fun h=>h.2)
     exact ⟨u,rfl,hn u m S2 w' (Dl hh hw hS L8 hl) (yq _) k3 (BF hh hw hS L8)⟩
   | false=>
    rw [hp0] at he;simp only [yW] at he;exact heap ho jn hx he
  ·rename_i l x y hx;exact round ho jn hx he
  ·cases he
 cases bI:q with
 | jv rs x xs=>
  subst bI;simp only [bg] at hv;have key:=SY hq;obtain ⟨c,f,ho,jn,rfl,rfl⟩:=key
  cases hc:er O.prog O.aS self hp ct .dyn (aC tm (aP H f)) (dH tm (iB H c.args.toList)) with
  | none=>simp [hc] at hv
  | some r=>
   obtain ⟨v1,a6,pN⟩:=r;simp only [hc] at hv
   cases hs:qh tm hp a6 rs with
   | false=>rw [hs] at hv;cases hv
   | true=>
    rw [hs] at hv;simp only [yD,ye,yr] at hv;obtain ⟨rfl,rfl,rfl⟩:=hv;exact dyn ho jn hc
 | call md x xs=>
  subst bI;have jD:∃k,Op.call md x xs=aX O.P H k o:=by
   rcases hq with h | ⟨c,f,rs,_,_,h⟩ | ⟨_,_,_,_,_,_,_,h⟩ | ⟨_,_,_,_,_,_,_,h⟩ | ⟨_,_,_,_,_,_,h⟩
   ·exact h
   ·cases h
   ·cases h
   ·cases h
   ·cases h
  obtain ⟨k,hk⟩:=jD
  cases md with
  | pure=>exact quiet (by simp [bC])
  | own=>exact quiet (by simp [bC])
  | heap=>
   simp only [bg] at hv;obtain ⟨c,f,ho,jn,rfl,rfl⟩:=Ov hk.symm (by rintro rfl;simp [aC,er] at hv);unfold er at hv
   split at hv
   ·rename_i g first cap hx;exact heap ho jn hx hv
   ·rename_i l x y hx;exact round ho jn hx hv
   ·cases hv
  | dyn=>
   simp only [bg] at hv;obtain ⟨c,f,ho,jn,rfl,rfl⟩:=Ov hk.symm (by rintro rfl;simp [aC,er] at hv);exact dyn ho jn hv
 | lB rs s x y=>
  subst bI;obtain ⟨t,x',y',g1,g2,g3,g4⟩:=adj hq;simp only [bg] at hv
  split at hv
  ·rename_i id off hx
   cases hf:oX tm id rs with
   | false=>rw [hf] at hv;cases hv
   | true=>
    rw [hf] at hv;simp only [yD] at hv
    exact Ui (q':= .st s x y) ⟨0,by simp only [aX,g1,g2,g3,g4]⟩ hv
  ·cases hv
 | mg rs s b x y=>
  subst bI;simp only [bg] at hv
  cases hc:cR tm hp ct (.cX s b x y) with
  | none=>simp [hc] at hv
  | some r=>
   obtain ⟨v1,a6,pN⟩:=r;simp only [hc] at hv
   cases hs:qh tm hp a6 rs with
   | false=>rw [hs] at hv;cases hv
   | true=>
    rw [hs] at hv;simp only [yD,ye,yr] at hv;obtain ⟨rfl,rfl,rfl⟩:=hv
    exact Ui (q':= .cX s b x y) (adk hq) hc
 | st s x y=>subst bI;exact write (by simpa only [bg] using hv)
 | q8 kk x y z=>subst bI;exact write (by simpa only [bg] using hv)
 | rb x=>subst bI;exact write (by simpa only [bg] using hv)
 | cX s b x y=>subst bI;exact write (by simpa only [bg] using hv)
 | oA s x y=>subst bI;exact write (by simpa only [bg] using hv)
 | qZ k x lo hi=>subst bI;exact quiet (by cases k<;>simp [bC])
 | len k x=>subst bI;exact quiet (by rcases k with _ | _ | k<;>simp [bC])
 | _=>subst bI;exact quiet (by simp [bC])
end
end
section
open Go
def qH (tm:Env) (g:Option (Nat×Bool)):Option Bool:=
 match g with
 | none=>some true
 | some (t,b)=>match af tm t with | .bool c=>some (c==b) | .az []=>some false | _=>none
def fq (P:aM) (L:Lib) (self:cG) (tm:Env) (hp:Hp) (ct:Nat) (r:bf):gM:=
 match qH tm r.guard with
 | some true=>bg P L self tm hp ct r.op
 | some false=>some (.az [],hp,ct)
 | none=>none
def Zh {P:aM} {L:Lib} {self:cG} {r:bf} {rs:List bf} {s:St}:
  dO P L self (r::rs) s=match fq P L self s.tm s.hp s.ct r with | some (v,hp,ct)=>dO P L self rs {s with tm:=put r.dst v s.tm,hp:=hp,ct:=ct} | none=>none:=by
 obtain ⟨d,g,o⟩:=r;simp only [dO,fq]
 cases g with
 | none=>rfl
 | some q=>
  obtain ⟨t,b⟩:=q;simp only [qH];generalize af s.tm t=x
  cases x with
  | bool c=>
   simp only;cases (c==b)<;>rfl
  | az vs=>cases vs<;>rfl
  | _=>rfl
def acf (ops:Array yZ) (g:Option (Nat×Bool)) (g':Option (Nat×Bool)):Prop:=
 (g=none/\g'=none)\/∃t b j,g=some (t,b)/\g'=some (j,b)/\(ops[j]?).bind (·.dst)=some t
structure Pc (P:xa) (H:Hint) (ops:Array yZ) (r:bf) (o:yZ):Prop where
 op:qQ P H r.op o
 dst:r.dst=o.dst
 ok:Kv H o.dst=true
 guard:acf ops r.guard o.guard
def gS (P:xa) (H:Hint) (ops:Array yZ):List bf->List yZ->Prop
 | [],[]=>True
 | r::rs,o::l=>(Pc P H ops r o\/(r.guard=none/\r.op=bad))/\gS P H ops rs l
 | _,_=>False
def Zi {P:xa} {H:Hint} {ops:Array yZ}:∀(l:List yZ) (k:Nat),gS P H ops (Ds P H ops l k).1 l
 | [],k=>by simp [Ds,gS]
 | o::l,k=>by
  have ih:=Zi (P:=P) (H:=H) (ops:=ops) l (k+(bif Ue o then 1 else 0));simp only [Ds];generalize hq:Ds P H ops l (k+(bif Ue o then 1 else 0))=q at ih;obtain ⟨l',k'⟩:=q;simp only;have Vs:gS P H ops (⟨o.dst,none,bad⟩::l') (o::l):=⟨.inr ⟨rfl,rfl⟩,ih⟩
  cases hg:o.guard with
  | none=>
   simp only
   cases hd:Kv H o.dst with
   | false=>exact Vs
   | true=>exact ⟨.inl ⟨.inl ⟨k,rfl⟩,rfl,hd,.inl ⟨rfl,hg⟩⟩,ih⟩
  | some p=>
   obtain ⟨j,b⟩:=p;simp only
   cases ht:(ops[j]?).bind (·.dst) with
   | none=>exact Vs
   | some t=>
    simp only
    cases hd:Kv H o.dst with
    | false=>exact Vs
    | true=>exact ⟨.inl ⟨.inl ⟨k,rfl⟩,rfl,hd,.inr ⟨t,b,j,rfl,hg,ht⟩⟩,ih⟩
section
variable {O:bl} {H:Hint} {m:Mp} {S:Nat->Prop} {w:ym} {tm:Env} {a:Act} {hp ah:Hp} {ct aK:Nat} {self:cG} {ro:Option Nat} {Q:uD->Act->ym->Prop} {ops:Array yZ}
def SZ {d:Option Nat} {v:AV} {tm:Env} {t:Nat}:af (put d v tm) t=if d=some t then v else af tm t:=by
 cases d with
 | none=>simp [put]
 | some i=>
  simp only [put,af];by_cases h:i=t
  ·subst h;simp
  ·have:yz i t=false:=by
    cases hq:yz i t with
    | false=>rfl
    | true=>exact absurd (yt hq) h
   simp [this,h]
def N4 (a:Act) (d:Option Nat) (u:yj):(a.put d u).tmps.size=a.tmps.size:=by
 cases d with
 | none=>rfl
 | some i=>simp [Act.put]
def Sh (a:Act) (d:Option Nat) (u:yj):(a.put d u).defers=a.defers:=by
 cases d with
 | none=>rfl
 | some i=>rfl
def S4 {a:Act} {d:Option Nat} {u:yj} {t:Nat} (hd:∀i,d=some i->i<a.tmps.size):(a.put d u).tmps.getD t undef=if d=some t then u else a.tmps.getD t undef:=by
 cases d with
 | none=>simp [Act.put]
 | some i=>
  have hi:=hd i rfl;by_cases h:i=t
  ·subst h;simp [Act.put,hi]
  ·simp only [Act.put,ye,h,xn];simp [Array.getElem?_setIfInBounds_ne h]
def aaY {n:Nat} {d:Option Nat} (h:Kv H d=true) (hn:H.n<=n):∀i,d=some i->i<n:=by
 rintro i rfl
 have:=Ae.1 h
 omega
def S5 {d:Option Nat} {v:AV} {u:yj} (ht:cf O m S w tm a.tmps) (hd:∀i,d=some i->i<a.tmps.size) (hv:ai O.ae m S w v u):cf O m S w (put d v tm) (a.put d u).tmps:=fun t=>by
 rw [SZ,S4 hd]
 split
 ·exact hv
 ·exact ht t
def Z5 {o:yZ} {g:Option (Nat×Bool)} {b:Bool} (hg:acf ops g o.guard) (ht:∀t,t∈UI g->ai O.ae m S w (af tm t) (a.tmps.getD t undef)) (hw:qH tm g=some b):Region.wanted o (yielded ops a.tmps)=b:=by
 rcases hg with ⟨rfl,h2⟩ | ⟨t,c,j,rfl,h2,h3⟩
 ·simp only [qH,ye] at hw;subst hw;simp [Region.wanted,h2]
 ·simp only [qH] at hw;have h4:=ht t (by simp [UI]);simp only [Region.wanted,h2]
  split at hw
  ·rename_i d hd;rw [hd] at h4;simp only [ai] at h4;simp only [ye] at hw
   have:yielded ops a.tmps j=some d:=by
    simp only [yielded,h3,xX];have h5:a.tmps[t]? =some (.bool d):=by
     simp only [vB] at h4
     cases hq:a.tmps[t]? with
     | none=>rw [hq] at h4;simp [undef] at h4
     | some x=>rw [hq] at h4;simp at h4;rw [h4]
    rw [h5]
   rw [this,<-hw];cases d<;>cases c<;>rfl
  ·rename_i hd;rw [hd] at h4;simp only [ai,aA] at h4;obtain ⟨xs,h4,h5⟩:=h4;simp only [ye] at hw;subst hw
   have:yielded ops a.tmps j=none:=by
    simp only [yielded,h3,xX];simp only [vB] at h4
    cases hq:a.tmps[t]? with
    | none=>rfl
    | some x=>rw [hq] at h4;simp at h4;rw [h4]
   rw [this];rfl
  ·cases hw
def YT {o:yZ} {q:Op} (hq:qQ O.P H q o) {r:AV×Hp×Nat} (hv:bg O.prog O.aS self tm hp ct q=some r):∀c,o.op≠.defer c:=by
 rcases hq with ⟨k,rfl⟩ | ⟨c,f,rs,h1,_,_⟩ | ⟨_,_,_,_,_,h1,_,_⟩ | ⟨k,rs,sz,b,x,y,h1,rfl⟩ | ⟨k,sz,b,x,y,h1,rfl⟩
 ·exact amg hv
 ·intro c' h;rw [h1] at h;cases h
 ·intro c' h;rw [h1] at h;cases h
 ·intro c' h;simp only [aX,h] at h1;simp [bad] at h1
 ·intro c' h;simp only [aX,h] at h1;simp [bad] at h1
def arh (hC:oW O self) (hH:fO O H) {i:Nat} {r:bf} {o:yZ} {v:AV} (hi:ops[i]? =some o) (hr:Pc O.P H ops r o\/(r.guard=none/\r.op=bad)) (hv:fq O.prog O.aS self tm hp ct r=some (v,ah,aK))
  (ht:cf O m S w tm a.tmps) (hh:aV O m S w hp ct) (hn:H.n<=a.tmps.size) {K:Act->ym->Prop}
  (hK:∀u m' S' w',aV O m' S' w' ah aK->ct<=aK->cf O m' S' w' (put r.dst v tm) (a.put o.dst u).tmps->cp m S w hp m' S' w' ah ct->K (a.put o.dst u) w'):wpOpIn (WF ro) 0 O.P ops Q i K a w:=by
 rcases hr with hr | ⟨h1,h2⟩
 case inr=>
  simp only [fq,h1,qH,h2,bad,bg,er,aC] at hv;cases hv
 unfold wpOpIn;simp only [hi];unfold fq at hv
 cases hw:qH tm r.guard with
 | none=>simp [hw] at hv
 | some b=>
  have W7:=Z5 hr.guard (fun t _=>ht t) hw;have hd:=aaY hr.ok hn;rw [W7]
  cases b with
  | true=>
   simp only [hw] at hv;simp only [xE];refine aaX hC hH hr.op (YT hr.op hv) hv ht hh (fun u m' S' w' k1 k2 k3 k4=>hK u m' S' w' k1 k2 ?_ k4);rw [hr.dst];exact S5 (BC (fun id p h=>k4.old id p (hh.lt id p h) h) k4.sub (fun b hb=>k4.still b hb) ht) hd k3
  | false=>
   simp only [hw,ye,yr] at hv;obtain ⟨rfl,rfl,rfl⟩:=hv;simp only [yN,xn];refine ⟨fun _ _=>trivial,hK undef m S w hh (yq _) ?_ cp.refl⟩;rw [hr.dst];exact S5 ht hd (by simp [ai,aA,undef])
def acg (hC:oW O self) (hH:fO O H):∀(l:List yZ) (rs:List bf) (i:Nat) (s s':St) (a:Act) (m:Mp) (S:Nat->Prop) (w:ym),(∀j,l[j]? =ops[i+j]?)->gS O.P H ops rs l->
  dO O.prog O.aS self rs s=some s'->cf O m S w s.tm a.tmps->aV O m S w s.hp s.ct->H.n<=a.tmps.size->
  (∀a' m' S' w',aV O m' S' w' s'.hp s'.ct->s.ct<=s'.ct->cf O m' S' w' s'.tm a'.tmps->cp m S w s.hp m' S' w' s'.hp s.ct->a'.tmps.size=a.tmps.size->a'.defers=a.defers->s'.base=s.base->Q .normal a' w')->
  wpOpsIn (WF ro) 0 O.P ops Q (List.range' i l.length) a w
 | [],rs,i,s,s',a,m,S,w,hl,hr,hv,ht,hh,hn,hQ=>by
  cases rs with
  | cons _ _=>simp [gS] at hr
  | nil=>
   simp only [dO,ye] at hv;subst hv;simp only [yO,List.range'_zero,wpOpsIn];exact hQ a m S w hh (yq _) ht cp.refl rfl rfl rfl
 | o::l,rs,i,s,s',a,m,S,w,hl,hr,hv,ht,hh,hn,hQ=>by
  cases rs with
  | nil=>simp [gS] at hr
  | cons r rs=>
   simp only [gS] at hr;rw [Zh] at hv
   cases h1:fq O.prog O.aS self s.tm s.hp s.ct r with
   | none=>simp [h1] at hv
   | some q=>
    obtain ⟨v,a6,pN⟩:=q;simp only [h1] at hv;have hi:ops[i]? =some o:=by have:=hl 0;simpa using this.symm
    rw [yy,List.range'_succ,wpOpsIn_cons];refine arh hC hH hi hr.1 h1 ht hh hn (fun u m1 S1 w1 k1 k2 k3 k4=>?_)
    refine acg hC hH l rs (i+1) {s with tm:=put r.dst v s.tm,hp:=a6,ct:=pN} s' _ m1 S1 w1 (fun j=>?_) hr.2 hv k3 k1 (by rw [N4];exact hn) (fun a' m' S' w' g1 g2 g3 g4 g5 g6 g7=>?_)
    ·have:=hl (j+1)
     rw [List.getElem?_cons_succ] at this;rw [this];congr 1;omega
    ·exact hQ a' m' S' w' g1 (xv k2 g2) g3 (k4.trans (g4.sZ k2)) (by rw [g5,N4]) (by rw [g6,Sh]) g7
end
end
section
open Go
section
variable {ops:Array yZ}
def R5 {acc:List Nat} {i:Nat}:∀{es:List Edge},uT (BU acc es) i=true->∃e,e∈es/\Region.binds .any e=true/\(i=e.on\/uT (acc.getD e.on 0) i=true)
 | [],h=>by simp [BU] at h
 | e::r,h=>by
  simp only [BU] at h
  cases hb:Region.binds .any e with
  | false=>
   rw [hb] at h;obtain ⟨e',h1,h2⟩:=R5 h
   grind
  | true=>
   rw [hb] at h;simp only [yD,Nat.testBit_or,tI] at h;rcases h with (h | h) | h
   ·grind
   ·grind
   ·obtain ⟨e',h1,h2⟩:=R5 h
    grind
def Z6 {l:List yZ} {acc:List Nat} {j:Nat} (hj:j<acc.length):(lU acc l)[j]? =acc[j]? :=by
 induction l generalizing acc with
 | nil=>rfl
 | cons o l ih=>
  simp only [lU]
  grind
def amn {l:List yZ} {acc:List Nat} {j:Nat} {o:yZ} (h:l[j]? =some o):∃AK:List Nat,(lU acc l)[acc.length+j]? =some (BU AK o.after.toList)/\AK.length=acc.length+j/\∀k,k<AK.length->AK[k]? =(lU acc l)[k]? :=by
 induction l generalizing acc j with
 | nil=>simp at h
 | cons x l ih=>
  cases j with
  | zero=>
   simp only [vU,ye] at h;subst h;refine ⟨acc,?_,by simp,fun k hk=>?_⟩
   ·simp only [lU];rw [Z6 (by simp)]
    simp
   ·simp only [lU];rw [Z6 (by rw [yG];omega),List.getElem?_append_left hk]
  | succ j=>
   obtain ⟨AK,h1,h2,h3⟩:=ih (acc:=acc++[BU acc x.after.toList]) h;simp only [yG,yy,yO] at h1 h2;refine ⟨AK,?_,by omega,fun k hk=>?_⟩
   ·simp only [lU]
    grind
   ·simp only [lU];exact h3 k hk
def Ord (ops:Array yZ) (i j:Nat):Prop:=uT ((lU [] ops.toList).getD j 0) i=true
def Uj (ops:Array yZ) (D:Nat->Prop):Prop:=∀j o,ops[j]? =some o->D j->∀e,e∈o.after->Region.binds .any e=true->D e.on
def Z7 {D:Nat->Prop} (hc:Uj ops D):∀(j:Nat) (o:yZ),ops[j]? =some o->(∀e,e∈o.after->Region.binds .any e=true->D e.on)->∀i,Ord ops i j->D i:=by
 intro j
 induction j using uB with
 | _ j ih=>
  intro o ho hr i hi;have kz:ops.toList[j]? =some o:=by simp_all
  obtain ⟨AK,h1,h2,h3⟩:=amn (acc:=[]) kz;simp only [yO,yg] at h1 h2;unfold Ord at hi;rw [yM,h1,uL] at hi;obtain ⟨e,g1,g2,g3⟩:=R5 hi;have he:D e.on:=hr e (by simpa using g1) g2;rcases g3 with rfl | g3
  ·grind
  ·rcases vJ e.on j with aU | kD
   ·have h4:=h3 e.on (by omega);have hol:e.on<ops.size:=by
     grind
    have W4:ops[e.on]? =some ops[e.on]:=by simp_all
    refine ih e.on aU _ W4 (fun e' he' cA=>hc e.on _ W4 he e' he' cA) i ?_;unfold Ord
    grind
   ·grind
def apf {D:Nat->Prop} (hc:Uj ops D) {i j:Nat} {o:yZ} (ho:ops[j]? =some o) (hj:D j) (hi:Ord ops i j):D i:=
 Z7 hc j o ho (fun e he hb=>hc j o ho hj e he hb) i hi
def YD:∀{l:List yZ} {k j:Nat} {o:yZ},BB l k=true->l[j]? =some o->∀e,e∈o.after->Region.binds .any e=true->e.on<k+j
 | [],k,j,o,_,h=>by simp at h
 | x::l,k,j,o,hb,h=>by
  simp only [BB,yi] at hb
  cases j with
  | zero=>
   simp only [vU,ye] at h;subst h;intro e he zC
   have:=List.all_eq_true.1 hb.1 e (by simpa using he)
   simp_all
  | succ j=>
   intro e he zC
   have:=YD hb.2 h e he zC
   omega
end
def PJ (a b:bf) (r:List bf):Prop:=NW a b=false/\(I3 a b=false\/Ju a b r=true)
def YF {m:Nat} {b:bf}:∀{l:List bf} {k i:Nat} {a:bf},NX m b l k=true->l[i]? =some a->uT m (k+i)=true\/PJ a b (l.drop (i+1))
 | [],k,i,a,_,h=>by simp at h
 | x::l,k,i,a,hp,h=>by
  simp only [NX,yi] at hp
  cases i with
  | zero=>
   simp only [vU,ye] at h;subst h;have h1:=hp.1;simp only [tI,uo,yaw,Bool.and_eq_false_iff,Bool.not_eq_false'] at h1;rcases h1 with h1 | ⟨h1,h2⟩
   ·grind
   ·exact .inr ⟨h1,by simpa using h2⟩
  | succ i=>
   rcases YF hp.2 h with h1 | h1
   ·grind
   ·grind
def YI:∀{l done:List bf} {ms:List Nat} {i j:Nat} {a b:bf},Ac done l ms=true->(done++l)[i]? =some a->l[j]? =some b->i<done.length+j->
  ∃m,ms[j]? =some m/\(uT m i=true\/PJ a b (((done++l).take (done.length+j)).drop (i+1)))
 | [],done,ms,i,j,a,b,_,_,h,_=>by simp at h
 | x::l,done,[],i,j,a,b,hp,_,h,_=>by simp [Ac] at hp
 | x::l,done,m::ms,i,j,a,b,hp,ha,h,CM=>by
  simp only [Ac,yi] at hp
  cases j with
  | zero=>
   have ED:done[i]? =some a:=by grind
   have:=YF hp.1 ED
   grind
  | succ j=>
   have e:done++x::l=(done++[x])++l:=by simp
   obtain ⟨m',h1,h2⟩:=YI (i:=i) (a:=a) hp.2 (by rw [<-e];exact ha) h (by simp;omega)
   grind
def Nj {a b:bf} (h:NW a b=false):(∀d,a.dst=some d->d∉DC b/\b.dst≠some d)/\(∀d,b.dst=some d->d∉DC a):=by
 have mem:∀{i:Nat} {l:List Nat},jR i l=false->i∉l:=by
  intro i l
  induction l with
  | nil=>intro _ h;cases h
  | cons j r ih=>
   intro h hm;simp only [jR] at h
   cases hb:yz j i with
   | true=>rw [hb] at h;cases h
   | false=>
    simp_all
 simp only [NW,yaw] at h;obtain ⟨⟨h1,h2⟩,h3⟩:=h;refine ⟨fun d hd=>⟨mem (by simpa [hd,Gy] using h1),fun hb=>?_⟩,fun d hd=>mem (by simpa [hd,Gy] using h2)⟩;rw [hd,hb] at h3;simp [aeY] at h3
def Zj {t:Nat}:∀{l:List bf},DY t l=true->∀r,r∈l->r.dst≠some t
 | [],_,r,h=>by cases h
 | x::l,h,r,hr=>by
  simp only [DY,yi,uo] at h;rcases wJ.1 hr with rfl | hr
  ·intro hd;rw [hd] at h;simp [Gy,jR] at h
  ·exact Zj h.2 r hr
def NK {sz t:Nat} {ag:Bool}:∀{l:List (Nat×Bool×Nat)},D7 sz ag t l=true->(sz,ag,t)∈l
 | [],h=>by simp [D7] at h
 | (s,g,u)::r,h=>by
  simp only [D7,tI,yi] at h;rcases h with ⟨h1,h2,h3⟩ | h
  ·simp_all
  ·exact xY _ (NK h)
def S6:∀{a b:List Nat},de a b=true->a=b
 | [],[],_=>rfl
 | [],_::_,h=>by simp [de] at h
 | _::_,[],h=>by simp [de] at h
 | x::a,y::b,h=>by
  simp only [de,yi] at h;rw [yt h.1,S6 h.2]
def ann {a b:AV} (h:Vj a b=true):a=b:=by
 unfold Vj at h
 split at h
 ·grind
 ·grind
 ·rw [S6 h]
 ·rfl
 ·rfl
 ·simp_all
 ·simp_all
 ·simp_all
 ·cases h
def RY {tm:Env} {hp ah:Hp} {sz t:Nat} {ag:Bool} {v:AV}:∀{l:List (Nat×Bool×Nat)},qh tm hp ah l=true->(sz,ag,t)∈l->jz hp sz ag (af tm t)=some v->jz ah sz ag (af tm t)=some v
 | [],_,h,_=>by cases h
 | (s,g,u)::r,h,hm,hv=>by
  simp only [qh] at h
  cases h1:jz hp s g (af tm u) with
  | none=>simp [h1] at h
  | some x=>
   cases h2:jz ah s g (af tm u) with
   | none=>simp [h1,h2] at h
   | some y=>
    simp only [h1,h2,yi] at h;rcases wJ.1 hm with e | hm
    ·simp only [yr] at e;obtain ⟨rfl,rfl,rfl⟩:=e;rw [h1] at hv;rw [h2,<-ann h.1,hv]
    ·exact RY h.2 hm hv
structure PK (P:aM) (L:Lib) (run:cG) (rs:List bf) (b6:Nat->Env) (bM:Nat->Hp) (bG:Nat->Nat) (vF:Nat->AV):Prop where
 step:∀i r,rs[i]? =some r->fq P L run (b6 i) (bM i) (bG i) r=some (vF i,bM (i+1),bG (i+1))
 tm:∀i r,rs[i]? =some r->b6 (i+1)=put r.dst (vF i) (b6 i)
def ach {P:aM} {L:Lib} {self:cG}:∀{rs:List bf} {s s':St},dO P L self rs s=some s'->
  ∃b6 bM bG vF,PK P L self rs b6 bM bG vF/\b6 0=s.tm/\bM 0=s.hp/\bG 0=s.ct/\b6 rs.length=s'.tm/\bM rs.length=s'.hp/\bG rs.length=s'.ct/\s'.base=s.base
 | [],s,s',h=>by
  simp only [dO,ye] at h;subst h;exact ⟨fun _=>s.tm,fun _=>s.hp,fun _=>s.ct,fun _=> .undef,⟨fun i r h=>by simp at h,fun i r h=>by simp at h⟩,rfl,rfl,rfl,rfl,rfl,rfl,rfl⟩
 | r::rs,s,s',h=>by
  rw [Zh] at h
  cases h1:fq P L self s.tm s.hp s.ct r with
  | none=>simp [h1] at h
  | some q=>
   obtain ⟨v,a6,pN⟩:=q;simp only [h1] at h;obtain ⟨b6,bM,bG,vF,g1,g2,g3,g4,g5,g6,g7,g8⟩:=ach h;refine ⟨fun i=>match i with | 0=>s.tm | i+1=>b6 i,fun i=>match i with | 0=>s.hp | i+1=>bM i,fun i=>match i with | 0=>s.ct | i+1=>bG i,fun i=>match i with | 0=>v | i+1=>vF i,⟨?_,?_⟩,rfl,rfl,rfl,by simpa using g5,by simpa using g6,by simpa using g7,g8⟩
   ·intro i r' hi
    cases i with
    | zero=>
     grind
    | succ i=>exact g1.step i r' (by simpa using hi)
   ·intro i r' hi
    cases i with
    | zero=>
     grind
    | succ i=>exact g1.tm i r' (by simpa using hi)
section
variable {P:aM} {L:Lib} {self:cG} {rs:List bf} {b6:Nat->Env} {bM:Nat->Hp} {bG:Nat->Nat} {vF:Nat->AV}
def I6 (hR:PK P L self rs b6 bM bG vF) {t i:Nat}:∀(k:Nat),i+k<=rs.length->(∀j r,i<=j->j<i+k->rs[j]? =some r->r.dst≠some t)->af (b6 (i+k)) t=af (b6 i) t
 | 0,_,_=>rfl
 | k+1,hk,h=>by
  have hr:rs[i+k]? =some rs[i+k]:=by simp_all
  rw [show i+(k+1)=i+k+1 by omega,hR.tm _ _ hr,SZ,yo (h (i+k) _ (by omega) (by omega) hr)];exact I6 hR k (by omega) (fun j r h1 h2=>h j r h1 (by omega))
def Z8 {r:bf} {tm:Env} {hp ah:Hp} {ct aK:Nat} {v:AV} (hk:bC r.op<=1) (hv:fq P L self tm hp ct r=some (v,ah,aK)) (aU:∀id o,ao hp id=some o->id<ct):jf hp ct ah aK:=by
 unfold fq at hv
 cases hw:qH tm r.guard with
 | none=>simp [hw] at hv
 | some b=>
  cases b with
  | true=>simp only [hw] at hv;exact YS hk hv aU
  | false=>
   simp only [hw,ye,yr] at hv;obtain ⟨rfl,rfl,rfl⟩:=hv;exact jf.refl aU
def NL (hR:PK P L self rs b6 bM bG vF) {i:Nat} (aU:∀id o,ao (bM i) id=some o->id<bG i):∀(k:Nat),i+k<=rs.length->(∀j r,i<=j->j<i+k->rs[j]? =some r->bC r.op<=1)->jf (bM i) (bG i) (bM (i+k)) (bG (i+k))
 | 0,_,_=>jf.refl aU
 | k+1,hk,h=>by
  have ih:=NL hR aU k (by omega) (fun j r h1 h2=>h j r h1 (by omega));have hr:rs[i+k]? =some rs[i+k]:=by simp_all
  exact ih.trans (Z8 (h (i+k) _ (by omega) (by omega) hr) (hR.step _ _ hr) ih.lt)
end
end
section
open Go
def N5 {tm:Env} {t:Nat}:∀{l:List Nat},t∈l->af (bP tm l) t=af tm t
 | [],h=>by cases h
 | i::r,h=>by
  simp only [bP,af]
  cases hb:yz i t with
  | true=>rw [yt hb];rfl
  | false=>
   rcases wJ.1 h with e | h
   ·simp_all
   ·exact N5 h
def ano {P:aM} {L:Lib} {self:cG} {tm tm':Env} {hp:Hp} {ct:Nat} {o:Op} {r:AV×Hp×Nat} (h:∀t,t∈kU o->af tm' t=af tm t) (hv:bg P L self tm hp ct o=some r):bg P L self tm' hp ct (jx o)=some r:=by
 cases o with
 | jv rs f xs=>
  simp only [kU,xL] at h;simp only [jx,bg] at hv ⊢
  rw [dQ (x:=f) fun t ht=>h t (.inl ht),Dj (xs:=xs) fun t ht=>h t (.inr ht)]
  cases hc:er P L self hp ct .dyn (aC tm f) (dH tm xs) with
  | none=>simp [hc] at hv
  | some q=>
   obtain ⟨v1,a6,pN⟩:=q;simp only [hc] at hv
   cases hs:qh tm hp a6 rs with
   | false=>rw [hs] at hv;cases hv
   | true=>
    rw [hs] at hv;simpa only [qh,yD] using hv
 | lB rs sz x v=>
  simp only [jx,bg] at hv ⊢
  rw [Dh (o:= .st sz x v) (tm:=tm) h]
  split at hv
  ·rename_i id off hx
   cases hf:oX tm id rs with
   | false=>rw [hf] at hv;cases hv
   | true=>rw [hf] at hv;exact hv
  ·cases hv
 | mg rs sz b x v=>
  simp only [jx,bg] at hv ⊢
  rw [Dh (o:= .cX sz b x v) (tm:=tm) h]
  cases hc:cR tm hp ct (.cX sz b x v) with
  | none=>simp [hc] at hv
  | some q=>
   obtain ⟨v1,a6,pN⟩:=q;simp only [hc] at hv
   cases hs:qh tm hp a6 rs with
   | false=>rw [hs] at hv;cases hv
   | true=>rw [hs] at hv;exact hv
 | pG sz b x v=>
  rw [<-hv];simp only [kU,xL] at h;simp only [jx,bg]
  rw [dQ (x:=x) fun t ht=>h t (.inl ht),dQ (x:=v) fun t ht=>h t (.inr ht)]
 | call md f xs=>
  rw [<-hv];simp only [kU,xL] at h;simp only [jx,bg]
  rw [dQ (x:=f) fun t ht=>h t (.inl ht),Dj (xs:=xs) fun t ht=>h t (.inr ht)]
 | st s x y=>rw [<-hv];simp only [jx,bg];exact Dh h
 | q8 kk x y z=>rw [<-hv];simp only [jx,bg];exact Dh h
 | rb x=>rw [<-hv];simp only [jx,bg];exact Dh h
 | cX s b x y=>rw [<-hv];simp only [jx,bg];exact Dh h
 | oA s x y=>rw [<-hv];simp only [jx,bg];exact Dh h
 | box s x=>rw [<-hv];simp only [jx,bg];rw [IU (hp:=hp) h]
 | nl n s z ps=>rw [<-hv];simp only [jx,bg];rw [IU (hp:=hp) h]
 | pE s b z x y=>rw [<-hv];simp only [jx,bg];rw [IU (hp:=hp) h]
 | A2=>exact hv
 | q9 x=>rw [<-hv];simp only [jx,bg];rw [IU (hp:=hp) h]
 | _=>rw [<-hv];simp only [jx,bg];rw [alN h]
def aaZ {P:aM} {L:Lib} {self:cG} {tm:Env} {hp ah:Hp} {ct aK:Nat} {q:Op} {v:AV} (hk:bC q=0\/∃sz ag x,q= .ld sz ag x) (hv:bg P L self tm hp ct q=some (v,ah,aK)):bB tm hp q=some v/\ah=hp/\aK=ct:=by
 have kF:∀{q:Op},(match bB tm hp q with | some v=>some (v,hp,ct) | none=>(none:gM))=some (v,ah,aK)->bB tm hp q=some v/\ah=hp/\aK=ct:=by
  intro q h
  cases hm:bB tm hp q with
  | none=>simp [hm] at h
  | some r=>
   simp only [hm,ye,yr] at h;obtain ⟨rfl,rfl,rfl⟩:=h;exact ⟨rfl,rfl,rfl⟩
 rcases hk with hk | ⟨sz,ag,x,rfl⟩
 ·cases bI:q with
  | call md f xs=>subst bI;cases md<;>simp [bC] at hk
  | jv rs f xs=>subst bI;simp [bC] at hk
  | lB rs s x y=>subst bI;simp [bC] at hk
  | mg rs s b x y=>subst bI;simp [bC] at hk
  | pG s b x y=>subst bI;simp [bC] at hk
  | st s x y=>subst bI;simp [bC] at hk
  | q8 kk x y z=>subst bI;simp [bC] at hk
  | rb x=>subst bI;simp [bC] at hk
  | cX s b x y=>subst bI;simp [bC] at hk
  | oA s x y=>subst bI;simp [bC] at hk
  | box s x=>subst bI;simp [bC] at hk
  | nl n s z ps=>subst bI;simp [bC] at hk
  | pE s b z x y=>subst bI;simp [bC] at hk
  | A2=>subst bI;simp [bC] at hk
  | q9 x=>subst bI;simp [bC] at hk
  | _=>exact bI▸kF (q:=q) (by rw [bI] at hv ⊢;simp only [bg] at hv;exact hv)
 ·exact kF (q:= .ld sz ag x) (by simp only [bg] at hv;exact hv)
section
variable {O:bl} {H:Hint} {ops:Array yZ} {rs:List bf} {b6:Nat->Env} {bM:Nat->Hp} {bG:Nat->Nat} {vF:Nat->AV} {self:cG} {ro:Option Nat} {Q:uD->Act->ym->Prop}
structure sX (O:bl) (H:Hint) (slf:cG) (ops:Array yZ) (rs:List bf) (b6:Nat->Env) (bM:Nat->Hp) (bG:Nat->Nat) (vF:Nat->AV):Prop where
 run:PK O.prog O.aS slf rs b6 bM bG vF
 len:rs.length=ops.size
 of:∀(i:Nat) (r:bf) (o:yZ),rs[i]? =some r->ops[i]? =some o->Pc O.P H ops r o
 pair:∀(i j:Nat) (a b:bf),i<j->rs[i]? =some a->rs[j]? =some b->Ord ops i j\/PJ a b ((rs.take j).drop (i+1))
 back:∀(i:Nat) (o:yZ),ops[i]? =some o->∀e,e∈o.after->Region.binds .any e=true->e.on<i
def kG (rs:List bf) (i:Nat):Prop:=∃r,rs[i]? =some r/\bC r.op=2
def Uk (rs:List bf):∀(k i:Nat),i+k=rs.length->∃c,i<=c/\c<=rs.length/\(∀j,i<=j->j<c->¬kG rs j)/\(c=rs.length\/kG rs c)
 | 0,i,h=>⟨i,yq _,by omega,fun j h1 h2=>by omega,.inl (by omega)⟩
 | k+1,i,h=>by
  rcases ux (kG rs i) with hw | hw
  ·grind
  ·obtain ⟨c,h1,h2,h3,h4⟩:=Uk rs k (i+1) (by omega)
   grind
def Jx {rs:List bf} {i:Nat} {r:bf} (hr:rs[i]? =some r) (hw:¬kG rs i):bC r.op<=1:=by
 have h:bC r.op≠2:=fun e=>hw ⟨r,hr,e⟩
 have:bC r.op<=2:=by
  cases r.op with
  | qZ k x lo hi=>cases k<;>simp [bC]
  | len k x=>rcases k with _ | _ | k<;>simp [bC]
  | call md f xs=>cases md<;>simp [bC]
  | _=>simp [bC]
 omega
def QG (O:bl) (rs:List bf) (b6:Nat->Env) (D:Nat->Prop) (m:Mp) (S:Nat->Prop) (w:ym) (a:Act):Prop:=
 ∀t,∃j,j<=rs.length/\(∀(i:Nat) (r:bf),rs[i]? =some r->r.dst=some t->(D i↔i<j))/\ai O.ae m S w (af (b6 j) t) (a.tmps.getD t undef)
def ari {D:Nat->Prop} {m:Mp} {S:Nat->Prop} {w:ym} {a:Act} {i:Nat} {r:bf} (hG:sX O H self ops rs b6 bM bG vF) (hT:QG O rs b6 D m S w a) (hr:rs[i]? =some r) (hi:¬D i)
  (fC:∀j,Ord ops j i->D j) (gU:∀j,Ord ops i j->¬D j):∀t,t∈DC r->ai O.ae m S w (af (b6 i) t) (a.tmps.getD t undef):=by
 intro t ht;obtain ⟨j,h1,h2,h3⟩:=hT t;have Hj:i<rs.length:=(wD.1 hr).1;have e:af (b6 j) t=af (b6 i) t:=by
  rcases Nat.le_total j i with jo | CM
  ·obtain ⟨k,rfl⟩:∃k,i=j+k:=⟨i-j,by omega⟩;refine (I6 hG.run k (by omega) (fun l rl g1 g2 hl hd=>?_)).symm;rcases hG.pair l (j+k) rl r (by omega) hl hr with ho | hf
   ·grind
   ·exact ((Nj hf.1).1 t hd).1 ht
  ·obtain ⟨k,rfl⟩:∃k,j=i+k:=⟨j-i,by omega⟩;refine I6 hG.run k h1 (fun l rl g1 g2 hl hd=>?_);rcases vz g1 with rfl | g1
   ·grind
   ·rcases hG.pair i l r rl g1 hr hl with ho | hf
    ·grind
    ·exact (Nj hf.1).2 t hd ht
 grind
def aci {D D':Nat->Prop} {m m':Mp} {S S':Nat->Prop} {w w':ym} {a:Act} {i:Nat} {r:bf} {u:yj} (hG:sX O H self ops rs b6 bM bG vF) (hT:QG O rs b6 D m S w a) (hr:rs[i]? =some r) (hi:¬D i)
  (fC:∀j,Ord ops j i->D j) (gU:∀j,Ord ops i j->¬D j) (hD:∀j,D' j↔D j\/j=i) (hm:dz m m') (hS:∀b,S b->S' b) (hw:fZ S w w') (hd:∀d,r.dst=some d->d<a.tmps.size)
  (hv:ai O.ae m' S' w' (vF i) u):QG O rs b6 D' m' S' w' (a.put r.dst u):=by
 intro t;have Hj:i<rs.length:=(wD.1 hr).1;by_cases L9:r.dst=some t
 ·refine ⟨i+1,Hj,fun l rl hl EE=>?_,?_⟩
  ·rw [hD];constructor
   ·rintro (h | h)
    ·rcases vJ l (i+1) with g | g
     ·grind
     ·rcases hG.pair i l r rl (by omega) hr hl with ho | hf
      ·grind
      ·exact (((Nj hf.1).1 t L9).2 EE).elim
    ·omega
   ·intro h;rcases vz (yac h) with h | h
    ·grind
    ·rcases hG.pair l i rl r h hl hr with ho | hf
     ·grind
     ·exact (((Nj hf.1).1 t EE).2 L9).elim
  ·rw [hG.run.tm i r hr,SZ,S4 hd,yA L9,yA L9];exact hv
 ·obtain ⟨j,h1,h2,h3⟩:=hT t;refine ⟨j,h1,fun l rl hl EE=>?_,?_⟩
  ·grind
  ·rw [S4 hd,yo L9];exact mv hm hS hw _ _ h3
def YU {tm:Env} {hp ah:Hp} {ct aK id off sz EC t:Nat} {ag:Bool} {x y:X} {v v':AV}:∀{l:List (Nat×Bool×Nat)},oX tm id l=true->(sz,ag,t)∈l->aC tm x= .ptr id off->
  cR tm hp ct (.st EC x y)=some (v',ah,aK)->jz hp sz ag (af tm t)=some v->jz ah sz ag (af tm t)=some v
 | [],_,h,_,_,_=>by cases h
 | (s,g,u)::r,h,hm,hx,hw,hv=>by
  simp only [oX,yi] at h;rcases wJ.1 hm with e | hm
  ·simp only [yr] at e;obtain ⟨rfl,rfl,rfl⟩:=e;have h1:=h.1
   split at h1
   ·rename_i j o hj;have ck:j≠id:=by
     intro e
     simp_all
    rw [hj] at hv ⊢;simp only [cR,hx] at hw;have key:∀ob,ao (aT hp id ob) j=ao hp j:=fun ob=>by rw [sE,yo (ybY ck)]
    split at hw
    ·rename_i pu ex z cs Hk;generalize (yz _ _&&yK _ _&&cw _)=bb at hw
     cases bb with
     | false=>cases hw
     | true=>
      obtain ⟨_,rfl,_⟩:=hw;simp only [jz,key] at hv ⊢;exact hv
    ·cases hw
   ·rename_i cs hj;rw [hj] at hv ⊢;simpa only [jz] using hv
   ·cases h1
  ·exact YU h.2 hm hx hw hv
def YJ {D:Nat->Prop} {i c:Nat} {r:bf} {sz t:Nat} {ag:Bool} (hG:sX O H self ops rs b6 bM bG vF) (hr:rs[i]? =some r) (hi:¬D i) (Hl:r.guard=none/\r.op= .ld sz ag (.t t)) (hc:c<=rs.length)
  (hW:∀j,j<c->kG rs j->D j) (gU:∀j,Ord ops i j->¬D j) (aU:∀j,j<=c->∀id o,ao (bM j) id=some o->id<bG j):∀k,i+1+k<=c->jz (bM (i+1+k)) sz ag (af (b6 i) t)=some (vF i)
 | 0,hk=>by
  have h1:=hG.run.step i r hr;simp only [fq,Hl.1,qH,Hl.2] at h1;obtain ⟨h2,h3,h4⟩:=aaZ (.inr ⟨_,_,_,rfl⟩) h1;simp only [bB,aC] at h2;rw [Nat.add_zero,h3];exact h2
 | k+1,hk=>by
  have ih:=YJ hG hr hi Hl hc hW gU aU k (by omega);have hl:i+1+k<rs.length:=by omega
  have hj:rs[i+1+k]? =some rs[i+1+k]:=by simp [hl]
  have aJ:=hG.run.step _ _ hj;rw [show i+1+(k+1)=i+1+k+1 by omega];rcases ux (kG rs (i+1+k)) with hw | hw
  ·have hD:=hW _ (by omega) hw;rcases hG.pair i (i+1+k) r _ (by omega) hr hj with ho | hf
   ·exact (gU _ ho hD).elim
   ·obtain ⟨Hi,lE⟩:=hf;obtain ⟨bS,h5,h6⟩:=hw;rw [hj] at h5;injection h5 with h5
    subst h5;rcases lE with lE | lE
    ·have h1k:bC r.op=1:=by rw [Hl.2];rfl
     simp only [I3,h1k,h6] at lE;cases lE
    ·unfold Ju at lE;simp only [Hl.1,Hl.2] at lE;generalize jD:(rs[i+1+k]).op=q at lE;have UM:DY t (r::(rs.take (i+1+k)).drop (i+1))=true->af (b6 (i+1+k)) t=af (b6 i) t:=by
      intro ayA;have jV:=Zj ayA;rw [show i+1+k=i+(1+k) by omega];refine I6 hG.run (1+k) (by omega) (fun l rl g1 g2 EF=>jV rl ?_);rcases vz g1 with rfl | g1
      ·rw [hr] at EF;injection EF with EF;subst EF;exact wM
      ·refine xY _ ?_
       have:((rs.take (i+1+k)).drop (i+1))[l-(i+1)]? =some rl:=by
        rw [List.getElem?_drop,List.getElem?_take_of_lt (by omega),show i+1+(l-(i+1))=l by omega];exact EF
       exact List.mem_of_getElem? this
     unfold fq at aJ
     cases hg:qH (b6 (i+1+k)) (rs[i+1+k]).guard with
     | none=>simp [hg] at aJ
     | some b=>
      cases b with
      | false=>
       simp only [hg,ye,yr] at aJ;rw [<-aJ.2.1];exact ih
      | true=>
       simp only [hg,jD] at aJ;cases q<;>simp only [yN] at lE
       case jv EG fx xs=>
        simp only [yi] at lE;have Gz:=NK lE.1;have CN:=UM lE.2;simp only [bg] at aJ
        cases jk:er O.prog O.aS self (bM (i+1+k)) (bG (i+1+k)) .dyn (aC (b6 (i+1+k)) fx) (dH (b6 (i+1+k)) xs) with
        | none=>simp [jk] at aJ
        | some z=>
         obtain ⟨v1,a6,pN⟩:=z;simp only [jk] at aJ
         cases hs:qh (b6 (i+1+k)) (bM (i+1+k)) a6 EG with
         | false=>rw [hs] at aJ;cases aJ
         | true=>
          rw [hs] at aJ;simp only [yD,ye,yr] at aJ;obtain ⟨_,h8,_⟩:=aJ;rw [<-h8,<-CN];exact RY hs Gz (by rw [CN];exact ih)
       case lB EG EC x v=>
        simp only [yi] at lE;have Gz:=NK lE.1;have CN:=UM lE.2;simp only [bg] at aJ
        split at aJ
        ·rename_i id off hx
         cases hs:oX (b6 (i+1+k)) id EG with
         | false=>rw [hs] at aJ;cases aJ
         | true=>
          rw [hs] at aJ;simp only [yD] at aJ;rw [<-CN];exact YU hs Gz hx aJ (by rw [CN];exact ih)
        ·cases aJ
       case mg EG EC b x v=>
        simp only [yi] at lE;have Gz:=NK lE.1;have CN:=UM lE.2;simp only [bg] at aJ
        cases jk:cR (b6 (i+1+k)) (bM (i+1+k)) (bG (i+1+k)) (.cX EC b x v) with
        | none=>simp [jk] at aJ
        | some z=>
         obtain ⟨v1,a6,pN⟩:=z;simp only [jk] at aJ
         cases hs:qh (b6 (i+1+k)) (bM (i+1+k)) a6 EG with
         | false=>rw [hs] at aJ;cases aJ
         | true=>
          rw [hs] at aJ;simp only [yD,ye,yr] at aJ;obtain ⟨_,h8,_⟩:=aJ;rw [<-h8,<-CN];exact RY hs Gz (by rw [CN];exact ih)
  ·exact ab9 (Z8 (Jx hj hw) aJ (aU _ (by omega))).le ih
structure Inv (O:bl) (ops:Array yZ) (rs:List bf) (b6:Nat->Env) (bM:Nat->Hp) (bG:Nat->Nat) (D:Nat->Prop) (m0:Mp) (S0:Nat->Prop) (w0:ym) (n0:Nat) (d0:List tJ) (st c:Nat) (m:Mp) (S:Nat->Prop) (w:ym) (a:Act):Prop where
 W8:st<=c
 cn:c<=rs.length
 before:∀i,i<st->kG rs i->D i
 Hm:∀i,st<=i->i<c->¬kG rs i
 cut:c=rs.length\/(kG rs c/\¬D c)
 behind:∀(i:Nat) (r:bf),c<=i->rs[i]? =some r->1<=bC r.op->¬D i
 hp:aV O m S w (bM c) (bG c)
 W9:∀id p,m id=some p->id<bG st\/∃i,st<=i/\i<c/\D i/\bG i<=id/\id<bG (i+1)
 tm:QG O rs b6 D m S w a
 QH:cp m0 S0 w0 (bM 0) m S w (bM c) (bG 0)
 ge:bG 0<=bG c
 size:a.tmps.size=n0
 defers:a.defers=d0
 jW:st=0\/kG rs (st-1)
 Hn:∀j,j<=c->∀id o,ao (bM j) id=some o->id<bG j
end
end
section
open Go
section
variable {O:bl} {H:Hint} {ops:Array yZ} {rs:List bf} {b6:Nat->Env} {bM:Nat->Hp} {bG:Nat->Nat} {vF:Nat->AV} {self:cG} {ro:Option Nat} {Q:uD->Act->ym->Prop}
variable {D D':Nat->Prop} {m0:Mp} {S0:Nat->Prop} {w0:ym} {n0:Nat} {d0:List tJ} {st c i:Nat} {m:Mp} {S:Nat->Prop} {w:ym} {a:Act} {r:bf} {o:yZ}
def NM (hG:sX O H self ops rs b6 bM bG vF) (hI:Inv O ops rs b6 bM bG D m0 S0 w0 n0 d0 st c m S w a) {x y:Nat} (hx:st<=x) (hxy:x<=y) (hy:y<=c):jf (bM x) (bG x) (bM y) (bG y):=by
 obtain ⟨k,rfl⟩:∃k,y=x+k:=⟨y-x,by omega⟩
 have:=hI.cn
 exact NL hG.run (hI.Hn x (by omega)) k (by omega) (fun j r h1 h2 hr=>Jx hr (hI.Hm j (by omega) (by omega)))
def S7 (hG:sX O H self ops rs b6 bM bG vF) (hI:Inv O ops rs b6 bM bG D m0 S0 w0 n0 d0 st c m S w a) (hr:rs[i]? =some r) (hi:¬D i) (fC:∀j,Ord ops j i->D j) (gU:∀j,Ord ops i j->¬D j) (hD:∀j,D' j↔D j\/j=i)
  (hd:∀d,r.dst=some d->d<a.tmps.size) (hw:¬kG rs i) (jT:bC r.op=0\/i<c) {m':Mp} {S':Nat->Prop} {w':ym} {u:yj} (k1:aV O m' S' w' (bM c) (bG c)) (k2:dz m m')
  (k3:∀id p,m' id=some p->m id=some p\/(st<=i/\i<c/\bG i<=id/\id<bG (i+1))) (k4:ai O.ae m' S' w' (vF i) u) (k5:cp m S w (bM c) m' S' w' (bM c) (bG c)):
  Inv O ops rs b6 bM bG D' m0 S0 w0 n0 d0 st c m' S' w' (a.put r.dst u) where
 W8:=hI.W8
 cn:=hI.cn
 before j hj EH:=(hD j).2 (.inl (hI.before j hj EH))
 Hm:=hI.Hm
 cut:=hI.cut.imp (fun h=>h) (fun h=>⟨h.1,fun hc=>((hD c).1 hc).elim h.2 (fun e=>hw (e▸h.1))⟩)
 behind j rj hj EI hk Ma:=((hD j).1 Ma).elim (hI.behind j rj hj EI hk) (fun e=>by
  subst e;rw [hr] at EI;injection EI with EI
  subst EI
  rcases jT with h | h<;>omega)
 hp:=k1
 W9 id p hp:=by
  rcases k3 id p hp with h | ⟨h1,h2,h3,h4⟩
  ·rcases hI.W9 id p h with h | ⟨j,g1,g2,g3,g4,g5⟩
   ·exact .inl h
   ·exact .inr ⟨j,g1,g2,(hD j).2 (.inl g3),g4,g5⟩
  ·exact .inr ⟨i,h1,h2,(hD i).2 (.inr rfl),h3,h4⟩
 tm:=aci hG hI.tm hr hi fC gU hD k2 k5.sub (fun b hb=>k5.still b hb) hd k4
 QH:=hI.QH.trans (k5.sZ hI.ge)
 ge:=hI.ge
 size:=by rw [N4];exact hI.size
 defers:=by rw [Sh];exact hI.defers
 jW:=hI.jW
 Hn:=hI.Hn
def acj (hG:sX O H self ops rs b6 bM bG vF) (hI:Inv O ops rs b6 bM bG D m0 S0 w0 n0 d0 st c m S w a) (hr:rs[c]? =some r) (hi:¬D c) (fC:∀j,Ord ops j c->D j) (gU:∀j,Ord ops c j->¬D j) (hD:∀j,D' j↔D j\/j=c)
  (hd:∀d,r.dst=some d->d<a.tmps.size) (hw:kG rs c) {m':Mp} {S':Nat->Prop} {w':ym} {u:yj} (k1:aV O m' S' w' (bM (c+1)) (bG (c+1))) (k2:bG c<=bG (c+1))
  (k4:ai O.ae m' S' w' (vF c) u) (k5:cp m S w (bM c) m' S' w' (bM (c+1)) (bG c)):
  ∃c' CI,Inv O ops rs b6 bM bG D' m0 S0 w0 n0 d0 (c+1) c' m' CI w' (a.put r.dst u):=by
 have jk:c<rs.length:=(wD.1 hr).1;obtain ⟨c',h1,h2,h3,h4⟩:=Uk rs (rs.length-(c+1)) (c+1) (by omega);obtain ⟨k,rfl⟩:∃k,c'=c+1+k:=⟨c'-(c+1),by omega⟩;have hg:∀k',k'<=k->jf (bM (c+1)) (bG (c+1)) (bM (c+1+k')) (bG (c+1+k')):=fun k' oB=>
  NL hG.run k1.aU k' (by omega) (fun j r g1 g2 hr=>Jx hr (h3 j g1 (by omega)))
 obtain ⟨CI,g1,g2,g3,g4⟩:=N3 k1 (hg k (yq _));have hml:dz m m':=fun id p h=>k5.old id p (hI.hp.lt id p h) h
 refine ⟨c+1+k,CI,⟨by omega,h2,?_,h3,?_,?_,g1,fun id p h=> .inl (k1.lt id p h),?_,?_,?_,by rw [N4];exact hI.size,by rw [Sh];exact hI.defers,.inr (by simpa using hw),?_⟩⟩
 ·intro j hj EH;rcases vz (yac hj) with e | hj
  ·exact (hD j).2 (.inr e)
  ·rcases vJ j st with g | g
   ·exact (hD j).2 (.inl (hI.before j g EH))
   ·exact (hI.Hm j g hj EH).elim
 ·refine h4.imp (fun h=>h) (fun h=>⟨h,fun hc=>?_⟩);obtain ⟨rc,Xa,jT⟩:=h;rcases (hD _).1 hc with g | g
  ·exact hI.behind _ rc (by omega) Xa (by omega) g
  ·omega
 ·intro j rj hj EI hk Ma;rcases (hD j).1 Ma with g | g
  ·exact hI.behind j rj (by omega) EI hk g
  ·omega
 ·exact aci hG hI.tm hr hi fC gU hD hml (fun b hb=>g2 b (k5.sub b hb)) (fun b hb=>k5.still b hb) hd (mv (fun _ _ h=>h) g2 (fun _ _=>rfl) _ _ k4)
 ·exact (hI.QH.trans (k5.sZ hI.ge)).trans (g4 (bG 0))
 ·have:=(hg k (yq _)).rh
  have:=hI.ge
  omega
 ·intro j hj;rcases vJ c j with g | g
  ·obtain ⟨k',rfl⟩:∃k',j=c+1+k':=⟨j-(c+1),by omega⟩;exact (hg k' (by omega)).lt
  ·exact hI.Hn j g
def apg {q:Op} (h:bC q≠2):jx q=q:=by
 cases q<;>first
  | rfl
  | exact absurd rfl h
def Zk {x y:bf} {l:List bf} (h:PJ x y l):¬(bC x.op=2/\1<=bC y.op)/\(1<=bC x.op->bC y.op=2->x.guard=none/\∃sz ag t,x.op= .ld sz ag (.t t)):=by
 obtain ⟨_,h⟩:=h;have ex:Ju x y l=true->x.guard=none/\∃sz ag t,x.op= .ld sz ag (.t t):=by
  intro he;unfold Ju at he
  split at he
  ·rename_i sz ag t EG fx xs h1 h2 h3;exact ⟨h1,sz,ag,t,h2⟩
  ·rename_i h1 h2 h3;exact ⟨h1,_,_,_,h2⟩
  ·rename_i h1 h2 h3;exact ⟨h1,_,_,_,h2⟩
  ·cases he
 have k2:∀q:Op,bC q<=2:=fun q=>by
  cases q with
  | qZ k x lo hi=>cases k<;>simp [bC]
  | len k x=>rcases k with _ | _ | k<;>simp [bC]
  | call md f xs=>cases md<;>simp [bC]
  | _=>simp [bC]
 constructor
 ·rintro ⟨h1,h2⟩;rcases h with h | h
  ·have:bC y.op=1\/bC y.op=2:=by have:=k2 y.op;omega
   rcases this with e | e<;>(simp only [I3,h1,e] at h;cases h)
  ·obtain ⟨_,sz,ag,t,e⟩:=ex h;rw [e] at h1;cases h1
 ·intro h1 h2;rcases h with h | h
  ·have:bC x.op=1\/bC x.op=2:=by have:=k2 x.op;omega
   rcases this with e | e<;>(simp only [I3,h2,e] at h;cases h)
  ·exact ex h
def aph (hC:oW O self) (hH:fO O H) (hG:sX O H self ops rs b6 bM bG vF) (hn:H.n<=n0) (hI:Inv O ops rs b6 bM bG D m0 S0 w0 n0 d0 st c m S w a) (hr:rs[i]? =some r) (ho:ops[i]? =some o) (hi:¬D i)
  (fC:∀j,Ord ops j i->D j) (gU:∀j,Ord ops i j->¬D j) (hD:∀j,D' j↔D j\/j=i) {K:Act->ym->Prop}
  (hK:∀st' c' m' S' w' a',Inv O ops rs b6 bM bG D' m0 S0 w0 n0 d0 st' c' m' S' w' a'->K a' w'):wpOpIn (WF ro) 0 O.P ops Q i K a w:=by
 have cI:=hG.of i r o hr ho;have Vt:=ari hG hI.tm hr hi fC gU;have aJ:=hG.run.step i r hr;have hd:∀d,r.dst=some d->d<a.tmps.size:=by
  rw [cI.dst];exact aaY cI.ok (by rw [hI.size];exact hn)
 have mj:=hI.W8;have kD:1<=bC r.op->i<=c:=by
  intro hk;rcases vJ c i with Xb | Xb
  ·have Hj:i<rs.length:=(wD.1 hr).1;rcases hI.cut with h | ⟨⟨rc,Xa,jT⟩,LY⟩
   ·omega
   ·rcases hG.pair c i rc r Xb Xa hr with h | h
    ·exact (LY (fC c h)).elim
    ·exact ((Zk h).1 ⟨jT,hk⟩).elim
  ·exact Xb
 have hwc:kG rs i->i=c:=by
  intro hw;obtain ⟨bS,h1,h2⟩:=hw;rw [hr] at h1;injection h1 with h1
  subst h1;have h3:=kD (by omega);rcases vz h3 with e | h3
  ·exact e
  ·rcases vJ i st with g | g
   ·exact (hi (hI.before i g ⟨r,hr,h2⟩)).elim
   ·exact (hI.Hm i g h3 ⟨r,hr,h2⟩).elim
 have aU:1<=bC r.op->¬kG rs i->i<c:=by
  intro hk hw;rcases vz (kD hk) with e | h
  ·subst e;rcases hI.cut with h | h
   ·have Hj:i<rs.length:=(wD.1 hr).1;omega
   ·exact (hw h.1).elim
  ·exact h
 have jT:¬kG rs i->bC r.op=0\/i<c:=fun hw=>by
  rcases xB (bC r.op) with h | h
  ·exact .inl h
  ·exact .inr (aU h hw)
 unfold wpOpIn;simp only [ho];unfold fq at aJ
 cases CO:qH (b6 i) r.guard with
 | none=>simp [CO] at aJ
 | some b=>
  have W7:=Z5 cI.guard (fun t ht=>Vt t (by simp [DC,ht])) CO;rw [W7]
  cases b with
  | false=>
   simp only [CO,ye,yr] at aJ;obtain ⟨hv,hh,hc⟩:=aJ;simp only [yN,xn];refine ⟨fun _ _=>trivial,?_⟩;have eO:∀m S w,ai O.ae m S w (vF i) undef:=fun m S w=>by rw [<-hv];simp [ai,aA,undef]
   rw [<-cI.dst];rcases ux (kG rs i) with hw | hw
   ·have e:=hwc hw;subst e;obtain ⟨c',CI,h⟩:=acj hG hI hr hi fC gU hD hd hw (m':=m) (S':=S) (w':=w) (u:=undef) (by rw [<-hh,<-hc];exact hI.hp) (by omega) (eO _ _ _) (by rw [<-hh];exact cp.refl)
    exact hK _ _ _ _ _ _ h
   ·exact hK _ _ _ _ _ _ (S7 hG hI hr hi fC gU hD hd hw (jT hw) (m':=m) (S':=S) (w':=w) (u:=undef) hI.hp dz.refl (fun _ _ h=> .inl h) (eO _ _ _) cp.refl)
  | true=>
   simp only [CO] at aJ;simp only [xE];have jV:=YT cI.op aJ;have QI:cf O m S w (bP (b6 i) (kU r.op)) a.tmps:=fun t=>by
    rcases ux (t∈kU r.op) with h | h
    ·rw [N5 h];exact Vt t (by simp [DC,h])
    ·have:af (bP (b6 i) (kU r.op)) t= .undef:=by
      clear Vt aJ;revert h;generalize kU r.op=l;intro h
      induction l with
      | nil=>rfl
      | cons x l ih=>
       simp only [bP,af];have hx:yz x t=false:=by
        cases hq:yz x t with
        | false=>rfl
        | true=>exact absurd (by rw [yt hq];exact wM) h
       rw [hx];exact ih (fun h'=>h (xY _ h'))
     rw [this];simp only [ai]
   have EJ:bg O.prog O.aS self (bP (b6 i) (kU r.op)) (bM i) (bG i) (jx r.op)=some (vF i,bM (i+1),bG (i+1)):=
    ano (fun t ht=>N5 ht) aJ
   have adm:¬kG rs i->jx r.op=r.op:=fun hw=>apg (fun h=>hw ⟨r,hr,h⟩)
   have now:¬kG rs i->bB (bP (b6 i) (kU r.op)) (bM c) r.op=some (vF i)->Oper.wpIn (WF ro) 0 O.P o a w K Q:=by
    intro hw kF;have jD:∃k,r.op=aX O.P H k o:=by
     rcases cI.op with h | ⟨cc,f,rr,_,_,h⟩ | ⟨_,_,_,_,_,_,_,h⟩ | ⟨_,_,_,_,_,_,_,h⟩ | ⟨_,_,_,_,_,_,h⟩
     ·exact h
     ·rw [h] at kF;simp [bB] at kF
     ·rw [h] at kF;simp [bB] at kF
     ·rw [h] at kF;simp [bB] at kF
     ·rw [h] at kF;simp [bB] at kF
    obtain ⟨k,hk⟩:=jD;rw [hk] at kF;rw [hk] at QI;obtain ⟨u,h1,h2⟩:=ab2 hH QI hI.hp kF;refine JP jV h1 (.inl rfl) ?_;rw [<-cI.dst];exact hK _ _ _ _ _ _ (S7 hG hI hr hi fC gU hD hd hw (jT hw) hI.hp dz.refl (fun _ _ h=> .inl h) h2 cp.refl)
   rcases ux (kG rs i) with hw | hw
   ·have e:=hwc hw;subst e;refine aaX hC hH (amm cI.op) jV EJ QI hI.hp (fun u m' S' w' k1 k2 k3 k4=>?_);rw [<-cI.dst];obtain ⟨c',CI,h⟩:=acj hG hI hr hi fC gU hD hd hw k1 k2 k3 k4;exact hK _ _ _ _ _ _ h
   ·rcases xB (bC r.op) with hk | hk
    ·have EJ:=adm hw▸EJ;obtain ⟨h1,_,_⟩:=aaZ (.inl hk) EJ;exact now hw (by rw [anf hk (bM c) (bM i)];exact h1)
    ·have zB:=aU hk hw;rcases vJ i st with Vu | Vu
     ·
      rcases hI.jW with h0 | h0
      ·omega
      ·have a6:D (st-1):=hI.before _ (by omega) h0;have ck:i≠st-1:=fun e=>hi (e▸a6)
       obtain ⟨rp,hrp,hkp⟩:=h0;rcases hG.pair i (st-1) r rp (by omega) hr hrp with h | h
       ·exact (gU _ h a6).elim
       ·obtain ⟨hg,sz,ag,t,jD⟩:=(Zk h).2 hk hkp;have hl:=YJ (c:=c) hG hr hi ⟨hg,jD⟩ hI.cn (fun j hj EH=>by
         rcases vJ j st with g | g
         ·exact hI.before j g EH
         ·exact (hI.Hm j g hj EH).elim) gU hI.Hn (c-(i+1)) (by omega)
        rw [show i+1+(c-(i+1))=c by omega] at hl;refine now hw ?_;rw [jD];simp only [bB,aC];rw [N5 (by simp [kU,jw])];exact hl
     ·have iZ:=NM hG hI (x:=i+1) (y:=c) (by omega) zB (yq _);have Mb:=NM hG hI (x:=st) (y:=i) (yq _) Vu (by omega)
      refine quiet_step (Hq:=bM c) (cH:=bG c) hC hH (Jx hr hw) cI.op jV (adm hw▸EJ) iZ.le iZ.rh (hI.Hn i (by omega)) ?_ QI hI.hp (fun u m' S' w' k1 k2 k3 k4 k5=>?_)
      ·intro id h1 h2
       cases hm:m id with
       | none=>rfl
       | some p=>
        rcases hI.W9 id p hm with h | ⟨j,q1,q2,q3,q4,q5⟩
        ·have:=Mb.rh;omega
        ·rcases Nat.lt_trichotomy j i with g | g | g
         ·have:=(NM hG hI (x:=j+1) (y:=i) (by omega) g (by omega)).rh;omega
         ·subst g;exact (hi q3).elim
         ·have:=(NM hG hI (x:=i+1) (y:=j) (by omega) g (by omega)).rh;omega
      ·rw [<-cI.dst];exact hK _ _ _ _ _ _ (S7 hG hI hr hi fC gU hD hd hw (.inr zB) k1 k2 (fun id p h=>(k3 id p h).imp (fun h=>h) (fun h=>⟨Vu,zB,h.1,h.2⟩)) k4 k5)
def left (n:Nat) (listed:Array Bool):Nat:=(List.range n).countP fun i=> !listed.getD i false
def api {n:Nat} {listed:Array Bool} {i:Nat} (hi:i<n) (hs:listed.size=n) (hl:listed.getD i true=false):left n (listed.setIfInBounds i true)+1=left n listed:=by
 have key:∀(l:List Nat),l.Nodup->(i∈l->(l.countP fun j=> !(listed.setIfInBounds i true).getD j false)+1=l.countP fun j=> !listed.getD j false)/\(i∉l->(l.countP fun j=> !(listed.setIfInBounds i true).getD j false)=l.countP fun j=> !listed.getD j false):=by
  intro l
  induction l with
  | nil=>intro _;exact ⟨fun h=>(by cases h),fun _=>rfl⟩
  | cons x l ih=>
   intro jV;have hx:x≠i->(listed.setIfInBounds i true).getD x false=listed.getD x false:=fun h=>getD_set_ne false (ybY h)
   refine ⟨fun hm=>?_,fun hm=>?_⟩
   ·rw [ybd,ybd];by_cases e:x=i
    ·simp_all
    ·grind
   ·grind
 exact (key _ List.nodup_range).1 (List.mem_range.2 hi)
def anp {n:Nat} {listed:Array Bool} (h:left n listed=0):∀i,i<n->listed.getD i false=true:=by
 unfold left at h
 simp_all
def anq {listed:Array Bool} (hs:listed.size=ops.size) (hb:∀(i:Nat) (o:yZ),ops[i]? =some o->∀e,e∈o.after->Region.binds .any e=true->e.on<i) (h:Region.ready .any ops listed=[]):∀i,i<ops.size->listed.getD i false=true:=by
 intro i
 induction i using uB with
 | _ i ih=>
  intro hi
  cases hq:listed.getD i false with
  | true=>rfl
  | false=>
   have:i∈Region.ready .any ops listed:=by
    refine mem_ready.2 ⟨?_,ops[i],by simp [hi],fun e he zC=>?_⟩
    ·have aU:i<listed.size:=by omega
     simp only [vB,aU,Array.getElem?_eq_getElem,uL] at hq ⊢;exact hq
    ·have:=hb i ops[i] (by simp [hi]) e he zC
     exact ih e.on this (by omega)
   rw [h] at this;cases this
def arj (hG:sX O H self ops rs b6 bM bG vF) (hI:Inv O ops rs b6 bM bG D m0 S0 w0 n0 d0 st c m S w a) (nm:∀i,i<rs.length->D i):
  aV O m S w (bM rs.length) (bG rs.length)/\cf O m S w (b6 rs.length) a.tmps/\cp m0 S0 w0 (bM 0) m S w (bM rs.length) (bG 0)/\bG 0<=bG rs.length:=by
 have hc:c=rs.length:=by
  rcases hI.cut with h | ⟨⟨r,h1,_⟩,h2⟩
  ·grind
  ·grind
 subst hc;refine ⟨hI.hp,fun t=>?_,hI.QH,hI.ge⟩;obtain ⟨j,h1,h2,h3⟩:=hI.tm t;obtain ⟨k,hk⟩:∃k,rs.length=j+k:=⟨rs.length-j,by omega⟩
 have:=I6 (t:=t) (i:=j) hG.run k (by omega) (fun l r g1 g2 hl hd=>by
  have:=(h2 l r hl hd).1 (nm l (wD.1 hl).1)
  omega)
 grind
def atQ (hC:oW O self) (hH:fO O H) (hG:sX O H self ops rs b6 bM bG vF) (hn:H.n<=n0)
  (hQ:∀a' m' S' w',aV O m' S' w' (bM rs.length) (bG rs.length)->bG 0<=bG rs.length->cf O m' S' w' (b6 rs.length) a'.tmps->cp m0 S0 w0 (bM 0) m' S' w' (bM rs.length) (bG 0)->a'.tmps.size=n0->a'.defers=d0->Q .normal a' w'):
  ∀(bt:Nat) (listed:Array Bool) (st c:Nat) (m:Mp) (S:Nat->Prop) (w:ym) (a:Act),listed.size=ops.size->left ops.size listed=bt->Uj ops (fun i=>listed.getD i false=true)->
   Inv O ops rs b6 bM bG (fun i=>listed.getD i false=true) m0 S0 w0 n0 d0 st c m S w a->wpAnyIn (WF ro) 0 O.P .any ops Q bt listed a w:=by
 have fin:∀(listed:Array Bool) (st c:Nat) (m:Mp) (S:Nat->Prop) (w:ym) (a:Act),Inv O ops rs b6 bM bG (fun i=>listed.getD i false=true) m0 S0 w0 n0 d0 st c m S w a->(∀i,i<ops.size->listed.getD i false=true)->Q .normal a w:=by
  intro listed st c m S w a hI nm;obtain ⟨h1,h2,h3,h4⟩:=arj hG hI (fun i hi=>nm i (by rw [<-hG.len];exact hi))
  exact hQ a m S w h1 h4 h2 h3 hI.size hI.defers
 intro bt
 induction bt with
 | zero=>
  intro listed st c m S w a hs hl hc hI;have nm:=anp hl;refine ⟨?_,fin listed st c m S w a hI nm⟩;rw [List.eq_nil_iff_forall_not_mem];intro i hm;obtain ⟨h1,o,ho,_⟩:=mem_ready.1 hm
  grind
 | succ bt ih=>
  intro listed st c m S w a hs hl hc hI;refine ⟨fun h=>fin listed st c m S w a hI (anq hs hG.back h),fun i hm=>?_⟩;obtain ⟨h1,o,ho,h2⟩:=mem_ready.1 hm;have hi:i<ops.size:=(xF.1 ho).1;have hr:rs[i]? =some (rs[i]'(by rw [hG.len];exact hi)):=by simp [hG.len,hi]
  have aU:i<listed.size:=by omega
  have Ho:¬listed.getD i false=true:=by
   grind
  have hD:∀j,(listed.setIfInBounds i true).getD j false=true↔listed.getD j false=true\/j=i:=by
   intro j;by_cases e:j=i
   ·simp_all
   ·rw [getD_set_ne false (ybY e)];simp [e]
  refine aph hC hH hG hn hI hr ho Ho (Z7 hc i o ho h2) (fun j hj Ma=>?_) hD (fun st' c' m' S' w' a' Xc=>ih (listed.setIfInBounds i true) st' c' m' S' w' a' (by simp [hs]) ?_ ?_ Xc)
  ·have hjl:j<ops.size:=by
    grind
   exact Ho (apf hc (show ops[j]? =some ops[j] by simp [hjl]) Ma hj)
  ·have:=api hi hs h1
   omega
  ·intro j oj hoj hj e he hb;rw [hD];rcases (hD j).1 hj with g | g
   ·exact .inl (hc j oj hoj g e he hb)
   ·grind
end
end
section
open Go
def amo {F:Fence} {n:Nat} {P:xa} {Q:uD->Act->ym->Prop} {a:Act} {w:ym} {c:vn} (h:c.wpIn F n P Q a w) (hg:∀l a w,¬Q (.goto l) a w):(Code.scope c).wpIn F n P Q a w:=by
 intro b k cs cI hb hr;have h0:(lone (b.atR a (.code (.scope c)::k)) cs w).fenced P F:=fenced_calm hb hr rfl;have s0:step P (lone (b.atR a (.code (.scope c)::k)) cs w)= .next (lone (b.atR a (.code c:: .inScope c::k)) cs w):=step_lone_go (by simp [stepG,stepG.exec,Frame.atR]);obtain ⟨e,a₁,w₁,hq,D8⟩:=h b (.inScope c::k) cs cI hb hr;have hx:∀id,exitTo id (.inScope c::k)=exitTo id k:=fun id=>by simp [exitTo]
 cases e with
 | normal=>
  have s1:step P (lone (b.atR a₁ (.inScope c::k)) cs w₁)= .next (lone (b.atR a₁ k) cs w₁):=step_lone_go (by simp [stepG,stepG.exec,Frame.atR]);exact ⟨.normal,a₁,w₁,hq,.head h0 s0 (StepsIn.trans D8 (.one (fenced_calm hb hr rfl) s1))⟩
 | exit id=>
  exact ⟨.exit id,a₁,w₁,hq,fun k' hk=> .head h0 s0 (D8.1 k' (by rw [hx];exact hk)),fun bk hk=>let ⟨k₁,h1,h2⟩:=D8.2 bk (by rw [hx];exact hk);⟨k₁,h1,.head h0 s0 h2⟩⟩
 | goto l=>exact (hg _ _ _ hq).elim
 | ret=>exact ⟨_,a₁,w₁,hq,.of_steps (.one h0 s0) D8⟩
 | panic ch=>exact ⟨_,a₁,w₁,hq,.of_steps (.one h0 s0) D8⟩
 | outgrown=>exact ⟨_,a₁,w₁,hq,.of_steps (.one h0 s0) D8⟩
def rT:Ex->uD
 | .normal=> .normal
 | .ret=> .ret
 | .exit id=> .exit id
def Marks (lo:Nat) (S:Nat->Prop) (w:ym) (ds:List tJ):Prop:=∃rs:List Nat,ds=rs.map (fun r=>{target:= .collected r,args:=#[]})/\rs.Nodup/\
 ∀r,r∈rs->w.heap[r]? =some (.deferred (some []))/\¬S r/\lo<=r
def Aq (ro:Option Nat) (w:ym):Prop:=∀l,ro=some l->∃r:td,w.heap[l]? =some (.loop r)
section
variable {O:bl} {m:Mp} {S:Nat->Prop} {w:ym} {hp:Hp} {ct:Nat}
def aa0 (hh:aV O m S w hp ct) {b:Nat} (h:eE m hp b):∀x,w.heap[b]?≠some (.deferred x):=by
 intro x hx;obtain ⟨id,o,p,h1,h2,rfl⟩:=h;have h3:=hh.obj id o p h1 h2
 cases o with
 | cells rw pu ex sz cs=>obtain ⟨q,arr,t,g1,g2,_⟩:=h3;rw [h2] at g1;injection g1 with g1;subst g1;rw [hx] at g2;cases g2
 | mp rw ks vs=>obtain ⟨q,es,clock,g1,g2,_⟩:=h3;rw [h2] at g1;injection g1 with g1;subst g1;rw [hx] at g2;cases g2
 | si s pos=>obtain ⟨q,t,g1,g2,_⟩:=h3;rw [h2] at g1;injection g1 with g1;subst g1;rw [hx] at g2;cases g2
 | lp tm ps cT body st pe=>obtain ⟨q,l,hi,g1,g2,_⟩:=h3;rw [h2] at g1;injection g1 with g1;subst g1;rw [hx] at g2;cases g2
def BD (hh:aV O m S w hp ct) {m':Mp} {S':Nat->Prop} {w':ym} {ah:Hp} {base lo:Nat} (hf:cp m S w hp m' S' w' ah base) {ds:List tJ} (h:Marks lo S w ds):Marks lo S' w' ds:=by
 obtain ⟨rs,h1,h2,h3⟩:=h;refine ⟨rs,h1,h2,fun r hr=>?_⟩;obtain ⟨this,h4,h5⟩:=h3 r hr;have aU:=(xF.1 this).1;have pM:¬eE m hp r:=fun ho=>aa0 hh ho _ this
 refine ⟨(hf.same r aU pM).trans this,fun hs=>?_,h5⟩;rcases hf.new r hs with h | h | h
 ·grind
 ·grind
 ·omega
def NN {m':Mp} {S':Nat->Prop} {w':ym} {ah:Hp} {base:Nat} {ro:Option Nat} (hf:cp m S w hp m' S' w' ah base) (h:Aq ro w):Aq ro w':=fun l hl=>
 let ⟨r,hr⟩:=h l hl
 hf.loops l r hr
def ff (O:bl) (m:Mp) (S:Nat->Prop) (w:ym) (s:St) (ex:Ex) (s':St) (n lo:Nat) (e:uD) (a':Act) (w':ym):Prop:=
 e=rT ex/\∃m' S',cf O m' S' w' s'.tm a'.tmps/\aV O m' S' w' s'.hp s'.ct/\s'.base=s.base/\s.base<=s'.ct/\cp m S w s.hp m' S' w' s'.hp s.base/\a'.tmps.size=n/\Marks lo S' w' a'.defers
def B9 (O:bl) (h:Nat) (c:vn) (s:St) (ex:Ex) (s':St):Prop:=
 ∀(ro:Option Nat) (lo:Nat) (m:Mp) (S:Nat->Prop) (w:ym) (a:Act),Aq ro w->cf O m S w s.tm a.tmps->aV O m S w s.hp s.ct->s.base<=s.ct->(O.hint h).n<=a.tmps.size->O.w0.heap.size<=lo->lo<=w.heap.size->Marks lo S w a.defers->
  c.wpIn (WF ro) 0 O.P (ff O m S w s ex s' a.tmps.size lo) a w
structure eU (O:bl):Prop where
 hint:∀h,fO O (O.hint h)
 mixed:O.P.follows .mixedOrders=true
 prog:∀n F,O.prog n=some F->∃fn,O.P.funcs[O.ae n]? =some fn/\FO O.P (O.hint n) fn=some F/\fn.name≠ "runtime.NumGoroutine"
 aS:∀n sp ax r,O.aS.pure n=some sp->sp ax=some r->fc O n ax r
 GA:∀n sp hp ct ax v ah aK,O.aS.heap n=some sp->sp hp ct ax=some (v,ah,aK)->B8 O n hp ct ax v ah aK
def Jf {P:xa} {H:Hint} {ops:Array yZ}:∀(rs:List bf) (l:List yZ) (done:List bf) (ms:List Nat),gS P H ops rs l->gS P H ops (n9 done rs ms) l
 | [],l,done,ms,h=>by
  cases ms<;>simpa only [n9] using h
 | r::rs,[],done,ms,h=>by simp [gS] at h
 | r::rs,o::l,done,[],h=>by
  obtain ⟨d,g,op⟩:=r;cases op<;>simpa only [n9] using h
 | r::rs,o::l,done,m::ms,h=>by
  simp only [gS] at h;obtain ⟨h1,h2⟩:=h;obtain ⟨d,g,op⟩:=r
  cases op with
  | jv EG f xs=>
   simp only [n9,gS];refine ⟨?_,Jf rs l _ ms h2⟩;rcases h1 with h1 | ⟨_,h1⟩
   ·refine .inl ⟨?_,h1.dst,h1.ok,h1.guard⟩;obtain ⟨c,f',g1,g2,g3,g4⟩:=SY h1.op;rw [g3,g4];exact .inr (.inl ⟨c,f',_,g1,g2,rfl⟩)
   ·simp [bad] at h1
  | st sz x y=>
   simp only [n9,gS];refine ⟨?_,Jf rs l _ ms h2⟩;rcases h1 with h1 | ⟨_,h1⟩
   ·refine .inl ⟨?_,h1.dst,h1.ok,h1.guard⟩;unfold stOp
    split
    ·exact h1.op
    ·obtain ⟨t,x',y',g1,g2,g3,g4⟩:=awD h1.op;exact .inr (.inr (.inl ⟨t,x',y',sz,_,g1,g2,by rw [g3,g4]⟩))
   ·simp [bad] at h1
  | cX sz b x y=>
   simp only [n9,gS];refine ⟨?_,Jf rs l _ ms h2⟩;rcases h1 with h1 | ⟨_,h1⟩
   ·refine .inl ⟨?_,h1.dst,h1.ok,h1.guard⟩;unfold ahm
    split
    ·exact h1.op
    ·obtain ⟨k,hk⟩:=adl h1.op;exact .inr (.inr (.inr (.inl ⟨k,_,sz,b,x,y,hk,rfl⟩)))
   ·simp [bad] at h1
  | _=>
   simp only [n9,gS];exact ⟨h1,Jf rs l _ ms h2⟩
def aa1 {P:xa} {H:Hint} {ops:Array yZ}:∀(rs:List bf) (l:List yZ) (done:List bf),gS P H ops rs l->gS P H ops (Gk done rs) l
 | [],[],_,h=>h
 | [],_::_,_,h=>by simp [gS] at h
 | r::rs,[],done,h=>by simp [gS] at h
 | r::rs,o::l,done,h=>by
  simp only [gS] at h;obtain ⟨h1,h2⟩:=h;simp only [Gk,gS];refine ⟨?_,aa1 rs l _ h2⟩;obtain ⟨d,g,op⟩:=r
  cases op with
  | cX sz b x y=>
   simp only
   cases adh done x with
   | false=>exact h1
   | true=>
    simp only [yD];rcases h1 with h1 | ⟨_,h1⟩
    ·refine .inl ⟨?_,h1.dst,h1.ok,h1.guard⟩;obtain ⟨k,hk⟩:=adl h1.op;exact .inr (.inr (.inr (.inr ⟨k,sz,b,x,y,hk,rfl⟩)))
    ·simp [bad] at h1
  | _=>exact h1
end
section
variable {O:bl} {self:cG}
def aa2 {P:xa} {H:Hint} {ops:Array yZ}:∀{rs:List bf} {l:List yZ},gS P H ops rs l->rs.length=l.length/\∀(i:Nat) (r:bf) (o:yZ),rs[i]? =some r->l[i]? =some o->Pc P H ops r o\/(r.guard=none/\r.op=bad)
 | [],[],_=>⟨rfl,fun i r o h=>by simp at h⟩
 | [],_::_,h=>by simp [gS] at h
 | _::_,[],h=>by simp [gS] at h
 | r::rs,o::l,h=>by
  obtain ⟨h1,h2⟩:=aa2 h.2;refine ⟨by simp [h1],fun i r' o' hr ho=>?_⟩
  cases i with
  | zero=>simp at hr ho;subst hr;subst ho;exact h.1
  | succ i=>exact h2 i r' o' (by simpa using hr) (by simpa using ho)
def anr {m:Mp} {S:Nat->Prop} {w:ym} {hp:Hp} {ct:Nat} (hh:aV O m S w hp ct):Calm w {w with drawn:=w.drawn+1}:=⟨rfl,rfl,rfl,yq _,fun _ _=>rfl⟩
def atS (hO:eU O) (hC:oW O self) (h:Nat) (id:Nat) (ops:Array yZ) (draw:Bool) (k:Nat) {s s':St} (hv:dO O.prog O.aS self (Ol O.P (O.hint h) ops draw k).1 s=some s'):B9 O h (.region id ops draw) s .normal s':=by
 intro ro lo m S w a cI ht hh hb hn bj fa cg;unfold Ol at hv;have QJ:=Zi (P:=O.P) (H:=O.hint h) (ops:=ops) ops.toList k;generalize hq:Ds O.P (O.hint h) ops ops.toList k=q at hv QJ;obtain ⟨l,k'⟩:=q;simp only at hv QJ;have post:∀{a':Act} {m':Mp} {S':Nat->Prop} {w':ym},aV O m' S' w' s'.hp s'.ct->s.ct<=s'.ct->cf O m' S' w' s'.tm a'.tmps->cp m S w s.hp m' S' w' s'.hp s.ct->a'.tmps.size=a.tmps.size->a'.defers=a.defers->s'.base=s.base->ff O m S w s .normal s' a.tmps.size lo .normal a' w':=by
  intro a' m' S' w' h1 h2 h3 h4 h5 h6 h7;exact ⟨rfl,m',S',h3,h1,h7,by omega,h4.sZ hb,h5,by rw [h6];exact BD hh h4 cg⟩
 cases draw with
 | false=>
  simp only [yW] at hv;refine wpIn_region ?_;rw [List.range_eq_range'];have hl:ops.size=ops.toList.length:=by simp
  rw [hl];exact acg hC (hO.hint h) ops.toList l 0 s s' a m S w (fun j=>by simp) QJ hv ht hh hn (fun a' m' S' w' h1 h2 h3 h4 h5 h6 h7=>post h1 h2 h3 h4 h5 h6 h7)
 | true=>
  simp only [yD] at hv;have QK:∃rs,(BB ops.toList 0&&Ac [] rs (lU [] ops.toList))=true/\gS O.P (O.hint h) ops rs ops.toList/\dO O.prog O.aS self rs s=some s':=by
   have PL:=Jf l ops.toList [] (lU [] ops.toList) QJ
   cases jU:(BB ops.toList 0&&Ac [] (n9 [] l (lU [] ops.toList)) (lU [] ops.toList)) with
   | true=>
    rw [jU] at hv;exact ⟨_,jU,PL,hv⟩
   | false=>
    rw [jU] at hv;simp only [yW] at hv
    cases Vv:(BB ops.toList 0&&Ac [] (Gk [] (n9 [] l (lU [] ops.toList))) (lU [] ops.toList)) with
    | true=>
     rw [Vv] at hv;exact ⟨_,Vv,aa1 _ _ _ PL,hv⟩
    | false=>
     rw [Vv] at hv;simp [dO,bad,bg,er,aC] at hv
  clear hv;obtain ⟨rs,jU,PL,hv⟩:=QK
  ·simp only [yi] at jU;obtain ⟨hlen,ao⟩:=aa2 PL;obtain ⟨b6,bM,bG,vF,hR,e1,e2,e3,e4,e5,e6,e7⟩:=ach hv;have hG:sX O (O.hint h) self ops rs b6 bM bG vF:=by
    refine ⟨hR,by rw [hlen];simp,fun i r o hr ho=>?_,fun i j x y CM hx hy=>?_,fun i o ho e he hbd=>?_⟩
    ·rcases ao i r o hr (by simpa using ho) with g | ⟨g1,g2⟩
     ·exact g
     ·have:=hR.step i r hr
      simp [fq,g1,qH,g2,bad,bg,er,aC] at this
    ·obtain ⟨mm,g1,g2⟩:=YI (done:=[]) (i:=i) (j:=j) (a:=x) (b:=y) jU.2 (by simpa using hx) hy (by simpa using CM);refine g2.imp (fun g=>?_) (fun g=>by simpa using g);unfold Ord;rw [yM,g1];exact g
    ·have:=YD jU.1 (j:=i) (o:=o) (by simpa using ho) e he hbd
     omega
   refine wpIn_region_any hO.mixed ?_;have Ky:=anr hh;have iH:=Dl hh Ky (S':=S) (fun _ h=>h) (fun _ h=> .inl h) hh.slt
   have Hi:cp m S w s.hp m S {w with drawn:=w.drawn+1} s.hp (bG 0):=BF hh Ky (fun _ h=>h) (fun _ h=> .inl h);obtain ⟨c,c1,c2,c3,c4⟩:=Uk rs rs.length 0 (by omega);have hg:∀k',k'<=c->jf (bM 0) (bG 0) (bM (0+k')) (bG (0+k')):=fun k' oB=>
    NL hR (by rw [e2,e3];exact hh.aU) k' (by omega) (fun j r g1 g2 hr=>Jx hr (c3 j g1 (by omega)))
   have iZ:=hg c (yq _);rw [yg] at iZ;obtain ⟨S1,g1,g2,g3,g4⟩:=N3 (by rw [e2,e3];exact iH:aV O m S {w with drawn:=w.drawn+1} (bM 0) (bG 0)) iZ
   have sW:∀i,(tg ops.size false).getD i false=true->False:=fun i hi=>by
    simp only [vB] at hi;by_cases aU:i<ops.size
    ·simp [aU] at hi
    ·rw [Array.getElem?_eq_none (by simpa using aU)] at hi;simp at hi
   refine atQ (m0:=m) (S0:=S) (w0:=w) (n0:=a.tmps.size) (d0:=a.defers) hC (hO.hint h) hG hn (fun a' m' S' w' h1 h2 h3 h4 h5 h6=>?_) ops.size _ 0 c m S1 _ a (by simp) ?_ (fun j o _ hj=>(sW j hj).elim) ?_
   ·rw [e5,e6] at h1;rw [e3,e6] at h2;rw [e4] at h3;rw [e2,e3,e5] at h4;exact post h1 h2 h3 h4 h5 h6 e7
   ·unfold left;rw [List.countP_eq_length.2]
    ·simp
    ·intro i hi;simp only [uo]
     cases hq:(tg ops.size false).getD i false with
     | false=>rfl
     | true=>exact (sW i hq).elim
   ·refine ⟨uJ _,c2,fun i hi=>by omega,c3,c4.imp (fun h=>h) (fun h=>⟨h,fun hd=>sW c hd⟩),fun i r _ _ _ hd=>sW i hd,g1,fun id p hp=> .inl (by rw [e3];exact hh.lt id p hp),fun t=>⟨0,uJ _,fun i r _ _=>⟨fun hd=>(sW i hd).elim,fun h=>by omega⟩,?_⟩,?_,iZ.rh,rfl,rfl,.inl rfl,fun j hj=>?_⟩
    ·rw [e1];exact mv (fun _ _ h=>h) (fun b hb=>g2 b hb) (fun b hb=>Ky.same b (hh.slt b hb)) _ _ (ht t)
    ·rw [e2];have g5:=g4 (bG 0);rw [e2] at g5;exact Hi.trans g5
    ·have:=(hg j hj).lt
     rw [yg] at this;exact this
end
end
section
open Go
section
variable {O:bl} {m:Mp} {S:Nat->Prop} {w:ym} {hp:Hp} {ct:Nat}
def Zl (hh:aV O m S w hp ct) {g:Nat} {w':ym} (hw:One w w' g) (hg:¬S g) (ho:¬eE m hp g) (bj:O.w0.heap.size<=g):aV O m S w' hp ct:=by
 have aJ:fZ S w w':=fun b hb=>hw.other b (fun e=>hg (e▸hb))
 refine ⟨fun id o p h1 h2=>?_,hh.lt,hh.inj,fun b hb=>by rw [hw.size];exact hh.slt b hb,fun id p h=>by rw [hw.size];exact hh.blt id p h,hh.low,fun b hb=>?_,by rw [hw.size];exact hh.gH,hh.aU⟩
 ·exact sD (fun _ _ h=>h) (fun _ h=>h) aJ (fun q hq=>hw.other _ (fun e=>ho ⟨id,o,q,h1,hq,e⟩)) (fun _ _ h=>h) (hh.obj id o p h1 h2)
 ·rw [hw.other b (by omega)];exact hh.lj b hb
def Zm {P:xa} {b:Nat} {o:tH} (h:w.heap[b]? =some o) (hc:∀c t f,o≠.cells c t f):(getObj b).run P w= .ok o w:=by
 simp only [getObj,Sem.run,h]
def Ny {P:xa} {b:Nat} {o x:tH} (h:w.heap[b]? =some o) (hc:∀c t f,o≠.cells c t f):(setObj b x).run P w= .ok () {w with heap:=w.heap.setIfInBounds b x}:=by
 simp only [setObj,Sem.run,h]
def IV {P:xa} {b:Nat} {r:td} (h:w.heap[b]? =some (.loop r)):(Instr.getLoop b).run P w= .ok r w:=by
 simp only [Instr.getLoop,Sem.run_bind,Zm (P:=P) h (fun _ _ _=>by simp),Result.andThen_ok,Sem.run_pure]
def Jy (hh:aV O m S w hp ct) {l:Nat} {tm:Env} {ps:List Nat} {cT body:VC} {st:Nat} {pe:AI} {p:Pl} (hg:ao hp l=some (.lp tm ps cT body st pe)) (hm:m l=some p):
  ∃(r:td) (h:Nat),w.heap[p.b]? =some (.loop r)/\¬S p.b/\r.state=Ch st/\st<=2/\r.pending=Ap pe/\cf O m S w tm r.tmps/\r.params.toList=ps/\CH O.P (O.hint h) cT r.assign/\CH O.P (O.hint h) body r.body/\
   (O.hint h).n<=r.tmps.size/\Ax (O.hint h).n ps=true:=by
 obtain ⟨q,r,h,g1,g2,g3⟩:=hh.obj l _ p hg hm
 grind
def Z9 (hh:aV O m S w hp ct) {l:Nat} {tm:Env} {ps:List Nat} {cT body:VC} {st:Nat} {pe:AI} {p:Pl} (hg:ao hp l=some (.lp tm ps cT body st pe)) (hm:m l=some p) {r:td} (hr:w.heap[p.b]? =some (.loop r))
  {st':Nat} {pe':AI} (h2:st'<=2):
  aV O m S {w with heap:=w.heap.setIfInBounds p.b (.loop {r with state:=Ch st',pending:=Ap pe'})} (aT hp l (.lp tm ps cT body st' pe')) ct/\
  cp m S w hp m S {w with heap:=w.heap.setIfInBounds p.b (.loop {r with state:=Ch st',pending:=Ap pe'})} (aT hp l (.lp tm ps cT body st' pe')) ct:=by
 obtain ⟨r',h,g1,g2,g3,g4,g5,g6,g7,g8,g9,g10,g11⟩:=Jy hh hg hm;rw [hr] at g1;injection g1 with g1
 injection g1 with g1
 subst g1;have fT:=Fo w p.b (.loop {r with state:=Ch st',pending:=Ap pe'})
 refine Jd hh hg hm g2 fT ⟨p,{r with state:=Ch st',pending:=Ap pe'},h,hm,Nt hr,g2,rfl,h2,rfl,?_,g7,g8,g9,g10,g11⟩ (fun _ _=>⟨_,Nt hr⟩);exact BC (fun _ _ h=>h) (fun _ h=>h) (fun b hb=>fT.other b (fun e=>g2 (e▸hb))) g6
def aaa {n:Nat}:∀{ps:List Nat} {vs:List AV} {us:List yj} {tm tm':Env} {tmps:Array yj},sM tm ps vs=some tm'->aA O.ae m S w vs us->cf O m S w tm tmps->n<=tmps.size->Ax n ps=true->
  ps.length=us.length/\cf O m S w tm' ((ps.zip us).foldl (fun t (x:Nat×yj)=>t.setIfInBounds x.1 x.2) tmps)/\((ps.zip us).foldl (fun t (x:Nat×yj)=>t.setIfInBounds x.1 x.2) tmps).size=tmps.size
 | [],[],us,tm,tm',tmps,h,hr,ht,hn,ha=>by
  simp only [sM,ye] at h;simp only [aA] at hr
  simp_all
 | [],_::_,us,tm,tm',tmps,h,hr,ht,hn,ha=>by simp [sM] at h
 | _::_,[],us,tm,tm',tmps,h,hr,ht,hn,ha=>by simp [sM] at h
 | p::ps,v::vs,us,tm,tm',tmps,h,hr,ht,hn,ha=>by
  simp only [sM] at h;obtain ⟨u,t,rfl,h1,h2⟩:=hr;simp only [Ax,yi] at ha;have hp:=Ae.1 ha.1;have ht1:cf O m S w ((p,v)::tm) (tmps.setIfInBounds p u):=S5 (a:=⟨tmps,[]⟩) (d:=some p) ht (fun i hi=>by injection hi with hi;show i<tmps.size;omega) h1
  obtain ⟨g1,g2,g3⟩:=aaa (n:=n) h h2 ht1 (by simpa using hn) ha.2
  simp_all
def apj (ps:Array Tmp) (args:Array yj) (tmps:Array yj):(ps.zip args).foldl (fun tmps (x:Tmp×yj)=>tmps.setIfInBounds x.1 x.2) tmps=(ps.toList.zip args.toList).foldl (fun t (x:Nat×yj)=>t.setIfInBounds x.1 x.2) tmps:=by
 rw [<-Array.foldl_toList,Array.toList_zip]
def alz {P:xa} {b:Nat} {r:td} (h:w.heap[b]? =some (.loop r)) (jump:Option vn):
  (Instr.endRound b jump).run P w= .ok (.bool jump.isNone) {w with heap:=w.heap.setIfInBounds b (.loop {r with state:=if jump.isNone then .ready else .done,pending:=jump})}:=by
 simp only [Instr.endRound,Sem.run_bind,IV h,Result.andThen_ok,Ny (P:=P) h (fun _ _ _=>by simp),Sem.run_pure]
def alo {P:xa} {b:Nat} {r:td} (h:w.heap[b]? =some (.loop r)) (hs:r.state= .ready):
  (Instr.beginRound b).run P w= .ok () {w with heap:=w.heap.setIfInBounds b (.loop {r with state:= .busy})}:=by
 simp only [Instr.beginRound,Sem.run_bind,IV h,Result.andThen_ok,Ny (P:=P) h (fun _ _ _=>by simp),hs,Sem.run_pure]
def apk {self:cG} (hS:∀v s ex s',self v s=some (ex,s')->∀c h l k,(comp O.P (O.hint h) c l k).1=v->B9 O h c s ex s') {l:Nat} {xs:List AV} {v:AV} {ah:Hp} {aK:Nat}
  (hv:oU self hp ct l xs=some (v,ah,aK)):adi O hp ct l xs v ah aK:=by
 intro m S w args p hh hm gI;unfold oU at hv
 split at hv
 case h_2=>cases hv
 rename_i tm ps cT body pe hg;obtain ⟨r,h,g1,g2,g3,g4,g5,g6,g7,⟨ca,ka,g8⟩,⟨cb,kb,g9⟩,g10,g11⟩:=Jy hh hg hm
 cases hb:sM tm ps xs with
 | none=>simp [hb] at hv
 | some tm'=>
  simp only [hb] at hv;obtain ⟨b1,b2,b3⟩:=aaa hb gI g6 g10 g11;rw [<-g7] at b1 b2 b3;have fg:args.size=r.params.size:=by
   grind
  let tmps:Array yj:=(r.params.zip args).foldl (fun tmps (x:Tmp×yj)=>tmps.setIfInBounds x.1 x.2) r.tmps
  have ahu:tmps=(r.params.toList.zip args.toList).foldl (fun t (x:Nat×yj)=>t.setIfInBounds x.1 x.2) r.tmps:=apj _ _ _;refine ⟨r.fn,tmps,r.assign,r.body,?_,?_⟩
  ·simp only [Instr.yield,Sem.run_bind,IV g1,Result.andThen_ok,fg,uj,ycj,xn,Sem.run_pure];rfl
  refine roundIn_of_wpIn (F:=Fence.wide) trivial ?_
  cases h1:self cT ⟨tm',hp,ct,ct⟩ with
  | none=>simp [h1] at hv
  | some q=>
   obtain ⟨ex1,s1⟩:=q
   cases ex1 with
   | ret=>simp [h1] at hv
   | exit id=>simp [h1] at hv
   | normal=>
    simp only [h1] at hv;have eK:=hS _ _ _ _ h1 r.assign h ca ka g8;have cI:∀w',cp m S w hp m S w' hp ct->Aq (some p.b) w':=fun w' hf=>NN hf (fun l hl=>⟨r,by injection hl with hl;subst hl;exact g1⟩)
    refine wpIn_mono (eK (some p.b) w.heap.size m S w ⟨tmps,[]⟩ (cI w cp.refl) (by rw [ahu];exact b2) hh (yq _) (by show _<=tmps.size;rw [ahu,b3];exact g10) hh.gH (yq _) ⟨[],rfl,by simp,by simp⟩) ?_
    rintro e a1 w1 ⟨rfl,m1,S1,k1,k2,k3,k4,k5,k6,k7⟩;simp only [rT,Exit.then];have rm:m1 l=some p:=k5.old l p (hh.lt l p hm) hm
    split at hv
    case h_2=>cases hv
    rename_i ky Ev CG DZ A3 iZ;obtain ⟨r1,iH,f1,f2,f3,f4,f5,f6,f7,f8,f9,f10,f11⟩:=Jy k2 iZ rm;have Xd:=alo (P:=O.P) f1 f3;obtain ⟨q1,q2⟩:=Z9 k2 iZ rm f1 (st':=1) (pe':=A3) (by omega)
    have cO:({r1 with state:=Ch 1,pending:=Ap A3}:td)={r1 with state:= .busy}:=by rw [<-f5];rfl
    rw [cO] at q1 q2;refine ⟨_,Xd,?_⟩
    cases h2:self body ⟨s1.tm,aT s1.hp l (.lp ky Ev CG DZ 1 A3),s1.ct,s1.ct⟩ with
    | none=>simp [h2] at hv
    | some q=>
     obtain ⟨ex,s2⟩:=q;simp only [h2] at hv;have zG:=hS _ _ _ _ h2 r.body h cb kb g9
     have Ci:Aq (some p.b) {w1 with heap:=w1.heap.setIfInBounds p.b (.loop {r1 with state:= .busy})}:=fun l hl=>by
      grind
     have Xe:cf O m1 S1 {w1 with heap:=w1.heap.setIfInBounds p.b (.loop {r1 with state:= .busy})} s1.tm a1.tmps:=
      BC (fun _ _ h=>h) (fun _ h=>h) (fun b hb=>q2.still b hb) k1
     have ayB:(O.hint h).n<=a1.tmps.size:=by
      grind
     refine wpIn_mono (zG (some p.b) w.heap.size m1 S1 _ a1 Ci Xe q1 (yq _) ayB hh.gH (xv k5.size q2.size) (BD k2 q2 k7)) ?_;rintro e a2 w2 ⟨rfl,m2,S2,j1,j2,j3,j4,j5,j6,j7⟩;have QM:m2 l=some p:=j5.old l p (k2.lt l p rm) rm
     split at hv
     case h_2=>cases hv
     rename_i rX LV LW Ku pe2 Hr;obtain ⟨r2,Mc,d1,d2,d3,d4,d5,d6,d7,d8,d9,d10,d11⟩:=Jy j2 Hr QM;have ayC:cp m S w hp m2 S2 w2 s2.hp ct:=(k5.trans (q2.sZ k4)).trans (j5.sZ k4);have ahv:ct<=s2.ct:=xv k4 j4;have fin:∀(jump:Option vn) (st':Nat) (pe':AI),Ap pe'=jump->Ch st'=(if jump.isNone then .ready else .done)->st'<=2->
       ∃v' w',(Instr.endRound p.b jump).run O.P w2= .ok v' w'/\zY O m S w hp ct (.bool jump.isNone) (aT s2.hp l (.lp rX LV LW Ku st' pe')) s2.ct (.returned v') w':=by
      intro jump st' pe' e1 e2 e3;obtain ⟨z1,z2⟩:=Z9 j2 Hr QM d1 (st':=st') (pe':=pe') e3;rw [e1,e2] at z1 z2;exact ⟨_,_,alz d1 jump,_,m2,S2,rfl,z1,ahv,by simp [ai],ayC.trans (z2.sZ ahv)⟩
     cases ex with
     | normal=>
      simp only [ye,yr] at hv;obtain ⟨rfl,rfl,rfl⟩:=hv;simp only [rT,roundPost];exact fin none 0 .none rfl rfl (by omega)
     | ret=>
      simp only [Ud,ye,yr] at hv;obtain ⟨rfl,rfl,rfl⟩:=hv;simp only [rT,roundPost];exact fin (some .ret) 2 .ret rfl rfl (by omega)
     | exit id=>
      simp only [Ud,ye,yr] at hv;obtain ⟨rfl,rfl,rfl⟩:=hv;simp only [rT,roundPost];exact fin (some (.exit id)) 2 (.exit id) rfl rfl (by omega)
end
end
section
open Go
section
variable {O:bl} {self:cG}
def N6 {P:xa} {f:yao} {fn:Func} {args:Array yj} {w:ym} (hf:P.funcs[f]? =some fn) (hb:fn.body.isSome=true) (hn:fn.name≠ "runtime.NumGoroutine"):(callFunc f args).run P w= .ok (.enter f args) w:=by
 have h1:fn.body≠none:=fun e=>by rw [e] at hb;cases hb
 simp [callFunc,program,Sem.run,hf,h1,hn]
def R6 {P:xa} {H:Hint} {fn:Func} {F:av} (h:FO P H fn=some F):∃c,fn.body=some c/\F.body=(comp P H c 0 0).1/\qt P fn.results.toList=some F.fm/\H.n<=fn.ntmps:=by
 unfold FO at h
 split at h
 ·rename_i c rs h1 h2
  cases hb:yK H.n fn.ntmps with
  | false=>rw [hb] at h;cases h
  | true=>
   rw [hb] at h;simp only [yD,ye] at h;subst h
   simp_all
 ·cases h
def apl {m:Mp} {S:Nat->Prop} {w:ym} {hp:Hp} {ct:Nat} {tm:Env} {a:Act} {ro:Option Nat} (fn:yao) (ps:Array Tmp) (assign body:vn) {cT b':VC} {h:Nat} (hh:aV O m S w hp ct) (ht:cf O m S w tm a.tmps) (cI:Aq ro w)
  (Me:CH O.P (O.hint h) cT assign) (Xf:CH O.P (O.hint h) b' body) (hn:(O.hint h).n<=a.tmps.size) (iY:Ax (O.hint h).n ps.toList=true) {lo:Nat} (fa:lo<=w.heap.size) (cg:Marks lo S w a.defers):
  ∃l mark w1,(Instr.enterLoop fn a.tmps ps assign body ro).run O.P w= .ok (l,mark) w1/\aV O (fS m ct ⟨l,0,0,0⟩) S w1 ((ct,.lp tm ps.toList cT b' 0 .none)::hp) (ct+1)/\
   cp m S w hp (fS m ct ⟨l,0,0,0⟩) S w1 ((ct,.lp tm ps.toList cT b' 0 .none)::hp) ct/\m ct=none/\Marks lo S w1 (mark++a.defers)/\w.heap.size<=l:=by
 have bL:m ct=none:=by
  cases hq:m ct with
  | none=>rfl
  | some p=>have:=hh.lt ct p hq;omega
 have lay:∀(w':ym) (d:Nat),Calm w w'->Marks lo S w' a.defers->
   aV O (fS m ct ⟨w'.heap.size,0,0,0⟩) S (w'.alloc (.loop {state:= .ready,pending:=none,fn:=fn,tmps:=a.tmps,params:=ps,assign:=assign,body:=body,defers:=d})) ((ct,.lp tm ps.toList cT b' 0 .none)::hp) (ct+1)/\
   cp m S w hp (fS m ct ⟨w'.heap.size,0,0,0⟩) S (w'.alloc (.loop {state:= .ready,pending:=none,fn:=fn,tmps:=a.tmps,params:=ps,assign:=assign,body:=body,defers:=d})) ((ct,.lp tm ps.toList cT b' 0 .none)::hp) ct:=by
  intro w' d hw ahw;have iH:aV O m S w' hp ct:=Dl hh hw (fun _ h=>h) (fun _ h=> .inl h) (fun b hb=>yV (hh.slt b hb) hw.size);have Hi:cp m S w hp m S w' hp ct:=BF hh hw (fun _ h=>h) (fun _ h=> .inl h);have hg:jf hp ct ((ct,.lp tm ps.toList cT b' 0 .none)::hp) (ct+1):=by
   refine ⟨fun id o ho=>⟨o,?_,jF.refl o⟩,by omega,fun id o ho=>?_,fun id o ho hi=>?_⟩
   ·rw [fX,yo (by have:=hh.aU id o ho;omega)];exact ho
   ·rw [fX] at ho;by_cases hc:ct=id
    ·omega
    ·simp only [hc,xn] at ho;have:=hh.aU id o ho;omega
   ·rw [fX,yo (by omega)] at ho;exact ⟨o,ho⟩
  have e9:∀i q,ao ((ct,Obj.lp tm ps.toList cT b' 0 .none)::hp) i=some q->i≠ct->ao hp i=some q:=fun i q h hi=>by
   rw [fX,yo (fun e=>hi e.symm)] at h;exact h
  have Mc:aV O m S w' ((ct,.lp tm ps.toList cT b' 0 .none)::hp) (ct+1):=by
   have ck:∀id p,m id=some p->id≠ct:=fun id p hm e=>by have:=hh.lt id p hm;omega
   exact ⟨fun id o p ho hm=>iH.obj id o p (e9 id o ho (ck id p hm)) hm,fun id p hm=>by have:=hh.lt id p hm;omega,
    fun i j oi oj pi pj hi hj bL gX e=>iH.inj i j oi oj pi pj (e9 i oi hi (ck i pi bL)) (e9 j oj hj (ck j pj gX)) bL gX e,iH.slt,iH.blt,iH.low,iH.lj,iH.gH,hg.lt⟩
  have pK:fH O (fS m ct ⟨w'.heap.size,0,0,0⟩) S (w'.alloc (.loop {state:= .ready,pending:=none,fn:=fn,tmps:=a.tmps,params:=ps,assign:=assign,body:=body,defers:=d})) ct (.lp tm ps.toList cT b' 0 .none):=by
   refine ⟨⟨w'.heap.size,0,0,0⟩,_,h,dW,heap_alloc_new w' _,?_,rfl,by omega,rfl,?_,rfl,Me,Xf,hn,iY⟩
   ·intro hS
    have:=iH.slt _ hS
    simp at this
   ·exact BC (jO bL) (fun _ h=>h) (fun b hb=>(IY iH _ b hb).trans (hw.same b (hh.slt b hb))) ht
  obtain ⟨S',k1,k2,k3⟩:=SV (i:=ct) (p:=⟨w'.heap.size,0,0,0⟩) Mc bL (by omega) rfl (fun o ho=>by
   rw [fX] at ho;simp only [xE,ye] at ho;subst ho
   exact .inl ⟨pK,by simp [je]⟩)
  have k1':aV O (fS m ct ⟨w'.heap.size,0,0,0⟩) S (w'.alloc (.loop {state:= .ready,pending:=none,fn:=fn,tmps:=a.tmps,params:=ps,assign:=assign,body:=body,defers:=d})) ((ct,.lp tm ps.toList cT b' 0 .none)::hp) (ct+1):=by
   have L4:∀id q,m id=some q->q.b≠w'.heap.size:=fun id q hq=>by have:=iH.blt id q hq;omega
   refine ⟨?_,k1.lt,k1.inj,fun b hb=>k1.slt b (k2 b hb),k1.blt,k1.low,k1.lj,k1.gH,k1.aU⟩;intro id o q ho hm;by_cases hc:id=ct
   ·subst hc;rw [fX] at ho
    grind
   ·rw [eG hc] at hm;exact sD (jO bL) (fun _ h=>h) (IY iH _) (fun q' bI=>alloc_old (iH.blt id q' bI)) (fun _ _ h=>h) (iH.obj id o q (e9 id o ho hc) hm)
  refine ⟨k1',Hi.trans ⟨rfl,rfl,rfl,by simp,fun b hb _=>alloc_old hb,fun _ h=>h,fun b hb=>IY iH _ b hb,fun b hb=> .inl hb,?_,fun i q _ hq=>jO bL i q hq,fun b r hb=>⟨r,(alloc_old (xF.1 hb).1).trans hb⟩⟩⟩;rintro b ⟨i,o,q,g1,g2,g3⟩;by_cases hc:i=ct
  ·subst hc;rw [dW] at g2
   grind
  ·rw [eG hc] at g2;exact .inl ⟨i,o,q,e9 i o g1 hc,g2,g3⟩
 cases ro with
 | none=>
  have Ky:Calm w (w.alloc (.deferred (some []))):=⟨rfl,rfl,rfl,by simp,fun b hb=>alloc_old hb⟩;obtain ⟨rs,r1,r2,r3⟩:=cg;have ayD:Marks lo S (w.alloc (.deferred (some []))) a.defers:=⟨rs,r1,r2,fun r hr=>⟨(alloc_old (xF.1 (r3 r hr).1).1).trans (r3 r hr).1,(r3 r hr).2⟩⟩;obtain ⟨k1,k2⟩:=lay (w.alloc (.deferred (some []))) w.heap.size Ky ayD
  refine ⟨(w.alloc (.deferred (some []))).heap.size,[{target:= .collected w.heap.size,args:=#[]}],_,?_,k1,k2,bL,?_,by simp⟩
  ·simp [Instr.enterLoop,newObj,Sem.run]
  ·have hold:∀(b:Nat) (x:tH),(w.alloc (.deferred (some []))).heap[b]? =some x->((w.alloc (.deferred (some []))).alloc (.loop {state:= .ready,pending:=none,fn:=fn,tmps:=a.tmps,params:=ps,assign:=assign,body:=body,defers:=w.heap.size})).heap[b]? =some x:=fun b x hb=>
    (alloc_old (xF.1 hb).1).trans hb
   refine ⟨w.heap.size::rs,by rw [r1];rfl,?_,?_⟩
   ·grind
   ·intro r hr;rcases wJ.1 hr with rfl | hr
    ·exact ⟨hold _ _ (heap_alloc_new w _),fun hs=>by have:=hh.slt _ hs;omega,fa⟩
    ·exact ⟨hold _ _ ((alloc_old (xF.1 (r3 r hr).1).1).trans (r3 r hr).1),(r3 r hr).2⟩
 | some l0=>
  obtain ⟨r0,fF⟩:=cI l0 rfl;obtain ⟨k1,k2⟩:=lay w r0.defers Calm.refl cg;refine ⟨w.heap.size,[],_,?_,k1,k2,bL,?_,yq _⟩
  ·simp [Instr.enterLoop,IV fF,newObj,Sem.run]
  ·exact BD hh k2 cg
def awE (hO:eU O) (hC:oW O self) {h:Nat} {f:xC} {ps:Array Tmp} {assign body:vn} {cT b':VC} (Me:CH O.P (O.hint h) cT assign) (Xf:CH O.P (O.hint h) b' body) (iY:Ax (O.hint h).n ps.toList=true)
  {s:St} {ex:Ex} {s':St} (hv:bF O.prog O.aS self (.rf (aP (O.hint h) f) ps.toList cT b') s=some (ex,s')):B9 O h (.rangeFunc f ps assign body) s ex s':=by
 intro ro lo m S w a cI ht hh hb hn bj fa cg;simp only [bF] at hv
 split at hv
 case h_2=>cases hv
 rename_i n first cap hx
 split at hv
 case h_1=>cases hv
 rename_i hL
 cases he:ix O.prog O.aS self ((s.ct,.lp s.tm ps.toList cT b' 0 .none)::s.hp) (s.ct+1) n (first++(.fn (.y s.ct) [] []::cap)) with
 | none=>simp [he] at hv
 | some q=>
  obtain ⟨v,a6,pN⟩:=q;simp only [he] at hv
  split at hv
  case h_2=>cases hv
  rename_i rX LV LW Ku st pe Hr
  cases aJ:yz st 1 with
  | true=>rw [aJ] at hv;cases hv
  | false=>
   rw [aJ] at hv;simp only [yW] at hv;refine wpIn_rangeFunc (fun fn _=>?_);obtain ⟨l,mark,w1,e1,e2,e3,e4,e5,e6⟩:=apl (ro:=ro) fn ps assign body hh ht cI Me Xf hn iY fa cg;have rf:=cE (hO.hint h) ht f;rw [hx] at rf;simp only [ai] at rf;obtain ⟨fi,ca,hf,r2,r3⟩:=rf;have hle:=jO e4 (p:=⟨l,0,0,0⟩);have GB:fZ S w w1:=fun b hb=>e3.still b hb
   have gI:aA O.ae (fS m s.ct ⟨l,0,0,0⟩) S w1 (first++(.fn (.y s.ct) [] []::cap)) (fi++#[Value.func (.yield l) #[] #[]]++ca).toList:=by
    have:=mr (iv hle (fun _ h=>h) GB _ _ r2) (mr (a:=[.fn (.y s.ct) [] []]) (x:=[Value.func (.yield l) #[] #[]]) (by
     simp only [aA]
     exact ⟨_,[],rfl,by simp only [ai];exact ⟨_,dW,rfl⟩,rfl⟩) (iv hle (fun _ h=>h) GB _ _ r3))
    grind
   have UN:=hC.heap _ _ _ _ _ _ _ he _ S w1 _ e2 gI;have hP:∃F,O.prog n=some F:=by
    unfold ix at he;rw [hL] at he
    cases hq:O.prog n with
    | none=>simp [hq] at he
    | some F=>exact ⟨F,rfl⟩
   obtain ⟨F,hF⟩:=hP;obtain ⟨fn',q1,q2,q3⟩:=hO.prog n F hF;obtain ⟨cb,q4,_⟩:=R6 q2;have gm:(callFunc (O.ae n) (fi++#[Value.func (.yield l) #[] #[]]++ca)).run O.P w1= .ok (.enter (O.ae n) (fi++#[Value.func (.yield l) #[] #[]]++ca)) w1:=N6 q1 (by rw [q4];rfl) q3
   refine ⟨l,mark,w1,{target:= .fn (.func (O.ae n)) ca,args:=fi++#[Value.func (.yield l) #[] #[]]},w1,O.ae n,fi++#[Value.func (.yield l) #[] #[]]++ca,w1,e1,?_,fun _ _=>trivial,?_,fun hd=>by simp [WF,Fence.wide] at hd,?_⟩
   ·show Sem.run O.P (Deferred.ofValue (a.eval f) _) w1=_
    rw [hf];simp [Deferred.ofValue,Act.eval]
   ·simp only [invoke];exact gm
   ·rcases UN with ⟨_,UN⟩ | ⟨u,w',h1,_⟩
    case inr=>rw [gm] at h1;cases h1
    have atT:CallsIn (WF ro) 0 O.P (O.ae n) (fi++#[Value.func (.yield l) #[] #[]]++ca) w1 (zY O (fS m s.ct ⟨l,0,0,0⟩) S w1 ((s.ct,.lp s.tm ps.toList cT b' 0 .none)::s.hp) (s.ct+1) v a6 pN):=UN;refine CallsIn.mono atT ?_;rintro e w3 ⟨u,m',S',rfl,k1,k2,k3,k4⟩;have iG:m' s.ct=some ⟨l,0,0,0⟩:=k4.old s.ct _ (tF _) dW;obtain ⟨r,Mc,d1,d2,d3,d4,d5,d6,_⟩:=Jy k1 Hr iG;have rn:(r.state==LoopState.busy)=false:=by
     rw [d3];rcases st with _ | _ | st
     ·rfl
     ·simp_all
     ·have:st=0:=by omega
      subst this;rfl
    have fT:=Fo w3 l (.loop {r with state:= .exhausted});have hdl:=aaW k1 s.ct;have pM:¬eE m' (dJ a6 s.ct) l:=YQ k1 Hr iG
    have z1:aV O m' S' {w3 with heap:=w3.heap.setIfInBounds l (.loop {r with state:= .exhausted})} (VE.dJ a6 s.ct) pN:=Zl hdl fT d2 pM (by have:=hh.gH;omega)
    have z2:cp m' S' w3 a6 m' S' {w3 with heap:=w3.heap.setIfInBounds l (.loop {r with state:= .exhausted})} (VE.dJ a6 s.ct) s.base:=by
     refine ⟨rfl,rfl,rfl,by rw [fT.size];exact yq _,fun b _ hb=>fT.other b (fun e=>hb (e▸JO Hr iG)),fun _ h=>h,fun b hb=>fT.other b (fun e=>d2 (e▸hb)),fun b hb=> .inl hb,fun b hb=> .inl (ace hb),fun _ _ _ h=>h,fun b x hb=>?_⟩
     grind
    have Vw:cp m S w s.hp m' S' {w3 with heap:=w3.heap.setIfInBounds l (.loop {r with state:= .exhausted})} (VE.dJ a6 s.ct) s.base:=
     ((e3.sZ hb).trans (k4.sZ (by omega))).trans z2
    have PM:(Instr.endLoop l).run O.P w3= .ok (Ap pe) {w3 with heap:=w3.heap.setIfInBounds l (.loop {r with state:= .exhausted})}:=by
     simp only [Instr.endLoop,Sem.run_bind,IV d1,Result.andThen_ok,rn,yN,xn,Sem.run_pure,Ny (P:=O.P) d1 (fun _ _ _=>by simp),d5]
    have ahw:Marks lo S' {w3 with heap:=w3.heap.setIfInBounds l (.loop {r with state:= .exhausted})} (mark++a.defers):=BD k1 z2 (BD e2 k4 e5)
    have Bb:cf O m' S' {w3 with heap:=w3.heap.setIfInBounds l (.loop {r with state:= .exhausted})} s.tm a.tmps:=by
     refine BC (fun id p hp=>?_) Vw.sub (fun b hb=>Vw.still b hb) ht;have h1:=hh.lt id p hp;exact k4.old id p (by omega) (hle id p hp)
    have post:∀Xg,s'={s with hp:=VE.dJ a6 s.ct,ct:=pN}->ex=Xg->ff O m S w s ex s' a.tmps.size lo (rT Xg) {a with defers:=mark++a.defers} {w3 with heap:=w3.heap.setIfInBounds l (.loop {r with state:= .exhausted})}:=by
     rintro Xg rfl rfl;exact ⟨rfl,m',S',Bb,z1,rfl,by show s.base<=pN;omega,Vw,rfl,ahw⟩
    refine ⟨_,_,PM,?_⟩
    cases pe with
    | none=>
     simp only [ye,yr] at hv;exact post .normal hv.2.symm hv.1.symm
    | ret=>
     simp only [ye,yr] at hv;exact wpIn_ret (post .ret hv.2.symm hv.1.symm)
    | exit id=>
     simp only [ye,yr] at hv;exact wpIn_exit (post (.exit id) hv.2.symm hv.1.symm)
end
end
end VE
