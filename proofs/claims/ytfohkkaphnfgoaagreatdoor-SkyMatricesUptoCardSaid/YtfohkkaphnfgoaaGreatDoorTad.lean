import Derived.RangeFuncLeaves
import Derived.OrdersIn
import Derived.LoopNIn
import Derived.RangeFuncIn
import Derived.Test.YtfohkkaphnfgoaaGreatDoorTac
set_option linter.all false
set_option maxRecDepth 100000
open Array renaming getD_eq_getD_getElem?→wR,getElem?_eq_some_iff→xv,replicate→ux
open Bool renaming and_eq_true→ye,false_eq_true→yF,not_eq_true'→ua,or_eq_false_iff→tM,or_eq_true→uU
open Classical renaming em→vS
open Go renaming Call→uL,Code→wQ,Deferred→uV,Exit→vX,FuncId→tF,Oper→y8,Operand→xy,Program→xi,RoundIn→yai,Value→yf,World→yj
open List renaming countP_cons→yak,getElem?_cons_zero→vn,getElem?_eq_some_iff→wk,length_append→yW,length_cons→yC,length_nil→yK,mem_append→wH,mem_cons→wq,mem_cons_of_mem→xS
open Nat renaming beq→yv,ble→yE,eq_of_beq_eq_true→yo,eq_or_lt_of_le→wO,eq_zero_or_pos→xt,le_of_lt_succ→tg,le_refl→yr,le_trans→xn,lt_or_ge→vc,strongRecOn→vV,testBit→uf,zero_add→yd,zero_le→tq
open Ne renaming symm→ybA
open Option renaming bind_some→xO,getD_some→wU
open Option.some renaming injEq→yc
open Prod.mk renaming injEq→yq
namespace VE
section
open Go
def WF (ro:Option Nat):Fence:={Fence.wide with round:=ro}
section
variable {O:bt}
def ab4 (O:bt) (hp:Hp) (ct:Nat) (l:Nat) (xs:List AV) (v:AV) (ap:Hp) (bc:Nat):Prop:=
 ∀(m:Mp) (S:Nat->Prop) (w:yj) (args:Array yf) (p:Pl),aX O m S w hp ct->m l=some p->av O.ai m S w xs args.toList->
  ∃f tmps assign body,(Instr.yield p.b args).run O.P w= .ok (.round p.b f tmps assign body) w/\yai Fence.wide 0 O.P p.b f tmps assign body w (zB O m S w hp ct v ap bc)
structure nY (O:bt) (run:cD):Prop where
 pure:∀n aq r,bQ O.prog O.aW run n aq=some r->eS O n aq r
 heap:∀hp ct n aq v ap bc,je O.prog O.aW run hp ct n aq=some (v,ap,bc)->Bq O n hp ct aq v ap bc
 round:∀hp ct l xs v ap bc,nX run hp ct l xs=some (v,ap,bc)->ab4 O hp ct l xs v ap bc
end
section
variable {P:xi} {o:y8} {a:Act} {w:yj} {ro:Option Nat} {next:Act->yj->Prop} {Q:vX->Act->yj->Prop}
def MG {c:uL} {f:xy} (ho:o.op= .call c) (hc:c.callee= .value f) {g:tF} {fi ca:Array yf} (hf:a.eval f= .func (.func g) fi ca) {R:Ending->yj->Prop}
  (h:A9 P g (fi++c.args.map a.eval++ca) w R) (hn:∀e w',R e w'->∃u,e= .returned u/\next (a.put o.dst u) w'):o.wpIn (WF ro) 0 P a w next Q:=by
 have gS:(o.semAt ro a.eval).run P w=(callFunc g (fi++c.args.map a.eval++ca)).run P w:=by
  rw [Oper.semAt_eq _ _ _ (fun c' h'=>by rw [ho] at h';cases h')];simp only [execOp,ho,resolve,hc,Deferred.ofValue,hf,Sem.run_bind,Sem.run_pure,Result.andThen_ok,invoke]
 refine ⟨fun _ _=>trivial,?_⟩;show o.uponIn (WF ro) 0 P a next Q ((o.semAt ro a.eval).run P w)
 rw [gS];rcases h with ⟨h1,h2⟩ | ⟨u,w',h1,h2⟩
 ·rw [h1,Oper.uponIn_enter];refine ⟨fun h=>by simp [WF,Fence.wide] at h,?_⟩;have h3:CallsIn (WF ro) 0 P g (fi++c.args.map a.eval++ca) w R:=h2;refine CallsIn.mono h3 (fun e w' he=>?_);obtain ⟨u,rfl,hq⟩:=hn e w' he;exact hq
 ·rw [h1];obtain ⟨u',e,hq⟩:=hn _ _ h2;injection e with e
  subst e;exact hq
def al8 {c:uL} {f:xy} (ho:o.op= .call c) (hc:c.callee= .value f) {l:Nat} (hf:a.eval f= .func (.yield l) #[] #[]) {R:Ending->yj->Prop} {g:tF} {tmps:Array yf} {assign body:wQ}
  (hy:(Instr.yield l (c.args.map a.eval)).run P w= .ok (.round l g tmps assign body) w) (h:yai Fence.wide 0 P l g tmps assign body w R) (hn:∀e w',R e w'->∃u,e= .returned u/\next (a.put o.dst u) w'):o.wpIn (WF ro) 0 P a w next Q:=by
 have gS:(o.semAt ro a.eval).run P w= .ok (.round l g tmps assign body) w:=by
  rw [Oper.semAt_eq _ _ _ (fun c' h'=>by rw [ho] at h';cases h')];simp only [execOp,ho,resolve,hc,Deferred.ofValue,hf,Sem.run_bind,Sem.run_pure,Result.andThen_ok,invoke,Array.empty_append];exact hy
 refine ⟨fun _ _=>trivial,?_⟩;show o.uponIn (WF ro) 0 P a next Q ((o.semAt ro a.eval).run P w)
 rw [gS,Oper.uponIn_round];refine ⟨fun h=>by simp [WF,Fence.wide] at h,?_⟩;have h3:yai (WF ro) 0 P l g tmps assign body w R:=h;refine RoundIn.mono h3 (fun e w' he=>?_);obtain ⟨u,rfl,hq⟩:=hn e w' he;exact hq
def NR {n:Next} {u:yf} {w':yj} (hd:∀c,o.op≠.defer c) (h:(execOp a.eval o).run P w= .ok n w') (hn:n= .value u\/(n= .skip/\u=undef)) (hq:next (a.put o.dst u) w'):o.wpIn (WF ro) 0 P a w next Q:=by
 refine ⟨fun _ _=>trivial,?_⟩;show o.uponIn (WF ro) 0 P a next Q ((o.semAt ro a.eval).run P w)
 rw [Oper.semAt_eq _ _ _ hd,h];rcases hn with rfl | ⟨rfl,rfl⟩
 ·exact hq
 ·exact hq
end
def Aa (P:xi) (H:Hint) (q:Op) (o:y8):Prop:=
 (∃k,q=bq P H k o)\/(∃c f rs,o.op= .call c/\c.callee= .value f/\q= .jf rs (aS H f) (ie H c.args.toList))\/
  ∃t x y sz rs,o.op= .store t x y/\cL P t=some sz/\q= .jP rs sz (aS H x) (aS H y)
def nA:Op->Op
 | .jf _ f xs=> .jf [] f xs
 | .jP _ s x v=> .st s x v
 | o=>o
section
variable {O:bt} {H:Hint} {m:Mp} {S:Nat->Prop} {w:yj} {tm:Env} {a:Act} {hp:Hp} {ct:Nat} {self:cD} {ro:Option Nat} {next:Act->yj->Prop} {Q:vX->Act->yj->Prop}
def ND {o:y8} {k:Nat} {md:Md} {x:X} {xs:List X} (h:bq O.P H k o= .call md x xs) (hb:x≠.c .undef):∃c f,o.op= .call c/\c.callee= .value f/\x=aS H f/\xs=ie H c.args.toList:=by
 have nb:bad= .call md x xs->False:=fun h=>by simp only [bad,Op.call.injEq] at h;exact hb h.2.1.symm
 cases ho:o.op with
 | call c=>
  obtain ⟨callee,args,ts⟩:=c;simp only [bq,ho] at h
  split at h
  ·rename_i f;cases hm:H.mode k<;>simp only [hm,Op.call.injEq,reduceCtorEq] at h
   all_goals exact ⟨_,f,rfl,rfl,h.2.1.symm,h.2.2.symm⟩
  ·repeat' split at h
   all_goals first
    | exact (nb h).elim
    | (cases h;done)
    | (revert h;generalize yv _ _=bb;intro h;cases bb<;>first | exact (nb h).elim | (cases h;done))
  ·exact (nb h).elim
 | binOp op t x' y ty=>
  cases op<;>simp only [bq,ho,rZ,zG] at h
  case eql=>
        repeat' split at h
        all_goals first
         | exact (nb h).elim
         | (cases h;done)
         | (cases cR:(O.P.stoodInHeld t||O.P.eqGuardType O.P.depth t)<;>rw [cR] at h<;>first | exact (nb h).elim | (cases h;done))
  case neq=>
        repeat' split at h
        all_goals first
         | exact (nb h).elim
         | (cases h;done)
         | (cases cR:(O.P.stoodInHeld t||O.P.eqGuardType O.P.depth t)<;>rw [cR] at h<;>first | exact (nb h).elim | (cases h;done))
  all_goals cases h
 | buildSlice t n parts=>
  simp only [bq,ho] at h
  repeat' split at h
  all_goals first
   | exact (nb h).elim
   | (cases h;done)
   | (revert h;generalize yE _ _=bb;intro h;cases bb<;>first | exact (nb h).elim | (simp only [yz] at h;cases h;done))
 | makeMap t r=>
  cases r<;>simp only [bq,ho] at h
  ·repeat' split at h
   all_goals first
    | exact (nb h).elim
    | (cases h;done)
  ·exact (nb h).elim
 | next x' b=>
  cases b<;>simp only [bq,ho] at h
  ·exact (nb h).elim
  ·cases h
 | _=>
  simp only [bq,ho] at h
  (repeat' split at h)
  all_goals first
   | contradiction
   | exact (nb h).elim
   | (cases h;done)
def aje {o:y8} {k:Nat} {r:AV×Hp×Nat} (hv:br O.prog O.aW self tm hp ct (bq O.P H k o)=some r):∀c,o.op≠.defer c:=by
 intro c ho;simp [bq,ho,bad,br,eY,aA] at hv
end
end
section
open Go
section
variable {O:bt} {H:Hint} {m:Mp} {S:Nat->Prop} {w:yj} {tm:Env} {a:Act} {hp ap Hq:Hp} {ct bc cH:Nat} {self:cD} {ro:Option Nat} {next:Act->yj->Prop} {Q:vX->Act->yj->Prop}
def akg {g:Go.Obj} {p:Pl} {S':Nat->Prop} {base:Nat} (hh:aX O m S w Hq cH) (hi:m ct=none) (hb:p.b=w.heap.size) (h1:∀b,S b->S' b) (h2:∀b,S' b->S b\/b=w.heap.size):
  ck m S w Hq (fI m ct p) S' (w.alloc g) Hq base where
 os:=rfl
 tape:=rfl
 output:=rfl
 size:=by simp
 same b hb _:=alloc_old hb
 sub:=h1
 still b hb:=alloc_old (hh.slt b hb)
 new b hb:=(h2 b hb).imp (fun h=>h) (fun h=> .inr (by omega))
 own b hb:=by
  obtain ⟨i,o,q,g1,g2,g3⟩:=hb;by_cases hc:i=ct
  ·subst hc;rw [eE] at g2
   grind
  ·rw [eD hc] at g2;exact .inl ⟨i,o,q,g1,g2,g3⟩
 old i q _ h:=kQ hi i q h
 loops b r hb:=⟨r,(alloc_old (xv.1 hb).1).trans hb⟩
def Yn {N8 aq:List AV} {us:List yf} {bB:Hp} (hz:cC deep hp N8=some (aq,bB)) (hl:de bB Hq) (hh:aX O m S w Hq cH) (hr:av O.ai m S w N8 us):av O.ai ff S w aq us/\aH aq=true:=by
 obtain ⟨_,_,h3⟩:=Ry (O:=O) hz;obtain ⟨k1,k2⟩:=h3 Hq m S w cH hl hh;exact ⟨zA (fun _ h=>h) (fun _ _=>rfl) _ _ k2 (k1 us hr),k2⟩
def SN (hh:aX O m S w Hq cH):Bp O w:=⟨hh.iH,hh.fY⟩
def M9 (hH:fN O H) (ht:cd O m S w tm a.tmps) {f:xy} {g:Nat} {first cap:List AV} {args:Array xy} (hf:aA tm (aS H f)= .fn (.f g) first cap):
  ∃fi ca:Array yf,a.eval f= .func (.func (O.ai g)) fi ca/\av O.ai m S w (first++(dC tm (ie H args.toList)++cap)) (fi++args.map a.eval++ca).toList:=by
 have rf:=cF hH ht f;rw [hf] at rf;obtain ⟨fi,ca,h1,h2,h3⟩:=rf;refine ⟨fi,ca,h1,?_⟩
 have:=mg h2 (mg (C0 hH ht args.toList) h3)
 simp_all
def ajf (hC:nY O self) (hH:fN O H) {o:y8} {c:uL} {f:xy} (ho:o.op= .call c) (iZ:c.callee= .value f) {g:Nat} {first cap aq:List AV} {bB:Hp} {r:AV}
  (hf:aA tm (aS H f)= .fn (.f g) first cap) (hz:cC deep hp (first++(dC tm (ie H c.args.toList)++cap))=some (aq,bB)) (hr:bQ O.prog O.aW self g aq=some r)
  (hl:de bB Hq) (ht:cd O m S w tm a.tmps) (hh:aX O m S w Hq cH)
  (hn:∀u S' w',aX O m S' w' Hq cH->aj O.ai m S' w' (shut r) u->ck m S w Hq m S' w' Hq cH->next (a.put o.dst u) w'):o.wpIn (WF ro) 0 O.P a w next Q:=by
 obtain ⟨fi,ca,h1,h2⟩:=M9 hH ht (args:=c.args) hf;obtain ⟨h3,h4⟩:=Yn hz hl hh h2;refine MG ho iZ h1 (hC.pure g aq r hr w S _ (SN hh) hh.slt h3 h4) ?_;rintro e w' ⟨u,S',rfl,hw,g1,g2,g3,g4⟩;refine ⟨u,rfl,?_⟩;obtain ⟨S2,k1,k2,k3⟩:=Zt g4 m;have hS:∀b,S b->S2 b:=fun b hb=>k1 b (g1 b hb)
 have Ld:∀b,S2 b->S b\/w.heap.size<=b:=fun b hb=>(k2 b hb).elim (g2 b) (fun h=> .inr h.1)
 have hl:∀b,S2 b->b<w'.heap.size:=fun b hb=>(k2 b hb).elim (g3 b) (fun h=>h.2)
 exact hn u S2 w' (EX hh hw hS Ld hl) k3 (CN hh hw hS Ld)
def akh (hC:nY O self) (hH:fN O H) {o:y8} {c:uL} {f:xy} (ho:o.op= .call c) (iZ:c.callee= .value f) {g:Nat} {first cap aq:List AV} {bB:Hp} {r:AV}
  (hf:aA tm (aS H f)= .fn (.f g) first cap) (hz:cC deep hp (first++(dC tm (ie H c.args.toList)++cap))=some (aq,bB)) (hr:bQ O.prog O.aW self g aq=some r)
  (hl:de (own bB ct r).2.1 Hq) (iv:(own bB ct r).2.2<=cH) (a7:∀id o,az hp id=some o->id<ct) (B7:∀id,ct<=id->id<(own bB ct r).2.2->m id=none)
  (ht:cd O m S w tm a.tmps) (hh:aX O m S w Hq cH)
  (hn:∀u m' S' w',aX O m' S' w' Hq cH->dD m m'->(∀id p,m' id=some p->m id=some p\/(ct<=id/\id<(own bB ct r).2.2))->aj O.ai m' S' w' (own bB ct r).1 u->ck m S w Hq m' S' w' Hq cH->next (a.put o.dst u) w'):
  o.wpIn (WF ro) 0 O.P a w next Q:=by
 obtain ⟨fi,ca,h1,h2⟩:=M9 hH ht (args:=c.args) hf;obtain ⟨z1,z2,z3⟩:=Ry (O:=O) hz;have Uv:∀id o,az bB id=some o->id<ct:=fun id o h=>by
  have:=z2 id
  rw [h] at this
  cases hq:az hp id with
  | none=>rw [hq] at this;cases this
  | some q=>exact a7 id q hq
 have aqz:∀id o,az bB id=some o->az (own bB ct r).2.1 id=some o:=fun id o h=>by
  cases r with
  | au vs=>exact NC Uv id o h
  | _=>exact SM Uv id o h
 have nM:de bB Hq:=fun id o h=>hl id o (aqz id o h)
 obtain ⟨h3,h4⟩:=Yn hz nM hh h2;refine MG ho iZ h1 (hC.pure g aq r hr w S _ (SN hh) hh.slt h3 h4) ?_;rintro e w' ⟨u,S',rfl,hw,g1,g2,g3,g4⟩;refine ⟨u,rfl,?_⟩;have B8:=EX hh hw g1 g2 g3;have et:=CN (base:=cH) hh hw g1 g2;obtain ⟨m',S2,k1,k2,k3,k4,k5,k6⟩:=aqy (lo:=w.heap.size) B8 hl iv Uv B7 g4 hh.fY (fun j q hq=>hh.blt j q hq);refine hn u m' S2 w' k1 k2 (fun id p h=>(k3 id p h).imp (fun h=>h) (fun h=>⟨h.1,h.2.1⟩)) k4 ⟨hw.os,hw.tape,hw.output,hw.size,fun b hb _=>hw.same b hb,fun b hb=>k5 b (g1 b hb),fun b hb=>hw.same b (hh.slt b hb),?_,?_,fun i q _ h=>k2 i q h,et.loops⟩
 ·grind
 ·rintro b ⟨i,ob,q,q1,q2,q3⟩;rcases k3 i q q2 with h | h
  ·exact .inl ⟨i,ob,q,q1,h,q3⟩
  ·grind
def quiet_step (hC:nY O self) (hH:fN O H) {o:y8} {q:Op} {v:AV} (hk:bF q<=1) (hq:Aa O.P H q o) (hd:∀c,o.op≠.defer c) (hv:br O.prog O.aW self tm hp ct q=some (v,ap,bc)) (hl:de ap Hq) (iv:bc<=cH)
  (a7:∀id o,az hp id=some o->id<ct) (B7:∀id,ct<=id->id<bc->m id=none) (ht:cd O m S w tm a.tmps) (hh:aX O m S w Hq cH)
  (hn:∀u m' S' w',aX O m' S' w' Hq cH->dD m m'->(∀id p,m' id=some p->m id=some p\/(ct<=id/\id<bc))->aj O.ai m' S' w' v u->ck m S w Hq m' S' w' Hq cH->next (a.put o.dst u) w'):
  o.wpIn (WF ro) 0 O.P a w next Q:=by
 have jR:∃k,q=bq O.P H k o:=by
  rcases hq with h | ⟨c,f,rs,_,_,rfl⟩ | ⟨_,_,_,_,_,_,_,rfl⟩
  ·grind
  ·simp [bF] at hk
  ·simp [bF] at hk
 obtain ⟨k,hq⟩:=jR;have read:∀{v:AV},bE tm hp q=some v->de hp Hq->(∀u m' S' w',aX O m' S' w' Hq cH->dD m m'->(∀id p,m' id=some p->m id=some p\/(ct<=id/\id<bc))->aj O.ai m' S' w' v u->ck m S w Hq m' S' w' Hq cH->next (a.put o.dst u) w')->o.wpIn (WF ro) 0 O.P a w next Q:=by
  intro v hr hl hn;have cm:=aka hl hr;rw [hq] at cm;obtain ⟨u,h1,h2⟩:=aa6 hH ht hh cm;exact NR hd h1 (.inl rfl) (hn u m S w hh dD.refl (fun _ _ h=> .inl h) h2 ck.refl)
 have makes:∀{v:AV} {b:Obj},cT tm hp ct q=some (v,b)->de ((ct,b)::hp) Hq->ct+1<=cH->m ct=none->(∀u m' S' w',aX O m' S' w' Hq cH->dD m m'->(∀id p,m' id=some p->m id=some p\/(ct<=id/\id<ct+1))->aj O.ai m' S' w' v u->ck m S w Hq m' S' w' Hq cH->next (a.put o.dst u) w')->o.wpIn (WF ro) 0 O.P a w next Q:=by
  intro v b hr hl hc hi hn;rw [hq] at hr;have cm:cT tm Hq ct (bq O.P H k o)=some (v,b):=by rw [<-hr];exact Is (fun _ _=>rfl)
  obtain ⟨u,g,p,h1,h2,h3,h4⟩:=aog hH ht hh cm;obtain ⟨S',k1,k2,k3⟩:=aab (i:=ct) (g:=g) (p:=p) hh hi hc h2 (fun o' lF=>by
   obtain ⟨o'',g1,g2⟩:=hl ct b (by rw [iB];simp)
   rw [lF] at g1;injection g1 with g1
   subst g1
   have:=Yk g2 eE (h4 _ (kQ hi) eE).1 h3
   rwa [h2] at this)
  refine NR hd h1 (.inl rfl) (hn u _ S' _ k1 (kQ hi) (fun id q hq=>?_) (mi (fun _ _ h=>h) k2 (fun _ _=>rfl) _ _ (h4 _ (kQ hi) eE).2) (akg hh hi h2 k2 k3));by_cases hc:id=ct
  ·grind
  ·rw [eD hc] at hq;exact .inl hq
 have cM:∀{q:Op},(match cT tm hp ct q with | some (v,b)=>some (v,(ct,b)::hp,ct+1) | none=>(none:gV))=some (v,ap,bc)->∃b,cT tm hp ct q=some (v,b)/\ap=(ct,b)::hp/\bc=ct+1:=by
  intro q h
  cases hm:cT tm hp ct q with
  | none=>simp [hm] at h
  | some r=>
   grind
 have mV:∀{q:Op},(match bE tm hp q with | some v=>some (v,hp,ct) | none=>(none:gV))=some (v,ap,bc)->bE tm hp q=some v/\ap=hp/\bc=ct:=by
  intro q h
  cases hm:bE tm hp q with
  | none=>simp [hm] at h
  | some r=>
   grind
 have Jb:(∃b,cT tm hp ct q=some (v,b)/\ap=(ct,b)::hp/\bc=ct+1)->o.wpIn (WF ro) 0 O.P a w next Q:=by
  grind
 have aqA:(bE tm hp q=some v/\ap=hp/\bc=ct)->o.wpIn (WF ro) 0 O.P a w next Q:=by
  grind
 cases q with
 | st _ _ _=>simp [bF] at hk
 | mS _ _ _ _=>simp [bF] at hk
 | pV _=>simp [bF] at hk
 | cX _ _ _ _=>simp [bF] at hk
 | pX _ _ _=>simp [bF] at hk
 | jf _ _ _=>simp [bF] at hk
 | jP _ _ _ _=>simp [bF] at hk
 | box s x=>exact Jb (cM (by simp only [br] at hv;exact hv))
 | bI n s z ps=>exact Jb (cM (by simp only [br] at hv;exact hv))
 | gU s b z x y=>exact Jb (cM (by simp only [br] at hv;exact hv))
 | sR=>exact Jb (cM (by simp only [br] at hv;exact hv))
 | pU x=>exact Jb (cM (by simp only [br] at hv;exact hv))
 | call md x xs=>
  cases md with
  | heap=>simp [bF] at hk
  | dyn=>simp [bF] at hk
  | pure=>
   simp only [br,eY] at hv
   split at hv
   ·rename_i g first cap hx
    (try simp only at hv)
    cases hz:cC deep hp (first++(dC tm xs++cap)) with
    | none=>simp [hz] at hv
    | some z=>
     obtain ⟨aq,bB⟩:=z;simp only [hz] at hv
     cases hr:bQ O.prog O.aW self g aq with
     | none=>simp [hr] at hv
     | some r=>
      simp only [hr,yc,yq] at hv;obtain ⟨rfl,rfl,rfl⟩:=hv;obtain ⟨c,f,ho,iZ,rfl,rfl⟩:=ND hq.symm (by rintro rfl;simp [aA] at hx);exact ajf hC hH ho iZ hx hz hr hl ht hh (fun u S' w' h1 h2 h3=>hn u m S' w' h1 dD.refl (fun _ _ h=> .inl h) h2 h3)
   ·simp at hv
   ·cases hv
  | own=>
   simp only [br,eY] at hv
   split at hv
   ·rename_i g first cap hx
    (try simp only at hv)
    cases hz:cC deep hp (first++(dC tm xs++cap)) with
    | none=>simp [hz] at hv
    | some z=>
     obtain ⟨aq,bB⟩:=z;simp only [hz] at hv
     cases hr:bQ O.prog O.aW self g aq with
     | none=>simp [hr] at hv
     | some r=>
      simp only [hr,yc] at hv;obtain ⟨c,f,ho,iZ,rfl,rfl⟩:=ND hq.symm (by rintro rfl;simp [aA] at hx);have e1:v=(own bB ct r).1:=by rw [hv]
      have e2:ap=(own bB ct r).2.1:=by rw [hv]
      have e3:bc=(own bB ct r).2.2:=by rw [hv]
      subst e1;subst e2;subst e3;exact akh hC hH ho iZ hx hz hr hl iv a7 B7 ht hh hn
   ·simp at hv
   ·cases hv
 | _=>exact aqA (mV (by simp only [br] at hv;exact hv))
end
end
section
open Go
section
variable {O:bt} {H:Hint} {m:Mp} {S:Nat->Prop} {w:yj} {tm:Env} {a:Act} {hp ap:Hp} {ct bc:Nat} {self:cD} {ro:Option Nat} {next:Act->yj->Prop} {Q:vX->Act->yj->Prop}
def ck.sD {m':Mp} {S':Nat->Prop} {w':yj} {b b':Nat} (h:ck m S w hp m' S' w' ap b) (hb:b'<=b):ck m S w hp m' S' w' ap b':=
 ⟨h.os,h.tape,h.output,h.size,h.same,h.sub,h.still,h.new,h.own,fun i q hi hq=>h.old i q (by omega) hq,h.loops⟩
def aqB {hp:Hp} {ct:Nat} {r:AV} (a7:∀id o,az hp id=some o->id<ct):∀id o,az (own hp ct r).2.1 id=some o->id<(own hp ct r).2.2:=by
 have hL:∀(vs:List AV) (hp:Hp) (ct:Nat),(∀id o,az hp id=some o->id<ct)->∀id o,az (jO hp ct vs).2.1 id=some o->id<(jO hp ct vs).2.2:=by
  intro vs
  induction vs with
  | nil=>intro hp ct h id o ho;exact h id o ho
  | cons v r ih=>intro hp ct h id o ho;exact ih _ _ (IZ h) id o ho
 cases r with
 | au vs=>exact hL vs hp ct a7
 | _=>exact IZ a7
def aqC {hp:Hp} {ct:Nat} {r:AV} (a7:∀id o,az hp id=some o->id<ct):∀id o,az hp id=some o->az (own hp ct r).2.1 id=some o:=by
 cases r with
 | au vs=>exact NC a7
 | _=>exact SM a7
def aqD {hp:Hp} {ct:Nat} {r:AV}:ct<=(own hp ct r).2.2:=by
 cases r with
 | au vs=>exact NB
 | _=>exact NA
def al9 {hp:Hp} {ct:Nat} {r:AV}:∀id o,az (own hp ct r).2.1 id=some o->id<ct->az hp id=some o:=by
 have h1:∀(hp:Hp) (ct:Nat) (r:AV) id o,az (fA hp ct r).2.1 id=some o->id<ct->az hp id=some o:=by
  intro hp ct r id o h hc;cases r<;>simp only [fA] at h<;>try exact h
  rw [iB,yA (by omega)] at h;exact h
 have hL:∀(vs:List AV) (hp:Hp) (ct:Nat) id o,az (jO hp ct vs).2.1 id=some o->id<ct->az hp id=some o:=by
  intro vs
  induction vs with
  | nil=>intro hp ct id o ho _;exact ho
  | cons v r ih=>intro hp ct id o ho hc;exact h1 hp ct v id o (ih _ _ id o ho (by have:=NA (hp:=hp) (ct:=ct) (r:=v);omega)) hc
 cases r with
 | au vs=>exact hL vs hp ct
 | _=>exact h1 hp ct _
structure iP (hp:Hp) (ct:Nat) (ap:Hp) (bc:Nat):Prop where
 le:de hp ap
 qc:ct<=bc
 lt:∀id o,az ap id=some o->id<bc
 back:∀id o,az ap id=some o->id<ct->∃o',az hp id=some o'
def iP.refl (a7:∀id o,az hp id=some o->id<ct):iP hp ct hp ct:=⟨de.refl,yr _,a7,fun _ o h _=>⟨o,h⟩⟩
def iP.trans {J4:Hp} {afj:Nat} (h:iP hp ct ap bc) (k:iP ap bc J4 afj):iP hp ct J4 afj:=
 ⟨h.le.trans k.le,xn h.qc k.qc,k.lt,fun id o ho hi=>let ⟨o1,h1⟩:=k.back id o ho (Nat.lt_of_lt_of_le hi h.qc);h.back id o1 h1 hi⟩
def Zx {N8 aq:List AV} {bB:Hp} (hz:cC deep hp N8=some (aq,bB)) (a7:∀id o,az hp id=some o->id<ct):iP hp ct bB ct:=by
 obtain ⟨z1,z2,_⟩:=Ry (O:=⟨default,⟨fun _=>none,fun _=>none⟩,fun _=>0,fun _=>none,fun _=>⟨0,fun _=>none,fun _=>[],fun _=>none,fun _=> .pure,fun _=>[]⟩,default⟩) hz;have hb:∀id o,az bB id=some o->∃o',az hp id=some o':=fun id o h=>by
  have:=z2 id
  rw [h] at this
  cases hq:az hp id with
  | none=>rw [hq] at this;cases this
  | some q=>exact ⟨q,rfl⟩
 exact ⟨z1,yr _,fun id o h=>let ⟨o',h'⟩:=hb id o h;a7 id o' h',fun id o h _=>hb id o h⟩
def aki {r:AV} (a7:∀id o,az hp id=some o->id<ct):iP hp ct (own hp ct r).2.1 (own hp ct r).2.2:=
 ⟨fun id o h=>⟨o,aqC a7 id o h,jC.refl o⟩,aqD,aqB a7,fun id o h hi=>⟨o,al9 id o h hi⟩⟩
def Yo {P:aG} {L:Lib} {q:Op} {v:AV} (hk:bF q<=1) (hv:br P L self tm hp ct q=some (v,ap,bc)) (a7:∀id o,az hp id=some o->id<ct):iP hp ct ap bc:=by
 have cM:∀{q:Op},(match cT tm hp ct q with | some (v,b)=>some (v,(ct,b)::hp,ct+1) | none=>(none:gV))=some (v,ap,bc)->iP hp ct ap bc:=by
  intro q h
  cases hm:cT tm hp ct q with
  | none=>simp [hm] at h
  | some r=>
   obtain ⟨v1,b⟩:=r;simp only [hm,yc,yq] at h;obtain ⟨rfl,rfl,rfl⟩:=h;refine ⟨fun id o ho=>⟨o,?_,jC.refl o⟩,by omega,fun id o ho=>?_,fun id o ho hi=>?_⟩
   ·rw [iB,yA (by have:=a7 id o ho;omega)];exact ho
   ·rw [iB] at ho
    grind
   ·rw [iB,yA (by omega)] at ho;exact ⟨o,ho⟩
 have mV:∀{q:Op},(match bE tm hp q with | some v=>some (v,hp,ct) | none=>(none:gV))=some (v,ap,bc)->iP hp ct ap bc:=by
  intro q h
  cases hm:bE tm hp q with
  | none=>simp [hm] at h
  | some r=>
   simp only [hm,yc,yq] at h;obtain ⟨rfl,rfl,rfl⟩:=h;exact iP.refl a7
 cases bK:q with
 | st _ _ _=>simp [bK,bF] at hk
 | mS _ _ _ _=>simp [bK,bF] at hk
 | pV _=>simp [bK,bF] at hk
 | cX _ _ _ _=>simp [bK,bF] at hk
 | pX _ _ _=>simp [bK,bF] at hk
 | jf _ _ _=>simp [bK,bF] at hk
 | jP _ _ _ _=>simp [bK,bF] at hk
 | box s x=>exact cM (q:=q) (by rw [bK] at hv ⊢;simp only [br] at hv;exact hv)
 | bI n s z ps=>exact cM (q:=q) (by rw [bK] at hv ⊢;simp only [br] at hv;exact hv)
 | gU s b z x y=>exact cM (q:=q) (by rw [bK] at hv ⊢;simp only [br] at hv;exact hv)
 | sR=>exact cM (q:=q) (by rw [bK] at hv ⊢;simp only [br] at hv;exact hv)
 | pU x=>exact cM (q:=q) (by rw [bK] at hv ⊢;simp only [br] at hv;exact hv)
 | call md x xs=>
  subst bK;simp only [br,eY] at hv
  split at hv
  ·rename_i g first cap hx
   cases md with
   | heap=>simp [bF] at hk
   | dyn=>simp [bF] at hk
   | pure=>
    simp only at hv
    cases hz:cC deep hp (first++(dC tm xs++cap)) with
    | none=>simp [hz] at hv
    | some z=>
     obtain ⟨aq,bB⟩:=z;simp only [hz] at hv
     cases hr:bQ P L self g aq with
     | none=>simp [hr] at hv
     | some r=>
      simp only [hr,yc,yq] at hv;obtain ⟨rfl,rfl,rfl⟩:=hv;exact Zx hz a7
   | own=>
    simp only at hv
    cases hz:cC deep hp (first++(dC tm xs++cap)) with
    | none=>simp [hz] at hv
    | some z=>
     obtain ⟨aq,bB⟩:=z;simp only [hz] at hv
     cases hr:bQ P L self g aq with
     | none=>simp [hr] at hv
     | some r=>
      simp only [hr,yc] at hv;have e2:ap=(own bB ct r).2.1:=by rw [hv]
      have e3:bc=(own bB ct r).2.2:=by rw [hv]
      subst e2;subst e3;have g1:=Zx hz a7;exact g1.trans (aki g1.lt)
  ·cases md with
   | heap=>simp [bF] at hk
   | dyn=>simp [bF] at hk
   | _=>simp at hv
  ·cases hv
 | _=>exact mV (q:=q) (by rw [bK] at hv ⊢;simp only [br] at hv;exact hv)
def Na (hh:aX O m S w hp ct) (hg:iP hp ct ap bc):∃S',aX O m S' w ap bc/\(∀b,S b->S' b)/\(∀b,S' b->S b\/ek m hp b)/\∀base,ck m S w hp m S' w ap base:=by
 have hd:∀id o p,az ap id=some o->m id=some p->∃o',az hp id=some o':=fun id o p h hm=>hg.back id o h (hh.lt id p hm)
 obtain ⟨S',g1,g2,g3⟩:=aa7 hh hg.le hd hg.qc hg.lt;refine ⟨S',g1,g2,g3,fun base=>⟨rfl,rfl,rfl,yr _,fun _ _ _=>rfl,g2,fun _ _=>rfl,fun b hb=>(g3 b hb).imp (fun h=>h) .inl,?_,fun _ _ _ h=>h,fun _ r h=>⟨r,h⟩⟩⟩;rintro b ⟨i,o,p,h1,h2,h3⟩;obtain ⟨o',h4⟩:=hd i o p h1 h2;exact .inl ⟨i,o',p,h4,h2,h3⟩
def ama {q:Op} {v:AV} (hv:db tm hp ct q=some (v,ap,bc)):ct<=bc:=by
 cases q<;>simp only [db,reduceCtorEq] at hv
 all_goals
  grind
def Sk {P:xi} {H:Hint} {o:y8} {rs:List (Nat×Bool×Nat)} {x:X} {xs:List X} (hq:Aa P H (.jf rs x xs) o):∃c f,o.op= .call c/\c.callee= .value f/\x=aS H f/\xs=ie H c.args.toList:=by
 rcases hq with ⟨k,hk⟩ | ⟨c,f,rs',h1,h2,h3⟩ | ⟨_,_,_,_,_,_,_,h3⟩
 ·cases ho:o.op with
  | call c=>
   obtain ⟨callee,args,ts⟩:=c;simp only [bq,ho] at hk
   split at hk
   ·grind
   ·repeat' split at hk
    all_goals first
     | (cases hk;done)
     | (simp only [bad] at hk;cases hk;done)
     | (revert hk;generalize yv _ _=bb;intro hk;cases bb<;>simp [bad] at hk)
   ·simp only [bad] at hk;cases hk
  | binOp op t x' y ty=>
   cases op<;>simp only [bq,ho,rZ,zG] at hk
   case eql=>
         repeat' split at hk
         all_goals first
          | (cases hk;done)
          | (simp only [bad] at hk;cases hk;done)
          | (cases cR:(P.stoodInHeld t||P.eqGuardType P.depth t)<;>rw [cR] at hk<;>simp [bad] at hk)
   case neq=>
         repeat' split at hk
         all_goals first
          | (cases hk;done)
          | (simp only [bad] at hk;cases hk;done)
          | (cases cR:(P.stoodInHeld t||P.eqGuardType P.depth t)<;>rw [cR] at hk<;>simp [bad] at hk)
   all_goals cases hk
  | buildSlice t n parts=>
   simp only [bq,ho] at hk
   repeat' split at hk
   all_goals first
    | (cases hk;done)
    | (simp only [bad] at hk;cases hk;done)
    | (revert hk;generalize yE _ _=bb;intro hk;cases bb<;>simp [bad] at hk)
  | makeMap t r=>
   cases r<;>simp only [bq,ho] at hk
   ·repeat' split at hk
    all_goals first
     | (cases hk;done)
     | (simp only [bad] at hk;cases hk;done)
   ·simp only [bad] at hk;cases hk
  | next x' b=>
   cases b<;>simp only [bq,ho] at hk
   ·simp only [bad] at hk;cases hk
   ·cases hk
  | _=>
   simp only [bq,ho] at hk
   (repeat' split at hk)
   all_goals first
    | contradiction
    | (cases hk;done)
    | (simp only [bad] at hk;cases hk;done)
 ·simp only [Op.jf.injEq] at h3;exact ⟨c,f,h1,h2,h3.2.1,h3.2.2⟩
 ·cases h3
def ajg {P:xi} {H:Hint} {o:y8} {k:Nat} {rs:List (Nat×Bool×Nat)} {sz:Nat} {x y:X} (hk:Op.jP rs sz x y=bq P H k o):False:=by
 cases ho:o.op with
 | call c=>
  obtain ⟨callee,args,ts⟩:=c;simp only [bq,ho] at hk
  split at hk
  ·grind
  ·repeat' split at hk
   all_goals first
    | (cases hk;done)
    | (simp only [bad] at hk;cases hk;done)
    | (revert hk;generalize yv _ _=bb;intro hk;cases bb<;>simp [bad] at hk)
  ·simp only [bad] at hk;cases hk
 | binOp op t x' y ty=>
  cases op<;>simp only [bq,ho,rZ,zG] at hk
  case eql=>
        repeat' split at hk
        all_goals first
         | (cases hk;done)
         | (simp only [bad] at hk;cases hk;done)
         | (cases cR:(P.stoodInHeld t||P.eqGuardType P.depth t)<;>rw [cR] at hk<;>simp [bad] at hk)
  case neq=>
        repeat' split at hk
        all_goals first
         | (cases hk;done)
         | (simp only [bad] at hk;cases hk;done)
         | (cases cR:(P.stoodInHeld t||P.eqGuardType P.depth t)<;>rw [cR] at hk<;>simp [bad] at hk)
  all_goals cases hk
 | buildSlice t n parts=>
  simp only [bq,ho] at hk
  repeat' split at hk
  all_goals first
   | (cases hk;done)
   | (simp only [bad] at hk;cases hk;done)
   | (revert hk;generalize yE _ _=bb;intro hk;cases bb<;>simp [bad] at hk)
 | makeMap t r=>
  cases r<;>simp only [bq,ho] at hk
  ·repeat' split at hk
   all_goals first
    | (cases hk;done)
    | (simp only [bad] at hk;cases hk;done)
  ·simp only [bad] at hk;cases hk
 | next x' b=>
  cases b<;>simp only [bq,ho] at hk
  ·simp only [bad] at hk;cases hk
  ·cases hk
 | _=>
  simp only [bq,ho] at hk
  (repeat' split at hk)
  all_goals first
   | contradiction
   | (cases hk;done)
   | (simp only [bad] at hk;cases hk;done)
def ati {P:xi} {H:Hint} {o:y8} {sz:Nat} {x y:X} (hq:Aa P H (.st sz x y) o):∃t x' y',o.op= .store t x' y'/\cL P t=some sz/\x=aS H x'/\y=aS H y':=by
 obtain ⟨k,hk⟩:∃k,Op.st sz x y=bq P H k o:=by
  rcases hq with h | ⟨_,_,_,_,_,h⟩ | ⟨_,_,_,_,_,_,_,h⟩
  ·grind
  ·grind
  ·cases h
 cases ho:o.op with
 | call c=>
  obtain ⟨callee,args,ts⟩:=c;simp only [bq,ho] at hk
  split at hk
  ·grind
  ·repeat' split at hk
   all_goals first
    | (cases hk;done)
    | (simp only [bad] at hk;cases hk;done)
    | (revert hk;generalize yv _ _=bb;intro hk;cases bb<;>simp [bad] at hk)
  ·simp only [bad] at hk;cases hk
 | binOp op t x' y ty=>
  cases op<;>simp only [bq,ho,rZ,zG] at hk
  case eql=>
        repeat' split at hk
        all_goals first
         | (cases hk;done)
         | (simp only [bad] at hk;cases hk;done)
         | (cases cR:(P.stoodInHeld t||P.eqGuardType P.depth t)<;>rw [cR] at hk<;>simp [bad] at hk)
  case neq=>
        repeat' split at hk
        all_goals first
         | (cases hk;done)
         | (simp only [bad] at hk;cases hk;done)
         | (cases cR:(P.stoodInHeld t||P.eqGuardType P.depth t)<;>rw [cR] at hk<;>simp [bad] at hk)
  all_goals cases hk
 | buildSlice t n parts=>
  simp only [bq,ho] at hk
  repeat' split at hk
  all_goals first
   | (cases hk;done)
   | (simp only [bad] at hk;cases hk;done)
   | (revert hk;generalize yE _ _=bb;intro hk;cases bb<;>simp [bad] at hk)
 | makeMap t r=>
  cases r<;>simp only [bq,ho] at hk
  ·repeat' split at hk
   all_goals first
    | (cases hk;done)
    | (simp only [bad] at hk;cases hk;done)
  ·simp only [bad] at hk;cases hk
 | next x' b=>
  cases b<;>simp only [bq,ho] at hk
  ·simp only [bad] at hk;cases hk
  ·cases hk
 | store t x' y'=>
  simp only [bq,ho] at hk
  split at hk
  ·rename_i s hs;simp only [Op.st.injEq] at hk;obtain ⟨rfl,rfl,rfl⟩:=hk;exact ⟨t,x',y',rfl,hs,rfl,rfl⟩
  ·simp only [bad] at hk;cases hk
 | _=>
  simp only [bq,ho] at hk
  (repeat' split at hk)
  all_goals first
   | contradiction
   | (cases hk;done)
   | (simp only [bad] at hk;cases hk;done)
def ab5 {P:xi} {H:Hint} {o:y8} {rs:List (Nat×Bool×Nat)} {sz:Nat} {x y:X} (hq:Aa P H (.jP rs sz x y) o):∃t x' y',o.op= .store t x' y'/\cL P t=some sz/\x=aS H x'/\y=aS H y':=by
 rcases hq with ⟨k,hk⟩ | ⟨_,_,_,_,_,h3⟩ | ⟨t,x',y',Wl,rs',h1,h2,h3⟩
 ·exact (ajg hk).elim
 ·grind
 ·grind
def ajh {P:xi} {H:Hint} {q:Op} {o:y8} (hq:Aa P H q o):Aa P H (nA q) o:=by
 cases h:q with
 | jf rs f xs=>
  subst h;obtain ⟨c,f',g1,g2,g3,g4⟩:=Sk hq;exact .inr (.inl ⟨c,f',[],g1,g2,by rw [g3,g4];rfl⟩)
 | jP rs sz x y=>
  subst h;obtain ⟨t,x',y',g1,g2,g3,g4⟩:=ab5 hq;refine .inl ⟨0,?_⟩;simp only [nA,bq,g1,g2,g3,g4]
 | _=>subst h;exact hq
def aak (hC:nY O self) (hH:fN O H) {o:y8} {q:Op} {v:AV} (hq:Aa O.P H q o) (hd:∀c,o.op≠.defer c) (hv:br O.prog O.aW self tm hp ct q=some (v,ap,bc))
  (ht:cd O m S w tm a.tmps) (hh:aX O m S w hp ct)
  (hn:∀u m' S' w',aX O m' S' w' ap bc->ct<=bc->aj O.ai m' S' w' v u->ck m S w hp m' S' w' ap ct->next (a.put o.dst u) w'):o.wpIn (WF ro) 0 O.P a w next Q:=by
 have quiet:bF q<=1->o.wpIn (WF ro) 0 O.P a w next Q:=by
  intro hk;have hg:=Yo hk hv hh.a7;obtain ⟨S1,g1,g2,g3,g4⟩:=Na hh hg;refine quiet_step hC hH hk hq hd hv de.refl (yr _) hh.a7 (fun id h1 h2=>?_) (AY (fun _ _ h=>h) g2 (fun _ _=>rfl) ht) g1 (fun u m' S' w' k1 k2 k3 k4 k5=>hn u m' S' w' k1 hg.qc k4 ((g4 ct).trans (k5.sD hg.qc)))
  cases hm:m id with
  | none=>rfl
  | some p=>have:=hh.lt id p hm;omega
 have ab6:∀{q':Op},(∃k,q'=bq O.P H k o)->db tm hp ct q'=some (v,ap,bc)->o.wpIn (WF ro) 0 O.P a w next Q:=by
  intro q' jR hw;obtain ⟨k,rfl⟩:=jR;obtain ⟨n,u,w',m',S',h1,h2,h3,h4,h5,h6⟩:=aol hH ht hh hw;exact NR hd h1 h2 (hn u m' S' w' h3 (ama hw) h4 h6)
 have write:db tm hp ct q=some (v,ap,bc)->o.wpIn (WF ro) 0 O.P a w next Q:=by
  intro hw;refine ab6 ?_ hw;rcases hq with h | ⟨c,f,rs,_,_,rfl⟩ | ⟨_,_,_,_,_,_,_,rfl⟩
  ·exact h
  ·simp [db] at hw
  ·simp [db] at hw
 have heap:∀{c:uL} {f:xy} {g:Nat} {first cap:List AV},o.op= .call c->c.callee= .value f->aA tm (aS H f)= .fn (.f g) first cap->
   je O.prog O.aW self hp ct g (first++(dC tm (ie H c.args.toList)++cap))=some (v,ap,bc)->o.wpIn (WF ro) 0 O.P a w next Q:=by
  intro c f g first cap ho iZ hx he;obtain ⟨fi,ca,h1,h2⟩:=M9 hH ht (args:=c.args) hx;refine MG ho iZ h1 (hC.heap _ _ _ _ _ _ _ he m S w _ hh h2) ?_;rintro e w' ⟨u,m',S',rfl,k1,k2,k3,k4⟩;exact ⟨u,rfl,hn u m' S' w' k1 k2 k3 k4⟩
 have round:∀{c:uL} {f:xy} {l:Nat} {x y:List AV},o.op= .call c->c.callee= .value f->aA tm (aS H f)= .fn (.y l) x y->
   nX self hp ct l (dC tm (ie H c.args.toList))=some (v,ap,bc)->o.wpIn (WF ro) 0 O.P a w next Q:=by
  intro c f l x y ho iZ hx he;have rf:=cF hH ht f;rw [hx] at rf;simp only [aj] at rf;obtain ⟨p,hm,hf⟩:=rf;have ib:=C0 hH ht c.args.toList;obtain ⟨g,tmps,cK,body,h1,h2⟩:=hC.round _ _ _ _ _ _ _ he m S w (c.args.map a.eval) p hh hm (by simpa using ib);refine al8 ho iZ hf h1 h2 ?_;rintro e w' ⟨u,m',S',rfl,k1,k2,k3,k4⟩;exact ⟨u,rfl,hn u m' S' w' k1 k2 k3 k4⟩
 have dyn:∀{c:uL} {f:xy},o.op= .call c->c.callee= .value f->eY O.prog O.aW self hp ct .dyn (aA tm (aS H f)) (dC tm (ie H c.args.toList))=some (v,ap,bc)->o.wpIn (WF ro) 0 O.P a w next Q:=by
  intro c f ho iZ he;unfold eY at he
  split at he
  ·rename_i g first cap hx
   (try simp only at he)
   cases hp0:aH (first++(dC tm (ie H c.args.toList)++cap)) with
   | true=>
    rw [hp0] at he;simp only [yz] at he
    cases hr:bQ O.prog O.aW self g (first++(dC tm (ie H c.args.toList)++cap)) with
    | none=>simp [hr] at he
    | some r=>
     simp only [hr,yc,yq] at he;obtain ⟨rfl,rfl,rfl⟩:=he;obtain ⟨fi,ca,h1,h2⟩:=M9 hH ht (args:=c.args) hx;refine MG ho iZ h1 (hC.pure g _ r hr w S _ (SN hh) hh.slt (zA (fun _ h=>h) (fun _ _=>rfl) _ _ hp0 h2) hp0) ?_;rintro e w' ⟨u,S',rfl,hw,g1,g2,g3,g4⟩;obtain ⟨S2,k1,k2,k3⟩:=Zt g4 m;have hS:∀b,S b->S2 b:=fun b hb=>k1 b (g1 b hb)
     have Ld:∀b,S2 b->S b\/w.heap.size<=b:=fun b hb=>(k2 b hb).elim (g2 b) (fun h=> .inr h.1)
     have hl:∀b,S2 b->b<w'.heap.size:=fun b hb=>(k2 b hb).elim (g3 b) (fun h=>h.2)
     exact ⟨u,rfl,hn u m S2 w' (EX hh hw hS Ld hl) (yr _) k3 (CN hh hw hS Ld)⟩
   | false=>
    rw [hp0] at he;simp only [yO] at he;exact heap ho iZ hx he
  ·rename_i l x y hx;exact round ho iZ hx he
  ·cases he
 cases bK:q with
 | jf rs x xs=>
  subst bK;simp only [br] at hv;have key:=Sk hq;obtain ⟨c,f,ho,iZ,rfl,rfl⟩:=key
  cases hc:eY O.prog O.aW self hp ct .dyn (aA tm (aS H f)) (dC tm (ie H c.args.toList)) with
  | none=>simp [hc] at hv
  | some r=>
   obtain ⟨v1,bB,ze⟩:=r;simp only [hc] at hv
   cases hs:A8 tm hp bB rs with
   | false=>rw [hs] at hv;cases hv
   | true=>
    rw [hs] at hv;simp only [yz,yc,yq] at hv;obtain ⟨rfl,rfl,rfl⟩:=hv;exact dyn ho iZ hc
 | call md x xs=>
  subst bK;have jR:∃k,Op.call md x xs=bq O.P H k o:=by
   rcases hq with h | ⟨c,f,rs,_,_,h⟩ | ⟨_,_,_,_,_,_,_,h⟩
   ·exact h
   ·cases h
   ·cases h
  obtain ⟨k,hk⟩:=jR
  cases md with
  | pure=>exact quiet (by simp [bF])
  | own=>exact quiet (by simp [bF])
  | heap=>
   simp only [br] at hv;obtain ⟨c,f,ho,iZ,rfl,rfl⟩:=ND hk.symm (by rintro rfl;simp [aA,eY] at hv);unfold eY at hv
   split at hv
   ·rename_i g first cap hx;exact heap ho iZ hx hv
   ·rename_i l x y hx;exact round ho iZ hx hv
   ·cases hv
  | dyn=>
   simp only [br] at hv;obtain ⟨c,f,ho,iZ,rfl,rfl⟩:=ND hk.symm (by rintro rfl;simp [aA,eY] at hv);exact dyn ho iZ hv
 | jP rs s x y=>
  subst bK;obtain ⟨t,x',y',g1,g2,g3,g4⟩:=ab5 hq;simp only [br] at hv
  split at hv
  ·rename_i id off hx
   cases hf:px tm id rs with
   | false=>rw [hf] at hv;cases hv
   | true=>
    rw [hf] at hv;simp only [yz] at hv
    exact ab6 (q':= .st s x y) ⟨0,by simp only [bq,g1,g2,g3,g4]⟩ hv
  ·cases hv
 | st s x y=>subst bK;exact write (by simpa only [br] using hv)
 | mS kk x y z=>subst bK;exact write (by simpa only [br] using hv)
 | pV x=>subst bK;exact write (by simpa only [br] using hv)
 | cX s b x y=>subst bK;exact write (by simpa only [br] using hv)
 | pX s x y=>subst bK;exact write (by simpa only [br] using hv)
 | dT k x lo hi=>subst bK;exact quiet (by cases k<;>simp [bF])
 | len k x=>subst bK;exact quiet (by rcases k with _ | _ | k<;>simp [bF])
 | _=>subst bK;exact quiet (by simp [bF])
end
end
section
open Go
def pH (tm:Env) (g:Option (Nat×Bool)):Option Bool:=
 match g with
 | none=>some true
 | some (t,b)=>match ah tm t with | .bool c=>some (c==b) | .au []=>some false | _=>none
def fa (P:aG) (L:Lib) (self:cD) (tm:Env) (hp:Hp) (ct:Nat) (r:bh):gV:=
 match pH tm r.guard with
 | some true=>br P L self tm hp ct r.op
 | some false=>some (.au [],hp,ct)
 | none=>none
def YO {P:aG} {L:Lib} {self:cD} {r:bh} {rs:List bh} {s:St}:
  dH P L self (r::rs) s=match fa P L self s.tm s.hp s.ct r with | some (v,hp,ct)=>dH P L self rs {s with tm:=put r.dst v s.tm,hp:=hp,ct:=ct} | none=>none:=by
 obtain ⟨d,g,o⟩:=r;simp only [dH,fa]
 cases g with
 | none=>rfl
 | some q=>
  obtain ⟨t,b⟩:=q;simp only [pH];generalize ah s.tm t=x
  cases x with
  | bool c=>
   simp only;cases (c==b)<;>rfl
  | au vs=>cases vs<;>rfl
  | _=>rfl
def abh (ops:Array y8) (g:Option (Nat×Bool)) (g':Option (Nat×Bool)):Prop:=
 (g=none/\g'=none)\/∃t b j,g=some (t,b)/\g'=some (j,b)/\(ops[j]?).bind (·.dst)=some t
structure N9 (P:xi) (H:Hint) (ops:Array y8) (r:bh) (o:y8):Prop where
 op:Aa P H r.op o
 dst:r.dst=o.dst
 ok:JJ H o.dst=true
 guard:abh ops r.guard o.guard
def nk (P:xi) (H:Hint) (ops:Array y8):List bh->List y8->Prop
 | [],[]=>True
 | r::rs,o::l=>(N9 P H ops r o\/(r.guard=none/\r.op=bad))/\nk P H ops rs l
 | _,_=>False
def YP {P:xi} {H:Hint} {ops:Array y8}:∀(l:List y8) (k:Nat),nk P H ops (CT P H ops l k).1 l
 | [],k=>by simp [CT,nk]
 | o::l,k=>by
  have ih:=YP (P:=P) (H:=H) (ops:=ops) l (k+(bif Tg o then 1 else 0));simp only [CT];generalize hq:CT P H ops l (k+(bif Tg o then 1 else 0))=q at ih;obtain ⟨l',k'⟩:=q;simp only;have Uw:nk P H ops (⟨o.dst,none,bad⟩::l') (o::l):=⟨.inr ⟨rfl,rfl⟩,ih⟩
  cases hg:o.guard with
  | none=>
   simp only
   cases hd:JJ H o.dst with
   | false=>exact Uw
   | true=>exact ⟨.inl ⟨.inl ⟨k,rfl⟩,rfl,hd,.inl ⟨rfl,hg⟩⟩,ih⟩
  | some p=>
   obtain ⟨j,b⟩:=p;simp only
   cases ht:(ops[j]?).bind (·.dst) with
   | none=>exact Uw
   | some t=>
    simp only
    cases hd:JJ H o.dst with
    | false=>exact Uw
    | true=>exact ⟨.inl ⟨.inl ⟨k,rfl⟩,rfl,hd,.inr ⟨t,b,j,rfl,hg,ht⟩⟩,ih⟩
section
variable {O:bt} {H:Hint} {m:Mp} {S:Nat->Prop} {w:yj} {tm:Env} {a:Act} {hp ap:Hp} {ct bc:Nat} {self:cD} {ro:Option Nat} {Q:vX->Act->yj->Prop} {ops:Array y8}
def Sl {d:Option Nat} {v:AV} {tm:Env} {t:Nat}:ah (put d v tm) t=if d=some t then v else ah tm t:=by
 cases d with
 | none=>simp [put]
 | some i=>
  simp only [put,ah];by_cases h:i=t
  ·subst h;simp
  ·have:yv i t=false:=by
    cases hq:yv i t with
    | false=>rfl
    | true=>exact absurd (yo hq) h
   simp [this,h]
def Nb (a:Act) (d:Option Nat) (u:yf):(a.put d u).tmps.size=a.tmps.size:=by
 cases d with
 | none=>rfl
 | some i=>simp [Act.put]
def RD (a:Act) (d:Option Nat) (u:yf):(a.put d u).defers=a.defers:=by
 cases d with
 | none=>rfl
 | some i=>rfl
def Sm {a:Act} {d:Option Nat} {u:yf} {t:Nat} (hd:∀i,d=some i->i<a.tmps.size):(a.put d u).tmps.getD t undef=if d=some t then u else a.tmps.getD t undef:=by
 cases d with
 | none=>simp [Act.put]
 | some i=>
  have hi:=hd i rfl;by_cases h:i=t
  ·subst h;simp [Act.put,hi]
  ·simp only [Act.put,yc,h,xh];simp [Array.getElem?_setIfInBounds_ne h]
def aal {n:Nat} {d:Option Nat} (h:JJ H d=true) (hn:H.n<=n):∀i,d=some i->i<n:=by
 rintro i rfl
 have:=zI.1 h
 omega
def Sn {d:Option Nat} {v:AV} {u:yf} (ht:cd O m S w tm a.tmps) (hd:∀i,d=some i->i<a.tmps.size) (hv:aj O.ai m S w v u):cd O m S w (put d v tm) (a.put d u).tmps:=fun t=>by
 rw [Sl,Sm hd]
 split
 ·exact hv
 ·exact ht t
def Zy {o:y8} {g:Option (Nat×Bool)} {b:Bool} (hg:abh ops g o.guard) (ht:∀t,t∈TO g->aj O.ai m S w (ah tm t) (a.tmps.getD t undef)) (hw:pH tm g=some b):Region.wanted o (yielded ops a.tmps)=b:=by
 rcases hg with ⟨rfl,h2⟩ | ⟨t,c,j,rfl,h2,h3⟩
 ·simp only [pH,yc] at hw;subst hw;simp [Region.wanted,h2]
 ·simp only [pH] at hw;have h4:=ht t (by simp [TO]);simp only [Region.wanted,h2]
  split at hw
  ·rename_i d hd;rw [hd] at h4;simp only [aj] at h4;simp only [yc] at hw
   have:yielded ops a.tmps j=some d:=by
    simp only [yielded,h3,xO];have h5:a.tmps[t]? =some (.bool d):=by
     simp only [wR] at h4
     cases hq:a.tmps[t]? with
     | none=>rw [hq] at h4;simp [undef] at h4
     | some x=>rw [hq] at h4;simp at h4;rw [h4]
    rw [h5]
   rw [this,<-hw];cases d<;>cases c<;>rfl
  ·rename_i hd;rw [hd] at h4;simp only [aj,av] at h4;obtain ⟨xs,h4,h5⟩:=h4;simp only [yc] at hw;subst hw
   have:yielded ops a.tmps j=none:=by
    simp only [yielded,h3,xO];simp only [wR] at h4
    cases hq:a.tmps[t]? with
    | none=>rfl
    | some x=>rw [hq] at h4;simp at h4;rw [h4]
   rw [this];rfl
  ·cases hw
def Yp {o:y8} {q:Op} (hq:Aa O.P H q o) {r:AV×Hp×Nat} (hv:br O.prog O.aW self tm hp ct q=some r):∀c,o.op≠.defer c:=by
 rcases hq with ⟨k,rfl⟩ | ⟨c,f,rs,h1,_,_⟩ | ⟨_,_,_,_,_,h1,_,_⟩
 ·exact aje hv
 ·intro c' h;rw [h1] at h;cases h
 ·intro c' h;rw [h1] at h;cases h
def aon (hC:nY O self) (hH:fN O H) {i:Nat} {r:bh} {o:y8} {v:AV} (hi:ops[i]? =some o) (hr:N9 O.P H ops r o\/(r.guard=none/\r.op=bad)) (hv:fa O.prog O.aW self tm hp ct r=some (v,ap,bc))
  (ht:cd O m S w tm a.tmps) (hh:aX O m S w hp ct) (hn:H.n<=a.tmps.size) {K:Act->yj->Prop}
  (hK:∀u m' S' w',aX O m' S' w' ap bc->ct<=bc->cd O m' S' w' (put r.dst v tm) (a.put o.dst u).tmps->ck m S w hp m' S' w' ap ct->K (a.put o.dst u) w'):wpOpIn (WF ro) 0 O.P ops Q i K a w:=by
 rcases hr with hr | ⟨h1,h2⟩
 case inr=>
  simp only [fa,h1,pH,h2,bad,br,eY,aA] at hv;cases hv
 unfold wpOpIn;simp only [hi];unfold fa at hv
 cases hw:pH tm r.guard with
 | none=>simp [hw] at hv
 | some b=>
  have Wm:=Zy hr.guard (fun t _=>ht t) hw;have hd:=aal hr.ok hn;rw [Wm]
  cases b with
  | true=>
   simp only [hw] at hv;simp only [xm];refine aak hC hH hr.op (Yp hr.op hv) hv ht hh (fun u m' S' w' k1 k2 k3 k4=>hK u m' S' w' k1 k2 ?_ k4);rw [hr.dst];exact Sn (AY (fun id p h=>k4.old id p (hh.lt id p h) h) k4.sub (fun b hb=>k4.still b hb) ht) hd k3
  | false=>
   simp only [hw,yc,yq] at hv;obtain ⟨rfl,rfl,rfl⟩:=hv;simp only [yF,xh];refine ⟨fun _ _=>trivial,hK undef m S w hh (yr _) ?_ ck.refl⟩;rw [hr.dst];exact Sn ht hd (by simp [aj,av,undef])
def abi (hC:nY O self) (hH:fN O H):∀(l:List y8) (rs:List bh) (i:Nat) (s s':St) (a:Act) (m:Mp) (S:Nat->Prop) (w:yj),(∀j,l[j]? =ops[i+j]?)->nk O.P H ops rs l->
  dH O.prog O.aW self rs s=some s'->cd O m S w s.tm a.tmps->aX O m S w s.hp s.ct->H.n<=a.tmps.size->
  (∀a' m' S' w',aX O m' S' w' s'.hp s'.ct->s.ct<=s'.ct->cd O m' S' w' s'.tm a'.tmps->ck m S w s.hp m' S' w' s'.hp s.ct->a'.tmps.size=a.tmps.size->a'.defers=a.defers->s'.base=s.base->Q .normal a' w')->
  wpOpsIn (WF ro) 0 O.P ops Q (List.range' i l.length) a w
 | [],rs,i,s,s',a,m,S,w,hl,hr,hv,ht,hh,hn,hQ=>by
  cases rs with
  | cons _ _=>simp [nk] at hr
  | nil=>
   simp only [dH,yc] at hv;subst hv;simp only [yK,List.range'_zero,wpOpsIn];exact hQ a m S w hh (yr _) ht ck.refl rfl rfl rfl
 | o::l,rs,i,s,s',a,m,S,w,hl,hr,hv,ht,hh,hn,hQ=>by
  cases rs with
  | nil=>simp [nk] at hr
  | cons r rs=>
   simp only [nk] at hr;rw [YO] at hv
   cases h1:fa O.prog O.aW self s.tm s.hp s.ct r with
   | none=>simp [h1] at hv
   | some q=>
    obtain ⟨v,bB,ze⟩:=q;simp only [h1] at hv;have hi:ops[i]? =some o:=by have:=hl 0;simpa using this.symm
    rw [yC,List.range'_succ,wpOpsIn_cons];refine aon hC hH hi hr.1 h1 ht hh hn (fun u m1 S1 w1 k1 k2 k3 k4=>?_)
    refine abi hC hH l rs (i+1) {s with tm:=put r.dst v s.tm,hp:=bB,ct:=ze} s' _ m1 S1 w1 (fun j=>?_) hr.2 hv k3 k1 (by rw [Nb];exact hn) (fun a' m' S' w' g1 g2 g3 g4 g5 g6 g7=>?_)
    ·have:=hl (j+1)
     rw [List.getElem?_cons_succ] at this;rw [this];congr 1;omega
    ·exact hQ a' m' S' w' g1 (xn k2 g2) g3 (k4.trans (g4.sD k2)) (by rw [g5,Nb]) (by rw [g6,RD]) g7
end
end
section
open Go
section
variable {ops:Array y8}
def Ri {acc:List Nat} {i:Nat}:∀{es:List Edge},uf (Bc acc es) i=true->∃e,e∈es/\Region.binds .any e=true/\(i=e.on\/uf (acc.getD e.on 0) i=true)
 | [],h=>by simp [Bc] at h
 | e::r,h=>by
  simp only [Bc] at h
  cases hb:Region.binds .any e with
  | false=>
   rw [hb] at h;obtain ⟨e',h1,h2⟩:=Ri h
   grind
  | true=>
   rw [hb] at h;simp only [yz,Nat.testBit_or,uU] at h;rcases h with (h | h) | h
   ·grind
   ·grind
   ·obtain ⟨e',h1,h2⟩:=Ri h
    grind
def Zz {l:List y8} {acc:List Nat} {j:Nat} (hj:j<acc.length):(mz acc l)[j]? =acc[j]? :=by
 induction l generalizing acc with
 | nil=>rfl
 | cons o l ih=>
  simp only [mz]
  grind
def aji {l:List y8} {acc:List Nat} {j:Nat} {o:y8} (h:l[j]? =some o):∃DG:List Nat,(mz acc l)[acc.length+j]? =some (Bc DG o.after.toList)/\DG.length=acc.length+j/\∀k,k<DG.length->DG[k]? =(mz acc l)[k]? :=by
 induction l generalizing acc j with
 | nil=>simp at h
 | cons x l ih=>
  cases j with
  | zero=>
   simp only [vn,yc] at h;subst h;refine ⟨acc,?_,by simp,fun k hk=>?_⟩
   ·simp only [mz];rw [Zz (by simp)]
    simp
   ·simp only [mz];rw [Zz (by rw [yW];omega),List.getElem?_append_left hk]
  | succ j=>
   obtain ⟨DG,h1,h2,h3⟩:=ih (acc:=acc++[Bc acc x.after.toList]) h;simp only [yW,yC,yK] at h1 h2;refine ⟨DG,?_,by omega,fun k hk=>?_⟩
   ·simp only [mz]
    grind
   ·simp only [mz];exact h3 k hk
def Ord (ops:Array y8) (i j:Nat):Prop:=uf ((mz [] ops.toList).getD j 0) i=true
def Tj (ops:Array y8) (D:Nat->Prop):Prop:=∀j o,ops[j]? =some o->D j->∀e,e∈o.after->Region.binds .any e=true->D e.on
def ZA {D:Nat->Prop} (hc:Tj ops D):∀(j:Nat) (o:y8),ops[j]? =some o->(∀e,e∈o.after->Region.binds .any e=true->D e.on)->∀i,Ord ops i j->D i:=by
 intro j
 induction j using vV with
 | _ j ih=>
  intro o ho hr i hi;have lF:ops.toList[j]? =some o:=by simp_all
  obtain ⟨DG,h1,h2,h3⟩:=aji (acc:=[]) lF;simp only [yK,yd] at h1 h2;unfold Ord at hi;rw [List.getD_eq_getElem?_getD,h1,wU] at hi;obtain ⟨e,g1,g2,g3⟩:=Ri hi;have he:D e.on:=hr e (by simpa using g1) g2;rcases g3 with rfl | g3
  ·grind
  ·rcases vc e.on j with a7 | lY
   ·have h4:=h3 e.on (by omega);have hol:e.on<ops.size:=by
     grind
    have Wh:ops[e.on]? =some ops[e.on]:=by simp_all
    refine ih e.on a7 _ Wh (fun e' he' cR=>hc e.on _ Wh he e' he' cR) i ?_;unfold Ord
    grind
   ·grind
def amb {D:Nat->Prop} (hc:Tj ops D) {i j:Nat} {o:y8} (ho:ops[j]? =some o) (hj:D j) (hi:Ord ops i j):D i:=
 ZA hc j o ho (fun e he hb=>hc j o ho hj e he hb) i hi
def X6:∀{l:List y8} {k j:Nat} {o:y8},IB l k=true->l[j]? =some o->∀e,e∈o.after->Region.binds .any e=true->e.on<k+j
 | [],k,j,o,_,h=>by simp at h
 | x::l,k,j,o,hb,h=>by
  simp only [IB,ye] at hb
  cases j with
  | zero=>
   simp only [vn,yc] at h;subst h;intro e he zb
   have:=List.all_eq_true.1 hb.1 e (by simpa using he)
   simp_all
  | succ j=>
   intro e he zb
   have:=X6 hb.2 h e he zb
   omega
end
def OJ (a b:bh) (r:List bh):Prop:=M4 a b=false/\(IA a b=false\/IY a b r=true)
def X8 {m:Nat} {b:bh}:∀{l:List bh} {k i:Nat} {a:bh},M5 m b l k=true->l[i]? =some a->uf m (k+i)=true\/OJ a b (l.drop (i+1))
 | [],k,i,a,_,h=>by simp at h
 | x::l,k,i,a,hp,h=>by
  simp only [M5,ye] at hp
  cases i with
  | zero=>
   simp only [vn,yc] at h;subst h;have h1:=hp.1;simp only [uU,ua,tM,Bool.and_eq_false_iff,Bool.not_eq_false'] at h1;rcases h1 with h1 | ⟨h1,h2⟩
   ·grind
   ·exact .inr ⟨h1,by simpa using h2⟩
  | succ i=>
   rcases X8 hp.2 h with h1 | h1
   ·grind
   ·grind
def Yb:∀{l done:List bh} {ms:List Nat} {i j:Nat} {a b:bh},E6 done l ms=true->(done++l)[i]? =some a->l[j]? =some b->i<done.length+j->
  ∃m,ms[j]? =some m/\(uf m i=true\/OJ a b (((done++l).take (done.length+j)).drop (i+1)))
 | [],done,ms,i,j,a,b,_,_,h,_=>by simp at h
 | x::l,done,[],i,j,a,b,hp,_,h,_=>by simp [E6] at hp
 | x::l,done,m::ms,i,j,a,b,hp,ha,h,Wn=>by
  simp only [E6,ye] at hp
  cases j with
  | zero=>
   have Ed:done[i]? =some a:=by grind
   have:=X8 hp.1 Ed
   grind
  | succ j=>
   have e:done++x::l=(done++[x])++l:=by simp
   obtain ⟨m',h1,h2⟩:=Yb (i:=i) (a:=a) hp.2 (by rw [<-e];exact ha) h (by simp;omega)
   grind
def Mt {a b:bh} (h:M4 a b=false):(∀d,a.dst=some d->d∉CZ b/\b.dst≠some d)/\(∀d,b.dst=some d->d∉CZ a):=by
 have mem:∀{i:Nat} {l:List Nat},lP i l=false->i∉l:=by
  intro i l
  induction l with
  | nil=>intro _ h;cases h
  | cons j r ih=>
   intro h hm;simp only [lP] at h
   cases hb:yv j i with
   | true=>rw [hb] at h;cases h
   | false=>
    simp_all
 simp only [M4,tM] at h;obtain ⟨⟨h1,h2⟩,h3⟩:=h;refine ⟨fun d hd=>⟨mem (by simpa [hd,FZ] using h1),fun hb=>?_⟩,fun d hd=>mem (by simpa [hd,FZ] using h2)⟩;rw [hd,hb] at h3;simp [adI] at h3
def YQ {t:Nat}:∀{l:List bh},FO t l=true->∀r,r∈l->r.dst≠some t
 | [],_,r,h=>by cases h
 | x::l,h,r,hr=>by
  simp only [FO,ye,ua] at h;rcases wq.1 hr with rfl | hr
  ·intro hd;rw [hd] at h;simp [FZ,lP] at h
  ·exact YQ h.2 r hr
def RZ {sz t:Nat} {ag:Bool}:∀{l:List (Nat×Bool×Nat)},F0 sz ag t l=true->(sz,ag,t)∈l
 | [],h=>by simp [F0] at h
 | (s,g,u)::r,h=>by
  simp only [F0,uU,ye] at h;rcases h with ⟨h1,h2,h3⟩ | h
  ·simp_all
  ·exact xS _ (RZ h)
def So:∀{a b:List Nat},cI a b=true->a=b
 | [],[],_=>rfl
 | [],_::_,h=>by simp [cI] at h
 | _::_,[],h=>by simp [cI] at h
 | x::a,y::b,h=>by
  simp only [cI,ye] at h;rw [yo h.1,So h.2]
def akj {a b:AV} (h:Up a b=true):a=b:=by
 unfold Up at h
 split at h
 ·grind
 ·grind
 ·rw [So h]
 ·rfl
 ·rfl
 ·simp_all
 ·simp_all
 ·simp_all
 ·cases h
def Yc {tm:Env} {hp ap:Hp} {sz t:Nat} {ag:Bool} {v:AV}:∀{l:List (Nat×Bool×Nat)},A8 tm hp ap l=true->(sz,ag,t)∈l->ic hp sz ag (ah tm t)=some v->ic ap sz ag (ah tm t)=some v
 | [],_,h,_=>by cases h
 | (s,g,u)::r,h,hm,hv=>by
  simp only [A8] at h
  cases h1:ic hp s g (ah tm u) with
  | none=>simp [h1] at h
  | some x=>
   cases h2:ic ap s g (ah tm u) with
   | none=>simp [h1,h2] at h
   | some y=>
    simp only [h1,h2,ye] at h;rcases wq.1 hm with e | hm
    ·simp only [yq] at e;obtain ⟨rfl,rfl,rfl⟩:=e;rw [h1] at hv;rw [h2,<-akj h.1,hv]
    ·exact Yc h.2 hm hv
structure OK (P:aG) (L:Lib) (run:cD) (rs:List bh) (b9:Nat->Env) (bP:Nat->Hp) (bM:Nat->Nat) (vF:Nat->AV):Prop where
 step:∀i r,rs[i]? =some r->fa P L run (b9 i) (bP i) (bM i) r=some (vF i,bP (i+1),bM (i+1))
 tm:∀i r,rs[i]? =some r->b9 (i+1)=put r.dst (vF i) (b9 i)
def abj {P:aG} {L:Lib} {self:cD}:∀{rs:List bh} {s s':St},dH P L self rs s=some s'->
  ∃b9 bP bM vF,OK P L self rs b9 bP bM vF/\b9 0=s.tm/\bP 0=s.hp/\bM 0=s.ct/\b9 rs.length=s'.tm/\bP rs.length=s'.hp/\bM rs.length=s'.ct/\s'.base=s.base
 | [],s,s',h=>by
  simp only [dH,yc] at h;subst h;exact ⟨fun _=>s.tm,fun _=>s.hp,fun _=>s.ct,fun _=> .undef,⟨fun i r h=>by simp at h,fun i r h=>by simp at h⟩,rfl,rfl,rfl,rfl,rfl,rfl,rfl⟩
 | r::rs,s,s',h=>by
  rw [YO] at h
  cases h1:fa P L self s.tm s.hp s.ct r with
  | none=>simp [h1] at h
  | some q=>
   obtain ⟨v,bB,ze⟩:=q;simp only [h1] at h;obtain ⟨b9,bP,bM,vF,g1,g2,g3,g4,g5,g6,g7,g8⟩:=abj h;refine ⟨fun i=>match i with | 0=>s.tm | i+1=>b9 i,fun i=>match i with | 0=>s.hp | i+1=>bP i,fun i=>match i with | 0=>s.ct | i+1=>bM i,fun i=>match i with | 0=>v | i+1=>vF i,⟨?_,?_⟩,rfl,rfl,rfl,by simpa using g5,by simpa using g6,by simpa using g7,g8⟩
   ·intro i r' hi
    cases i with
    | zero=>
     grind
    | succ i=>exact g1.step i r' (by simpa using hi)
   ·intro i r' hi
    cases i with
    | zero=>
     grind
    | succ i=>exact g1.tm i r' (by simpa using hi)
section
variable {P:aG} {L:Lib} {self:cD} {rs:List bh} {b9:Nat->Env} {bP:Nat->Hp} {bM:Nat->Nat} {vF:Nat->AV}
def IF (hR:OK P L self rs b9 bP bM vF) {t i:Nat}:∀(k:Nat),i+k<=rs.length->(∀j r,i<=j->j<i+k->rs[j]? =some r->r.dst≠some t)->ah (b9 (i+k)) t=ah (b9 i) t
 | 0,_,_=>rfl
 | k+1,hk,h=>by
  have hr:rs[i+k]? =some rs[i+k]:=by simp_all
  rw [show i+(k+1)=i+k+1 by omega,hR.tm _ _ hr,Sl,yA (h (i+k) _ (by omega) (by omega) hr)];exact IF hR k (by omega) (fun j r h1 h2=>h j r h1 (by omega))
def ZB {r:bh} {tm:Env} {hp ap:Hp} {ct bc:Nat} {v:AV} (hk:bF r.op<=1) (hv:fa P L self tm hp ct r=some (v,ap,bc)) (a7:∀id o,az hp id=some o->id<ct):iP hp ct ap bc:=by
 unfold fa at hv
 cases hw:pH tm r.guard with
 | none=>simp [hw] at hv
 | some b=>
  cases b with
  | true=>simp only [hw] at hv;exact Yo hk hv a7
  | false=>
   simp only [hw,yc,yq] at hv;obtain ⟨rfl,rfl,rfl⟩:=hv;exact iP.refl a7
def MS (hR:OK P L self rs b9 bP bM vF) {i:Nat} (a7:∀id o,az (bP i) id=some o->id<bM i):∀(k:Nat),i+k<=rs.length->(∀j r,i<=j->j<i+k->rs[j]? =some r->bF r.op<=1)->iP (bP i) (bM i) (bP (i+k)) (bM (i+k))
 | 0,_,_=>iP.refl a7
 | k+1,hk,h=>by
  have ih:=MS hR a7 k (by omega) (fun j r h1 h2=>h j r h1 (by omega));have hr:rs[i+k]? =some rs[i+k]:=by simp_all
  exact ih.trans (ZB (h (i+k) _ (by omega) (by omega) hr) (hR.step _ _ hr) ih.lt)
end
end
section
open Go
def Nc {tm:Env} {t:Nat}:∀{l:List Nat},t∈l->ah (eh tm l) t=ah tm t
 | [],h=>by cases h
 | i::r,h=>by
  simp only [eh,ah]
  cases hb:yv i t with
  | true=>rw [yo hb];rfl
  | false=>
   rcases wq.1 h with e | h
   ·simp_all
   ·exact Nc h
def akk {P:aG} {L:Lib} {self:cD} {tm cu:Env} {hp:Hp} {ct:Nat} {o:Op} {r:AV×Hp×Nat} (h:∀t,t∈kT o->ah cu t=ah tm t) (hv:br P L self tm hp ct o=some r):br P L self cu hp ct (nA o)=some r:=by
 cases o with
 | jf rs f xs=>
  simp only [kT,wH] at h;simp only [nA,br] at hv ⊢
  rw [dX (x:=f) fun t ht=>h t (.inl ht),CI (xs:=xs) fun t ht=>h t (.inr ht)]
  cases hc:eY P L self hp ct .dyn (aA tm f) (dC tm xs) with
  | none=>simp [hc] at hv
  | some q=>
   obtain ⟨v1,bB,ze⟩:=q;simp only [hc] at hv
   cases hs:A8 tm hp bB rs with
   | false=>rw [hs] at hv;cases hv
   | true=>
    rw [hs] at hv;simpa only [A8,yz] using hv
 | jP rs sz x v=>
  simp only [nA,br] at hv ⊢
  rw [EP (o:= .st sz x v) (tm:=tm) h]
  grind
 | call md f xs=>
  rw [<-hv];simp only [kT,wH] at h;simp only [nA,br]
  rw [dX (x:=f) fun t ht=>h t (.inl ht),CI (xs:=xs) fun t ht=>h t (.inr ht)]
 | st s x y=>rw [<-hv];exact EP h
 | mS kk x y z=>rw [<-hv];exact EP h
 | pV x=>rw [<-hv];exact EP h
 | cX s b x y=>rw [<-hv];exact EP h
 | pX s x y=>rw [<-hv];exact EP h
 | box s x=>rw [<-hv];simp only [nA,br];rw [Is (hp:=hp) h]
 | bI n s z ps=>rw [<-hv];simp only [nA,br];rw [Is (hp:=hp) h]
 | gU s b z x y=>rw [<-hv];simp only [nA,br];rw [Is (hp:=hp) h]
 | sR=>exact hv
 | pU x=>rw [<-hv];simp only [nA,br];rw [Is (hp:=hp) h]
 | _=>rw [<-hv];simp only [nA,br];rw [aiM h]
def aam {P:aG} {L:Lib} {self:cD} {tm:Env} {hp ap:Hp} {ct bc:Nat} {q:Op} {v:AV} (hk:bF q=0\/∃sz ag x,q= .ld sz ag x) (hv:br P L self tm hp ct q=some (v,ap,bc)):bE tm hp q=some v/\ap=hp/\bc=ct:=by
 have mV:∀{q:Op},(match bE tm hp q with | some v=>some (v,hp,ct) | none=>(none:gV))=some (v,ap,bc)->bE tm hp q=some v/\ap=hp/\bc=ct:=by grind
 rcases hk with hk | ⟨sz,ag,x,rfl⟩
 ·cases bK:q with
  | call md f xs=>subst bK;cases md<;>simp [bF] at hk
  | jf rs f xs=>subst bK;simp [bF] at hk
  | jP rs s x y=>subst bK;simp [bF] at hk
  | st s x y=>subst bK;simp [bF] at hk
  | mS kk x y z=>subst bK;simp [bF] at hk
  | pV x=>subst bK;simp [bF] at hk
  | cX s b x y=>subst bK;simp [bF] at hk
  | pX s x y=>subst bK;simp [bF] at hk
  | box s x=>subst bK;simp [bF] at hk
  | bI n s z ps=>subst bK;simp [bF] at hk
  | gU s b z x y=>subst bK;simp [bF] at hk
  | sR=>subst bK;simp [bF] at hk
  | pU x=>subst bK;simp [bF] at hk
  | _=>exact bK▸mV (q:=q) (by rw [bK] at hv ⊢;exact hv)
 ·exact mV (q:= .ld sz ag x) (by simp only [br] at hv;exact hv)
section
variable {O:bt} {H:Hint} {ops:Array y8} {rs:List bh} {b9:Nat->Env} {bP:Nat->Hp} {bM:Nat->Nat} {vF:Nat->AV} {self:cD} {ro:Option Nat} {Q:vX->Act->yj->Prop}
structure sB (O:bt) (H:Hint) (slf:cD) (ops:Array y8) (rs:List bh) (b9:Nat->Env) (bP:Nat->Hp) (bM:Nat->Nat) (vF:Nat->AV):Prop where
 run:OK O.prog O.aW slf rs b9 bP bM vF
 len:rs.length=ops.size
 of:∀(i:Nat) (r:bh) (o:y8),rs[i]? =some r->ops[i]? =some o->N9 O.P H ops r o
 pair:∀(i j:Nat) (a b:bh),i<j->rs[i]? =some a->rs[j]? =some b->Ord ops i j\/OJ a b ((rs.take j).drop (i+1))
 back:∀(i:Nat) (o:y8),ops[i]? =some o->∀e,e∈o.after->Region.binds .any e=true->e.on<i
def jT (rs:List bh) (i:Nat):Prop:=∃r,rs[i]? =some r/\bF r.op=2
def Tk (rs:List bh):∀(k i:Nat),i+k=rs.length->∃c,i<=c/\c<=rs.length/\(∀j,i<=j->j<c->¬jT rs j)/\(c=rs.length\/jT rs c)
 | 0,i,h=>⟨i,yr _,by omega,fun j h1 h2=>by omega,.inl (by omega)⟩
 | k+1,i,h=>by
  rcases vS (jT rs i) with hw | hw
  ·grind
  ·obtain ⟨c,h1,h2,h3,h4⟩:=Tk rs k (i+1) (by omega)
   grind
def I0 {rs:List bh} {i:Nat} {r:bh} (hr:rs[i]? =some r) (hw:¬jT rs i):bF r.op<=1:=by
 have h:bF r.op≠2:=fun e=>hw ⟨r,hr,e⟩
 have:bF r.op<=2:=by
  cases r.op with
  | dT k x lo hi=>cases k<;>simp [bF]
  | len k x=>rcases k with _ | _ | k<;>simp [bF]
  | call md f xs=>cases md<;>simp [bF]
  | _=>simp [bF]
 omega
def PY (O:bt) (rs:List bh) (b9:Nat->Env) (D:Nat->Prop) (m:Mp) (S:Nat->Prop) (w:yj) (a:Act):Prop:=
 ∀t,∃j,j<=rs.length/\(∀(i:Nat) (r:bh),rs[i]? =some r->r.dst=some t->(D i↔i<j))/\aj O.ai m S w (ah (b9 j) t) (a.tmps.getD t undef)
def aoo {D:Nat->Prop} {m:Mp} {S:Nat->Prop} {w:yj} {a:Act} {i:Nat} {r:bh} (hG:sB O H self ops rs b9 bP bM vF) (hT:PY O rs b9 D m S w a) (hr:rs[i]? =some r) (hi:¬D i)
  (fc:∀j,Ord ops j i->D j) (gP:∀j,Ord ops i j->¬D j):∀t,t∈CZ r->aj O.ai m S w (ah (b9 i) t) (a.tmps.getD t undef):=by
 intro t ht;obtain ⟨j,h1,h2,h3⟩:=hT t;have GJ:i<rs.length:=(wk.1 hr).1;have e:ah (b9 j) t=ah (b9 i) t:=by
  rcases Nat.le_total j i with hji | Wn
  ·obtain ⟨k,rfl⟩:∃k,i=j+k:=⟨i-j,by omega⟩;refine (IF hG.run k (by omega) (fun l rl g1 g2 hl hd=>?_)).symm;rcases hG.pair l (j+k) rl r (by omega) hl hr with ho | hf
   ·grind
   ·exact ((Mt hf.1).1 t hd).1 ht
  ·obtain ⟨k,rfl⟩:∃k,j=i+k:=⟨j-i,by omega⟩;refine IF hG.run k h1 (fun l rl g1 g2 hl hd=>?_);rcases wO g1 with rfl | g1
   ·grind
   ·rcases hG.pair i l r rl g1 hr hl with ho | hf
    ·grind
    ·exact (Mt hf.1).2 t hd ht
 grind
def abk {D D':Nat->Prop} {m m':Mp} {S S':Nat->Prop} {w w':yj} {a:Act} {i:Nat} {r:bh} {u:yf} (hG:sB O H self ops rs b9 bP bM vF) (hT:PY O rs b9 D m S w a) (hr:rs[i]? =some r) (hi:¬D i)
  (fc:∀j,Ord ops j i->D j) (gP:∀j,Ord ops i j->¬D j) (hD:∀j,D' j↔D j\/j=i) (hm:dD m m') (hS:∀b,S b->S' b) (hw:fX S w w') (hd:∀d,r.dst=some d->d<a.tmps.size)
  (hv:aj O.ai m' S' w' (vF i) u):PY O rs b9 D' m' S' w' (a.put r.dst u):=by
 intro t;have GJ:i<rs.length:=(wk.1 hr).1;by_cases Lf:r.dst=some t
 ·refine ⟨i+1,GJ,fun l rl hl Wo=>?_,?_⟩
  ·rw [hD];constructor
   ·rintro (h | h)
    ·rcases vc l (i+1) with g | g
     ·grind
     ·rcases hG.pair i l r rl (by omega) hr hl with ho | hf
      ·grind
      ·exact (((Mt hf.1).1 t Lf).2 Wo).elim
    ·omega
   ·intro h;rcases wO (tg h) with h | h
    ·grind
    ·rcases hG.pair l i rl r h hl hr with ho | hf
     ·grind
     ·exact (((Mt hf.1).1 t Wo).2 Lf).elim
  ·rw [hG.run.tm i r hr,Sl,Sm hd,yH Lf,yH Lf];exact hv
 ·obtain ⟨j,h1,h2,h3⟩:=hT t;refine ⟨j,h1,fun l rl hl Wo=>?_,?_⟩
  ·grind
  ·rw [Sm hd,yA Lf];exact mi hm hS hw _ _ h3
def Yq {tm:Env} {hp ap:Hp} {ct bc id off sz Wl t:Nat} {ag:Bool} {x y:X} {v v':AV}:∀{l:List (Nat×Bool×Nat)},px tm id l=true->(sz,ag,t)∈l->aA tm x= .ptr id off->
  db tm hp ct (.st Wl x y)=some (v',ap,bc)->ic hp sz ag (ah tm t)=some v->ic ap sz ag (ah tm t)=some v
 | [],_,h,_,_,_=>by cases h
 | (s,g,u)::r,h,hm,hx,hw,hv=>by
  simp only [px,ye] at h;rcases wq.1 hm with e | hm
  ·simp only [yq] at e;obtain ⟨rfl,rfl,rfl⟩:=e;have h1:=h.1
   split at h1
   ·rename_i j o hj;have fU:j≠id:=by
     intro e
     simp_all
    rw [hj] at hv ⊢;simp only [db,hx] at hw;have key:∀ob,az (bg hp id ob) j=az hp j:=fun ob=>by rw [rS,yA (ybA fU)]
    split at hw
    ·rename_i pu ex z cs GK;generalize (yv _ _&&yE _ _&&bO _)=bb at hw
     cases bb with
     | false=>cases hw
     | true=>
      obtain ⟨_,rfl,_⟩:=hw;simp only [ic,key] at hv ⊢;exact hv
    ·cases hw
   ·rename_i cs hj;rw [hj] at hv ⊢;simpa only [ic] using hv
   ·cases h1
  ·exact Yq h.2 hm hx hw hv
def Yd {D:Nat->Prop} {i c:Nat} {r:bh} {sz t:Nat} {ag:Bool} (hG:sB O H self ops rs b9 bP bM vF) (hr:rs[i]? =some r) (hi:¬D i) (B9:r.guard=none/\r.op= .ld sz ag (.t t)) (hc:c<=rs.length)
  (hW:∀j,j<c->jT rs j->D j) (gP:∀j,Ord ops i j->¬D j) (a7:∀j,j<=c->∀id o,az (bP j) id=some o->id<bM j):∀k,i+1+k<=c->ic (bP (i+1+k)) sz ag (ah (b9 i) t)=some (vF i)
 | 0,hk=>by
  have h1:=hG.run.step i r hr;simp only [fa,B9.1,pH,B9.2] at h1;obtain ⟨h2,h3,h4⟩:=aam (.inr ⟨_,_,_,rfl⟩) h1;simp only [bE,aA] at h2
  grind
 | k+1,hk=>by
  have ih:=Yd hG hr hi B9 hc hW gP a7 k (by omega);have hl:i+1+k<rs.length:=by omega
  have hj:rs[i+1+k]? =some rs[i+1+k]:=by simp [hl]
  have aP:=hG.run.step _ _ hj;rw [show i+1+(k+1)=i+1+k+1 by omega];rcases vS (jT rs (i+1+k)) with hw | hw
  ·have hD:=hW _ (by omega) hw;rcases hG.pair i (i+1+k) r _ (by omega) hr hj with ho | hf
   ·grind
   ·obtain ⟨Ca,iw⟩:=hf;obtain ⟨eQ,h5,h6⟩:=hw;rw [hj] at h5;injection h5 with h5
    subst h5;rcases iw with iw | iw
    ·have h1k:bF r.op=1:=by rw [B9.2];rfl
     simp only [IA,h1k,h6] at iw;cases iw
    ·unfold IY at iw;simp only [B9.1,B9.2] at iw;generalize jR:(rs[i+1+k]).op=q at iw;have adO:FO t (r::(rs.take (i+1+k)).drop (i+1))=true->ah (b9 (i+1+k)) t=ah (b9 i) t:=by
      intro ava;have lZ:=YQ ava;rw [show i+1+k=i+(1+k) by omega];refine IF hG.run (1+k) (by omega) (fun l rl g1 g2 hl'=>lZ rl ?_);rcases wO g1 with rfl | g1
      ·grind
      ·refine xS _ ?_
       have:((rs.take (i+1+k)).drop (i+1))[l-(i+1)]? =some rl:=by
        rw [List.getElem?_drop,List.getElem?_take_of_lt (by omega),show i+1+(l-(i+1))=l by omega];exact hl'
       exact List.mem_of_getElem? this
     unfold fa at aP
     cases hg:pH (b9 (i+1+k)) (rs[i+1+k]).guard with
     | none=>simp [hg] at aP
     | some b=>
      cases b with
      | false=>
       simp only [hg,yc,yq] at aP;rw [<-aP.2.1];exact ih
      | true=>
       simp only [hg,jR] at aP;cases q<;>simp only [yF] at iw
       case jf PZ fx xs=>
        simp only [ye] at iw;have mJ:=RZ iw.1;have Lg:=adO iw.2;simp only [br] at aP
        cases lG:eY O.prog O.aW self (bP (i+1+k)) (bM (i+1+k)) .dyn (aA (b9 (i+1+k)) fx) (dC (b9 (i+1+k)) xs) with
        | none=>simp [lG] at aP
        | some z=>
         obtain ⟨v1,bB,ze⟩:=z;simp only [lG] at aP
         cases hs:A8 (b9 (i+1+k)) (bP (i+1+k)) bB PZ with
         | false=>rw [hs] at aP;cases aP
         | true=>
          rw [hs] at aP;simp only [yz,yc,yq] at aP;obtain ⟨_,h8,_⟩:=aP;rw [<-h8,<-Lg];exact Yc hs mJ (by rw [Lg];exact ih)
       case jP PZ Wl x v=>
        simp only [ye] at iw;have mJ:=RZ iw.1;have Lg:=adO iw.2;simp only [br] at aP
        split at aP
        ·rename_i id off hx
         cases hs:px (b9 (i+1+k)) id PZ with
         | false=>rw [hs] at aP;cases aP
         | true=>
          rw [hs] at aP;simp only [yz] at aP;rw [<-Lg];exact Yq hs mJ hx aP (by rw [Lg];exact ih)
        ·cases aP
  ·exact abc (ZB (I0 hj hw) aP (a7 _ (by omega))).le ih
structure Inv (O:bt) (ops:Array y8) (rs:List bh) (b9:Nat->Env) (bP:Nat->Hp) (bM:Nat->Nat) (D:Nat->Prop) (m0:Mp) (S0:Nat->Prop) (w0:yj) (n0:Nat) (d0:List uV) (st c:Nat) (m:Mp) (S:Nat->Prop) (w:yj) (a:Act):Prop where
 Wp:st<=c
 cn:c<=rs.length
 before:∀i,i<st->jT rs i->D i
 GL:∀i,st<=i->i<c->¬jT rs i
 cut:c=rs.length\/(jT rs c/\¬D c)
 behind:∀(i:Nat) (r:bh),c<=i->rs[i]? =some r->1<=bF r.op->¬D i
 hp:aX O m S w (bP c) (bM c)
 Wq:∀id p,m id=some p->id<bM st\/∃i,st<=i/\i<c/\D i/\bM i<=id/\id<bM (i+1)
 tm:PY O rs b9 D m S w a
 P0:ck m0 S0 w0 (bP 0) m S w (bP c) (bM 0)
 ge:bM 0<=bM c
 size:a.tmps.size=n0
 defers:a.defers=d0
 GM:st=0\/jT rs (st-1)
 GN:∀j,j<=c->∀id o,az (bP j) id=some o->id<bM j
end
end
section
open Go
section
variable {O:bt} {H:Hint} {ops:Array y8} {rs:List bh} {b9:Nat->Env} {bP:Nat->Hp} {bM:Nat->Nat} {vF:Nat->AV} {self:cD} {ro:Option Nat} {Q:vX->Act->yj->Prop}
variable {D D':Nat->Prop} {m0:Mp} {S0:Nat->Prop} {w0:yj} {n0:Nat} {d0:List uV} {st c i:Nat} {m:Mp} {S:Nat->Prop} {w:yj} {a:Act} {r:bh} {o:y8}
def MT (hG:sB O H self ops rs b9 bP bM vF) (hI:Inv O ops rs b9 bP bM D m0 S0 w0 n0 d0 st c m S w a) {x y:Nat} (hx:st<=x) (hxy:x<=y) (hy:y<=c):iP (bP x) (bM x) (bP y) (bM y):=by
 obtain ⟨k,rfl⟩:∃k,y=x+k:=⟨y-x,by omega⟩
 have:=hI.cn
 exact MS hG.run (hI.GN x (by omega)) k (by omega) (fun j r h1 h2 hr=>I0 hr (hI.GL j (by omega) (by omega)))
def Sr (hG:sB O H self ops rs b9 bP bM vF) (hI:Inv O ops rs b9 bP bM D m0 S0 w0 n0 d0 st c m S w a) (hr:rs[i]? =some r) (hi:¬D i) (fc:∀j,Ord ops j i->D j) (gP:∀j,Ord ops i j->¬D j) (hD:∀j,D' j↔D j\/j=i)
  (hd:∀d,r.dst=some d->d<a.tmps.size) (hw:¬jT rs i) (AB:bF r.op=0\/i<c) {m':Mp} {S':Nat->Prop} {w':yj} {u:yf} (k1:aX O m' S' w' (bP c) (bM c)) (k2:dD m m')
  (k3:∀id p,m' id=some p->m id=some p\/(st<=i/\i<c/\bM i<=id/\id<bM (i+1))) (k4:aj O.ai m' S' w' (vF i) u) (k5:ck m S w (bP c) m' S' w' (bP c) (bM c)):
  Inv O ops rs b9 bP bM D' m0 S0 w0 n0 d0 st c m' S' w' (a.put r.dst u) where
 Wp:=hI.Wp
 cn:=hI.cn
 before j hj Ee:=(hD j).2 (.inl (hI.before j hj Ee))
 GL:=hI.GL
 cut:=hI.cut.imp (fun h=>h) (fun h=>⟨h.1,fun hc=>((hD c).1 hc).elim h.2 (fun e=>hw (e▸h.1))⟩)
 behind j rj hj Ef hk Lh:=((hD j).1 Lh).elim (hI.behind j rj hj Ef hk) (fun e=>by
  subst e;rw [hr] at Ef;injection Ef with Ef
  subst Ef
  rcases AB with h | h<;>omega)
 hp:=k1
 Wq id p hp:=by
  rcases k3 id p hp with h | ⟨h1,h2,h3,h4⟩
  ·rcases hI.Wq id p h with h | ⟨j,g1,g2,g3,g4,g5⟩
   ·exact .inl h
   ·exact .inr ⟨j,g1,g2,(hD j).2 (.inl g3),g4,g5⟩
  ·exact .inr ⟨i,h1,h2,(hD i).2 (.inr rfl),h3,h4⟩
 tm:=abk hG hI.tm hr hi fc gP hD k2 k5.sub (fun b hb=>k5.still b hb) hd k4
 P0:=hI.P0.trans (k5.sD hI.ge)
 ge:=hI.ge
 size:=by rw [Nb];exact hI.size
 defers:=by rw [RD];exact hI.defers
 GM:=hI.GM
 GN:=hI.GN
def abl (hG:sB O H self ops rs b9 bP bM vF) (hI:Inv O ops rs b9 bP bM D m0 S0 w0 n0 d0 st c m S w a) (hr:rs[c]? =some r) (hi:¬D c) (fc:∀j,Ord ops j c->D j) (gP:∀j,Ord ops c j->¬D j) (hD:∀j,D' j↔D j\/j=c)
  (hd:∀d,r.dst=some d->d<a.tmps.size) (hw:jT rs c) {m':Mp} {S':Nat->Prop} {w':yj} {u:yf} (k1:aX O m' S' w' (bP (c+1)) (bM (c+1))) (k2:bM c<=bM (c+1))
  (k4:aj O.ai m' S' w' (vF c) u) (k5:ck m S w (bP c) m' S' w' (bP (c+1)) (bM c)):
  ∃c' B3,Inv O ops rs b9 bP bM D' m0 S0 w0 n0 d0 (c+1) c' m' B3 w' (a.put r.dst u):=by
 have lG:c<rs.length:=(wk.1 hr).1;obtain ⟨c',h1,h2,h3,h4⟩:=Tk rs (rs.length-(c+1)) (c+1) (by omega);obtain ⟨k,rfl⟩:∃k,c'=c+1+k:=⟨c'-(c+1),by omega⟩;have hg:∀k',k'<=k->iP (bP (c+1)) (bM (c+1)) (bP (c+1+k')) (bM (c+1+k')):=fun k' oF=>
  MS hG.run k1.a7 k' (by omega) (fun j r g1 g2 hr=>I0 hr (h3 j g1 (by omega)))
 obtain ⟨B3,g1,g2,g3,g4⟩:=Na k1 (hg k (yr _));have hml:dD m m':=fun id p h=>k5.old id p (hI.hp.lt id p h) h
 refine ⟨c+1+k,B3,⟨by omega,h2,?_,h3,?_,?_,g1,fun id p h=> .inl (k1.lt id p h),?_,?_,?_,by rw [Nb];exact hI.size,by rw [RD];exact hI.defers,.inr (by simpa using hw),?_⟩⟩
 ·intro j hj Ee;rcases wO (tg hj) with e | hj
  ·exact (hD j).2 (.inr e)
  ·rcases vc j st with g | g
   ·exact (hD j).2 (.inl (hI.before j g Ee))
   ·exact (hI.GL j g hj Ee).elim
 ·refine h4.imp (fun h=>h) (fun h=>⟨h,fun hc=>?_⟩);obtain ⟨rc,Wr,AB⟩:=h;rcases (hD _).1 hc with g | g
  ·exact hI.behind _ rc (by omega) Wr (by omega) g
  ·omega
 ·intro j rj hj Ef hk Lh;rcases (hD j).1 Lh with g | g
  ·exact hI.behind j rj (by omega) Ef hk g
  ·omega
 ·exact abk hG hI.tm hr hi fc gP hD hml (fun b hb=>g2 b (k5.sub b hb)) (fun b hb=>k5.still b hb) hd (mi (fun _ _ h=>h) g2 (fun _ _=>rfl) _ _ k4)
 ·exact (hI.P0.trans (k5.sD hI.ge)).trans (g4 (bM 0))
 ·have:=(hg k (yr _)).qc
  have:=hI.ge
  omega
 ·intro j hj;rcases vc c j with g | g
  ·obtain ⟨k',rfl⟩:∃k',j=c+1+k':=⟨j-(c+1),by omega⟩;exact (hg k' (by omega)).lt
  ·exact hI.GN j g
def amc {q:Op} (h:bF q≠2):nA q=q:=by
 cases q<;>first
  | rfl
  | exact absurd rfl h
def YR {x y:bh} {l:List bh} (h:OJ x y l):¬(bF x.op=2/\1<=bF y.op)/\(1<=bF x.op->bF y.op=2->x.guard=none/\∃sz ag t,x.op= .ld sz ag (.t t)):=by
 obtain ⟨_,h⟩:=h;have ex:IY x y l=true->x.guard=none/\∃sz ag t,x.op= .ld sz ag (.t t):=by
  intro he;unfold IY at he
  grind
 have k2:∀q:Op,bF q<=2:=fun q=>by
  cases q with
  | dT k x lo hi=>cases k<;>simp [bF]
  | len k x=>rcases k with _ | _ | k<;>simp [bF]
  | call md f xs=>cases md<;>simp [bF]
  | _=>simp [bF]
 constructor
 ·rintro ⟨h1,h2⟩;rcases h with h | h
  ·have:bF y.op=1\/bF y.op=2:=by grind
   rcases this with e | e<;>(simp only [IA,h1,e] at h;cases h)
  ·obtain ⟨_,sz,ag,t,e⟩:=ex h;rw [e] at h1;cases h1
 ·intro h1 h2;rcases h with h | h
  ·have:bF x.op=1\/bF x.op=2:=by grind
   rcases this with e | e<;>(simp only [IA,h2,e] at h;cases h)
  ·exact ex h
def amd (hC:nY O self) (hH:fN O H) (hG:sB O H self ops rs b9 bP bM vF) (hn:H.n<=n0) (hI:Inv O ops rs b9 bP bM D m0 S0 w0 n0 d0 st c m S w a) (hr:rs[i]? =some r) (ho:ops[i]? =some o) (hi:¬D i)
  (fc:∀j,Ord ops j i->D j) (gP:∀j,Ord ops i j->¬D j) (hD:∀j,D' j↔D j\/j=i) {K:Act->yj->Prop}
  (hK:∀st' c' m' S' w' a',Inv O ops rs b9 bP bM D' m0 S0 w0 n0 d0 st' c' m' S' w' a'->K a' w'):wpOpIn (WF ro) 0 O.P ops Q i K a w:=by
 have cZ:=hG.of i r o hr ho;have Ux:=aoo hG hI.tm hr hi fc gP;have aP:=hG.run.step i r hr;have hd:∀d,r.dst=some d->d<a.tmps.size:=by
  rw [cZ.dst];exact aal cZ.ok (by rw [hI.size];exact hn)
 have lH:=hI.Wp;have lY:1<=bF r.op->i<=c:=by
  intro hk;rcases vc c i with Ws | Ws
  ·have GJ:i<rs.length:=(wk.1 hr).1;rcases hI.cut with h | ⟨⟨rc,Wr,AB⟩,K5⟩
   ·omega
   ·rcases hG.pair c i rc r Ws Wr hr with h | h
    ·exact (K5 (fc c h)).elim
    ·exact ((YR h).1 ⟨AB,hk⟩).elim
  ·exact Ws
 have hwc:jT rs i->i=c:=by
  intro hw;obtain ⟨eQ,h1,h2⟩:=hw;rw [hr] at h1;injection h1 with h1
  subst h1;have h3:=lY (by omega);rcases wO h3 with e | h3
  ·exact e
  ·rcases vc i st with g | g
   ·exact (hi (hI.before i g ⟨r,hr,h2⟩)).elim
   ·exact (hI.GL i g h3 ⟨r,hr,h2⟩).elim
 have a7:1<=bF r.op->¬jT rs i->i<c:=by
  intro hk hw;rcases wO (lY hk) with e | h
  ·subst e;rcases hI.cut with h | h
   ·have GJ:i<rs.length:=(wk.1 hr).1;omega
   ·exact (hw h.1).elim
  ·exact h
 have AB:¬jT rs i->bF r.op=0\/i<c:=fun hw=>by
  rcases xt (bF r.op) with h | h
  ·exact .inl h
  ·exact .inr (a7 h hw)
 unfold wpOpIn;simp only [ho];unfold fa at aP
 cases P1:pH (b9 i) r.guard with
 | none=>simp [P1] at aP
 | some b=>
  have Wm:=Zy cZ.guard (fun t ht=>Ux t (by simp [CZ,ht])) P1;rw [Wm]
  cases b with
  | false=>
   simp only [P1,yc,yq] at aP;obtain ⟨hv,hh,hc⟩:=aP;simp only [yF,xh];refine ⟨fun _ _=>trivial,?_⟩;have eH:∀m S w,aj O.ai m S w (vF i) undef:=fun m S w=>by rw [<-hv];simp [aj,av,undef]
   rw [<-cZ.dst];rcases vS (jT rs i) with hw | hw
   ·have e:=hwc hw;subst e;obtain ⟨c',B3,h⟩:=abl hG hI hr hi fc gP hD hd hw (m':=m) (S':=S) (w':=w) (u:=undef) (by rw [<-hh,<-hc];exact hI.hp) (by omega) (eH _ _ _) (by rw [<-hh];exact ck.refl)
    exact hK _ _ _ _ _ _ h
   ·exact hK _ _ _ _ _ _ (Sr hG hI hr hi fc gP hD hd hw (AB hw) (m':=m) (S':=S) (w':=w) (u:=undef) hI.hp dD.refl (fun _ _ h=> .inl h) (eH _ _ _) ck.refl)
  | true=>
   simp only [P1] at aP;simp only [xm];have lZ:=Yp cZ.op aP;have P2:cd O m S w (eh (b9 i) (kT r.op)) a.tmps:=fun t=>by
    rcases vS (t∈kT r.op) with h | h
    ·rw [Nc h];exact Ux t (by simp [CZ,h])
    ·have:ah (eh (b9 i) (kT r.op)) t= .undef:=by
      clear Ux aP;revert h;generalize kT r.op=l;intro h
      induction l with
      | nil=>rfl
      | cons x l ih=>
       simp only [eh,ah];have hx:yv x t=false:=by
        cases hq:yv x t with
        | false=>rfl
        | true=>exact absurd (by rw [yo hq];exact List.mem_cons_self) h
       rw [hx];exact ih (fun h'=>h (xS _ h'))
     rw [this];simp only [aj]
   have Eg:br O.prog O.aW self (eh (b9 i) (kT r.op)) (bP i) (bM i) (nA r.op)=some (vF i,bP (i+1),bM (i+1)):=
    akk (fun t ht=>Nc ht) aP
   have ab7:¬jT rs i->nA r.op=r.op:=fun hw=>amc (fun h=>hw ⟨r,hr,h⟩)
   have now:¬jT rs i->bE (eh (b9 i) (kT r.op)) (bP c) r.op=some (vF i)->Oper.wpIn (WF ro) 0 O.P o a w K Q:=by
    intro hw mV;have jR:∃k,r.op=bq O.P H k o:=by
     rcases cZ.op with h | ⟨cc,f,rr,_,_,h⟩ | ⟨_,_,_,_,_,_,_,h⟩
     ·exact h
     ·rw [h] at mV;simp [bE] at mV
     ·rw [h] at mV;simp [bE] at mV
    obtain ⟨k,hk⟩:=jR;rw [hk] at mV;rw [hk] at P2;obtain ⟨u,h1,h2⟩:=aa6 hH P2 hI.hp mV;refine NR lZ h1 (.inl rfl) ?_;rw [<-cZ.dst];exact hK _ _ _ _ _ _ (Sr hG hI hr hi fc gP hD hd hw (AB hw) hI.hp dD.refl (fun _ _ h=> .inl h) h2 ck.refl)
   rcases vS (jT rs i) with hw | hw
   ·have e:=hwc hw;subst e;refine aak hC hH (ajh cZ.op) lZ Eg P2 hI.hp (fun u m' S' w' k1 k2 k3 k4=>?_);rw [<-cZ.dst];obtain ⟨c',B3,h⟩:=abl hG hI hr hi fc gP hD hd hw k1 k2 k3 k4;exact hK _ _ _ _ _ _ h
   ·rcases xt (bF r.op) with hk | hk
    ·have Eg:=ab7 hw▸Eg;obtain ⟨h1,_,_⟩:=aam (.inl hk) Eg;exact now hw (by rw [akb hk (bP c) (bP i)];exact h1)
    ·have GG:=a7 hk hw;rcases vc i st with Uy | Uy
     ·
      rcases hI.GM with h0 | h0
      ·omega
      ·have bB:D (st-1):=hI.before _ (by omega) h0;have fU:i≠st-1:=fun e=>hi (e▸bB)
       obtain ⟨rp,hrp,hkp⟩:=h0;rcases hG.pair i (st-1) r rp (by omega) hr hrp with h | h
       ·exact (gP _ h bB).elim
       ·obtain ⟨hg,sz,ag,t,jR⟩:=(YR h).2 hk hkp;have hl:=Yd (c:=c) hG hr hi ⟨hg,jR⟩ hI.cn (fun j hj Ee=>by
         rcases vc j st with g | g
         ·exact hI.before j g Ee
         ·exact (hI.GL j g hj Ee).elim) gP hI.GN (c-(i+1)) (by omega)
        rw [show i+1+(c-(i+1))=c by omega] at hl;refine now hw ?_;rw [jR];simp only [bE,aA];rw [Nc (by simp [kT,jJ])];exact hl
     ·have iL:=MT hG hI (x:=i+1) (y:=c) (by omega) GG (yr _);have Li:=MT hG hI (x:=st) (y:=i) (yr _) Uy (by omega)
      refine quiet_step (Hq:=bP c) (cH:=bM c) hC hH (I0 hr hw) cZ.op lZ (ab7 hw▸Eg) iL.le iL.qc (hI.GN i (by omega)) ?_ P2 hI.hp (fun u m' S' w' k1 k2 k3 k4 k5=>?_)
      ·intro id h1 h2
       cases hm:m id with
       | none=>rfl
       | some p=>
        rcases hI.Wq id p hm with h | ⟨j,q1,q2,q3,q4,q5⟩
        ·have:=Li.qc;omega
        ·rcases Nat.lt_trichotomy j i with g | g | g
         ·have:=(MT hG hI (x:=j+1) (y:=i) (by omega) g (by omega)).qc;omega
         ·subst g;exact (hi q3).elim
         ·have:=(MT hG hI (x:=i+1) (y:=j) (by omega) g (by omega)).qc;omega
      ·rw [<-cZ.dst];exact hK _ _ _ _ _ _ (Sr hG hI hr hi fc gP hD hd hw (.inr GG) k1 k2 (fun id p h=>(k3 id p h).imp (fun h=>h) (fun h=>⟨Uy,GG,h.1,h.2⟩)) k4 k5)
def left (n:Nat) (listed:Array Bool):Nat:=(List.range n).countP fun i=> !listed.getD i false
def ame {n:Nat} {listed:Array Bool} {i:Nat} (hi:i<n) (hs:listed.size=n) (hl:listed.getD i true=false):left n (listed.setIfInBounds i true)+1=left n listed:=by
 have key:∀(l:List Nat),l.Nodup->(i∈l->(l.countP fun j=> !(listed.setIfInBounds i true).getD j false)+1=l.countP fun j=> !listed.getD j false)/\(i∉l->(l.countP fun j=> !(listed.setIfInBounds i true).getD j false)=l.countP fun j=> !listed.getD j false):=by
  intro l
  induction l with
  | nil=>intro _;exact ⟨fun h=>(by cases h),fun _=>rfl⟩
  | cons x l ih=>
   intro lZ;have hx:x≠i->(listed.setIfInBounds i true).getD x false=listed.getD x false:=fun h=>getD_set_ne false (ybA h)
   refine ⟨fun hm=>?_,fun hm=>?_⟩
   ·rw [yak,yak];by_cases e:x=i
    ·simp_all
    ·grind
   ·grind
 exact (key _ List.nodup_range).1 (List.mem_range.2 hi)
def akl {n:Nat} {listed:Array Bool} (h:left n listed=0):∀i,i<n->listed.getD i false=true:=by
 unfold left at h
 simp_all
def akm {listed:Array Bool} (hs:listed.size=ops.size) (hb:∀(i:Nat) (o:y8),ops[i]? =some o->∀e,e∈o.after->Region.binds .any e=true->e.on<i) (h:Region.ready .any ops listed=[]):∀i,i<ops.size->listed.getD i false=true:=by
 intro i
 induction i using vV with
 | _ i ih=>
  intro hi
  cases hq:listed.getD i false with
  | true=>rfl
  | false=>
   have:i∈Region.ready .any ops listed:=by
    refine mem_ready.2 ⟨?_,ops[i],by simp [hi],fun e he zb=>?_⟩
    ·have a7:i<listed.size:=by omega
     simp only [wR,a7,Array.getElem?_eq_getElem,wU] at hq ⊢;exact hq
    ·have:=hb i ops[i] (by simp [hi]) e he zb
     exact ih e.on this (by omega)
   rw [h] at this;cases this
def aop (hG:sB O H self ops rs b9 bP bM vF) (hI:Inv O ops rs b9 bP bM D m0 S0 w0 n0 d0 st c m S w a) (mG:∀i,i<rs.length->D i):
  aX O m S w (bP rs.length) (bM rs.length)/\cd O m S w (b9 rs.length) a.tmps/\ck m0 S0 w0 (bP 0) m S w (bP rs.length) (bM 0)/\bM 0<=bM rs.length:=by
 have hc:c=rs.length:=by
  rcases hI.cut with h | ⟨⟨r,h1,_⟩,h2⟩
  ·grind
  ·grind
 subst hc;refine ⟨hI.hp,fun t=>?_,hI.P0,hI.ge⟩;obtain ⟨j,h1,h2,h3⟩:=hI.tm t;obtain ⟨k,hk⟩:∃k,rs.length=j+k:=⟨rs.length-j,by omega⟩
 have:=IF (t:=t) (i:=j) hG.run k (by omega) (fun l r g1 g2 hl hd=>by
  have:=(h2 l r hl hd).1 (mG l (wk.1 hl).1)
  omega)
 grind
def aqE (hC:nY O self) (hH:fN O H) (hG:sB O H self ops rs b9 bP bM vF) (hn:H.n<=n0)
  (hQ:∀a' m' S' w',aX O m' S' w' (bP rs.length) (bM rs.length)->bM 0<=bM rs.length->cd O m' S' w' (b9 rs.length) a'.tmps->ck m0 S0 w0 (bP 0) m' S' w' (bP rs.length) (bM 0)->a'.tmps.size=n0->a'.defers=d0->Q .normal a' w'):
  ∀(bA:Nat) (listed:Array Bool) (st c:Nat) (m:Mp) (S:Nat->Prop) (w:yj) (a:Act),listed.size=ops.size->left ops.size listed=bA->Tj ops (fun i=>listed.getD i false=true)->
   Inv O ops rs b9 bP bM (fun i=>listed.getD i false=true) m0 S0 w0 n0 d0 st c m S w a->wpAnyIn (WF ro) 0 O.P .any ops Q bA listed a w:=by
 have fin:∀(listed:Array Bool) (st c:Nat) (m:Mp) (S:Nat->Prop) (w:yj) (a:Act),Inv O ops rs b9 bP bM (fun i=>listed.getD i false=true) m0 S0 w0 n0 d0 st c m S w a->(∀i,i<ops.size->listed.getD i false=true)->Q .normal a w:=by
  intro listed st c m S w a hI mG;obtain ⟨h1,h2,h3,h4⟩:=aop hG hI (fun i hi=>mG i (by rw [<-hG.len];exact hi))
  exact hQ a m S w h1 h4 h2 h3 hI.size hI.defers
 intro bA
 induction bA with
 | zero=>
  intro listed st c m S w a hs hl hc hI;have mG:=akl hl;refine ⟨?_,fin listed st c m S w a hI mG⟩;rw [List.eq_nil_iff_forall_not_mem];intro i hm;obtain ⟨h1,o,ho,_⟩:=mem_ready.1 hm
  grind
 | succ bA ih=>
  intro listed st c m S w a hs hl hc hI;refine ⟨fun h=>fin listed st c m S w a hI (akm hs hG.back h),fun i hm=>?_⟩;obtain ⟨h1,o,ho,h2⟩:=mem_ready.1 hm;have hi:i<ops.size:=(xv.1 ho).1;have hr:rs[i]? =some (rs[i]'(by rw [hG.len];exact hi)):=by simp [hG.len,hi]
  have a7:i<listed.size:=by omega
  have hni:¬listed.getD i false=true:=by
   grind
  have hD:∀j,(listed.setIfInBounds i true).getD j false=true↔listed.getD j false=true\/j=i:=by
   intro j;by_cases e:j=i
   ·simp_all
   ·rw [getD_set_ne false (ybA e)];simp [e]
  refine amd hC hH hG hn hI hr ho hni (ZA hc i o ho h2) (fun j hj Lh=>?_) hD (fun st' c' m' S' w' a' Wt=>ih (listed.setIfInBounds i true) st' c' m' S' w' a' (by simp [hs]) ?_ ?_ Wt)
  ·have hjl:j<ops.size:=by
    grind
   exact hni (amb hc (show ops[j]? =some ops[j] by simp [hjl]) Lh hj)
  ·have:=ame hi hs h1
   omega
  ·intro j oj hoj hj e he hb;rw [hD];rcases (hD j).1 hj with g | g
   ·exact .inl (hc j oj hoj g e he hb)
   ·grind
end
end
section
open Go
def ajj {F:Fence} {n:Nat} {P:xi} {Q:vX->Act->yj->Prop} {a:Act} {w:yj} {c:wQ} (h:c.wpIn F n P Q a w) (hg:∀l a w,¬Q (.goto l) a w):(Code.scope c).wpIn F n P Q a w:=by
 intro b k cs cZ hb hr;have h0:(lone (b.atR a (.code (.scope c)::k)) cs w).fenced P F:=fenced_calm hb hr rfl;have s0:step P (lone (b.atR a (.code (.scope c)::k)) cs w)= .next (lone (b.atR a (.code c:: .inScope c::k)) cs w):=step_lone_go (by simp [stepG,stepG.exec,Frame.atR]);obtain ⟨e,a₁,w₁,hq,DD⟩:=h b (.inScope c::k) cs cZ hb hr;have hx:∀id,exitTo id (.inScope c::k)=exitTo id k:=fun id=>by simp [exitTo]
 cases e with
 | normal=>
  have s1:step P (lone (b.atR a₁ (.inScope c::k)) cs w₁)= .next (lone (b.atR a₁ k) cs w₁):=step_lone_go (by simp [stepG,stepG.exec,Frame.atR]);exact ⟨.normal,a₁,w₁,hq,.head h0 s0 (StepsIn.trans DD (.one (fenced_calm hb hr rfl) s1))⟩
 | exit id=>
  exact ⟨.exit id,a₁,w₁,hq,fun k' hk=> .head h0 s0 (DD.1 k' (by rw [hx];exact hk)),fun cm hk=>let ⟨k₁,h1,h2⟩:=DD.2 cm (by rw [hx];exact hk);⟨k₁,h1,.head h0 s0 h2⟩⟩
 | goto l=>exact (hg _ _ _ hq).elim
 | ret=>exact ⟨_,a₁,w₁,hq,.of_steps (.one h0 s0) DD⟩
 | panic ch=>exact ⟨_,a₁,w₁,hq,.of_steps (.one h0 s0) DD⟩
 | outgrown=>exact ⟨_,a₁,w₁,hq,.of_steps (.one h0 s0) DD⟩
def re:Ex->vX
 | .normal=> .normal
 | .ret=> .ret
 | .exit id=> .exit id
def Marks (lo:Nat) (S:Nat->Prop) (w:yj) (ds:List uV):Prop:=∃rs:List Nat,ds=rs.map (fun r=>{target:= .collected r,args:=#[]})/\rs.Nodup/\
 ∀r,r∈rs->w.heap[r]? =some (.deferred (some []))/\¬S r/\lo<=r
def zN (ro:Option Nat) (w:yj):Prop:=∀l,ro=some l->∃r:Loop,w.heap[l]? =some (.loop r)
section
variable {O:bt} {m:Mp} {S:Nat->Prop} {w:yj} {hp:Hp} {ct:Nat}
def aan (hh:aX O m S w hp ct) {b:Nat} (h:ek m hp b):∀x,w.heap[b]?≠some (.deferred x):=by
 intro x hx;obtain ⟨id,o,p,h1,h2,rfl⟩:=h;have h3:=hh.obj id o p h1 h2
 cases o with
 | cells rw pu ex sz cs=>obtain ⟨q,arr,t,g1,g2,_⟩:=h3;rw [h2] at g1;injection g1 with g1;subst g1;rw [hx] at g2;cases g2
 | mp rw ks vs=>obtain ⟨q,es,clock,g1,g2,_⟩:=h3;rw [h2] at g1;injection g1 with g1;subst g1;rw [hx] at g2;cases g2
 | si s pos=>obtain ⟨q,t,g1,g2,_⟩:=h3;rw [h2] at g1;injection g1 with g1;subst g1;rw [hx] at g2;cases g2
 | lp tm ps cK body st pe=>obtain ⟨q,l,hi,g1,g2,_⟩:=h3;rw [h2] at g1;injection g1 with g1;subst g1;rw [hx] at g2;cases g2
def AZ (hh:aX O m S w hp ct) {m':Mp} {S':Nat->Prop} {w':yj} {ap:Hp} {base lo:Nat} (hf:ck m S w hp m' S' w' ap base) {ds:List uV} (h:Marks lo S w ds):Marks lo S' w' ds:=by
 obtain ⟨rs,h1,h2,h3⟩:=h;refine ⟨rs,h1,h2,fun r hr=>?_⟩;obtain ⟨this,h4,h5⟩:=h3 r hr;have a7:=(xv.1 this).1;have oJ:¬ek m hp r:=fun ho=>aan hh ho _ this
 refine ⟨(hf.same r a7 oJ).trans this,fun hs=>?_,h5⟩;rcases hf.new r hs with h | h | h
 ·grind
 ·grind
 ·omega
def MU {m':Mp} {S':Nat->Prop} {w':yj} {ap:Hp} {base:Nat} {ro:Option Nat} (hf:ck m S w hp m' S' w' ap base) (h:zN ro w):zN ro w':=fun l hl=>
 let ⟨r,hr⟩:=h l hl
 hf.loops l r hr
def eU (O:bt) (m:Mp) (S:Nat->Prop) (w:yj) (s:St) (ex:Ex) (s':St) (n lo:Nat) (e:vX) (a':Act) (w':yj):Prop:=
 e=re ex/\∃m' S',cd O m' S' w' s'.tm a'.tmps/\aX O m' S' w' s'.hp s'.ct/\s'.base=s.base/\s.base<=s'.ct/\ck m S w s.hp m' S' w' s'.hp s.base/\a'.tmps.size=n/\Marks lo S' w' a'.defers
def Br (O:bt) (h:Nat) (c:wQ) (s:St) (ex:Ex) (s':St):Prop:=
 ∀(ro:Option Nat) (lo:Nat) (m:Mp) (S:Nat->Prop) (w:yj) (a:Act),zN ro w->cd O m S w s.tm a.tmps->aX O m S w s.hp s.ct->s.base<=s.ct->(O.hint h).n<=a.tmps.size->O.w0.heap.size<=lo->lo<=w.heap.size->Marks lo S w a.defers->
  c.wpIn (WF ro) 0 O.P (eU O m S w s ex s' a.tmps.size lo) a w
structure eM (O:bt):Prop where
 hint:∀h,fN O (O.hint h)
 mixed:O.P.follows .mixedOrders=true
 prog:∀n F,O.prog n=some F->∃fn,O.P.funcs[O.ai n]? =some fn/\Fk O.P (O.hint n) fn=some F/\fn.name≠ "runtime.NumGoroutine"
 aW:∀n sp aq r,O.aW.pure n=some sp->sp aq=some r->eS O n aq r
 F1:∀n sp hp ct aq v ap bc,O.aW.heap n=some sp->sp hp ct aq=some (v,ap,bc)->Bq O n hp ct aq v ap bc
def Nf {P:xi} {H:Hint} {ops:Array y8}:∀(rs:List bh) (l:List y8) (done:List bh) (ms:List Nat),nk P H ops rs l->nk P H ops (zR done rs ms) l
 | [],l,done,ms,h=>by
  cases ms<;>simpa only [zR] using h
 | r::rs,[],done,ms,h=>by simp [nk] at h
 | r::rs,o::l,done,[],h=>by
  obtain ⟨d,g,op⟩:=r;cases op<;>simpa only [zR] using h
 | r::rs,o::l,done,m::ms,h=>by
  obtain ⟨h1,h2⟩:=h;obtain ⟨d,g,op⟩:=r
  cases op with
  | jf PZ f xs=>
   refine ⟨?_,Nf rs l _ ms h2⟩;rcases h1 with h1 | ⟨_,h1⟩
   ·refine .inl ⟨?_,h1.dst,h1.ok,h1.guard⟩;obtain ⟨c,f',g1,g2,g3,g4⟩:=Sk h1.op;rw [g3,g4];exact .inr (.inl ⟨c,f',_,g1,g2,rfl⟩)
   ·simp [bad] at h1
  | st sz x y=>
   refine ⟨?_,Nf rs l _ ms h2⟩;rcases h1 with h1 | ⟨_,h1⟩
   ·refine .inl ⟨?_,h1.dst,h1.ok,h1.guard⟩;unfold stOp
    split
    ·exact h1.op
    ·obtain ⟨t,x',y',g1,g2,g3,g4⟩:=ati h1.op;exact .inr (.inr ⟨t,x',y',sz,_,g1,g2,by rw [g3,g4]⟩)
   ·simp [bad] at h1
  | _=>
   exact ⟨h1,Nf rs l _ ms h2⟩
end
section
variable {O:bt} {self:cD}
def aao {P:xi} {H:Hint} {ops:Array y8}:∀{rs:List bh} {l:List y8},nk P H ops rs l->rs.length=l.length/\∀(i:Nat) (r:bh) (o:y8),rs[i]? =some r->l[i]? =some o->N9 P H ops r o\/(r.guard=none/\r.op=bad)
 | [],[],_=>⟨rfl,fun i r o h=>by simp at h⟩
 | [],_::_,h=>by simp [nk] at h
 | _::_,[],h=>by simp [nk] at h
 | r::rs,o::l,h=>by
  obtain ⟨h1,h2⟩:=aao h.2;refine ⟨by simp [h1],fun i r' o' hr ho=>?_⟩
  cases i with
  | zero=>simp at hr ho;subst hr;subst ho;exact h.1
  | succ i=>exact h2 i r' o' (by simpa using hr) (by simpa using ho)
def akn {m:Mp} {S:Nat->Prop} {w:yj} {hp:Hp} {ct:Nat} (hh:aX O m S w hp ct):Calm w {w with drawn:=w.drawn+1}:=⟨rfl,rfl,rfl,yr _,fun _ _=>rfl⟩
def aqF (hO:eM O) (hC:nY O self) (h:Nat) (id:Nat) (ops:Array y8) (draw:Bool) (k:Nat) {s s':St} (hv:dH O.prog O.aW self (Nw O.P (O.hint h) ops draw k).1 s=some s'):Br O h (.region id ops draw) s .normal s':=by
 intro ro lo m S w a cZ ht hh hb hn bj fo cM;unfold Nw at hv;have P3:=YP (P:=O.P) (H:=O.hint h) (ops:=ops) ops.toList k;generalize hq:CT O.P (O.hint h) ops ops.toList k=q at hv P3;obtain ⟨l,k'⟩:=q;simp only at hv P3;have post:∀{a':Act} {m':Mp} {S':Nat->Prop} {w':yj},aX O m' S' w' s'.hp s'.ct->s.ct<=s'.ct->cd O m' S' w' s'.tm a'.tmps->ck m S w s.hp m' S' w' s'.hp s.ct->a'.tmps.size=a.tmps.size->a'.defers=a.defers->s'.base=s.base->eU O m S w s .normal s' a.tmps.size lo .normal a' w':=by
  intro a' m' S' w' h1 h2 h3 h4 h5 h6 h7;exact ⟨rfl,m',S',h3,h1,h7,by omega,h4.sD hb,h5,by rw [h6];exact AZ hh h4 cM⟩
 cases draw with
 | false=>
  simp only [yO] at hv;refine wpIn_region ?_;rw [List.range_eq_range'];have hl:ops.size=ops.toList.length:=by simp
  rw [hl];exact abi hC (hO.hint h) ops.toList l 0 s s' a m S w (fun j=>by simp) P3 hv ht hh hn (fun a' m' S' w' h1 h2 h3 h4 h5 h6 h7=>post h1 h2 h3 h4 h5 h6 h7)
 | true=>
  simp only [yz] at hv
  cases rA:(IB ops.toList 0&&E6 [] (zR [] l (mz [] ops.toList)) (mz [] ops.toList)) with
  | false=>
   rw [rA] at hv;simp [dH,bad,br,eY,aA] at hv
  | true=>
   rw [rA] at hv;simp only [yz] at hv;simp only [ye] at rA;have afk:=Nf l ops.toList [] (mz [] ops.toList) P3;generalize zR [] l (mz [] ops.toList)=rs at hv rA afk;obtain ⟨hlen,az⟩:=aao afk;obtain ⟨b9,bP,bM,vF,hR,e1,e2,e3,e4,e5,e6,e7⟩:=abj hv;have hG:sB O (O.hint h) self ops rs b9 bP bM vF:=by
    refine ⟨hR,by rw [hlen];simp,fun i r o hr ho=>?_,fun i j x y Wn hx hy=>?_,fun i o ho e he hbd=>?_⟩
    ·rcases az i r o hr (by simpa using ho) with g | ⟨g1,g2⟩
     ·grind
     ·have:=hR.step i r hr
      simp [fa,g1,pH,g2,bad,br,eY,aA] at this
    ·obtain ⟨mm,g1,g2⟩:=Yb (done:=[]) (i:=i) (j:=j) (a:=x) (b:=y) rA.2 (by simpa using hx) hy (by simpa using Wn);refine g2.imp (fun g=>?_) (fun g=>by simpa using g);unfold Ord
     grind
    ·have:=X6 rA.1 (j:=i) (o:=o) (by simpa using ho) e he hbd
     omega
   refine wpIn_region_any hO.mixed ?_;have JL:=akn hh;have jk:=EX hh JL (S':=S) (fun _ h=>h) (fun _ h=> .inl h) hh.slt
   have Ca:ck m S w s.hp m S {w with drawn:=w.drawn+1} s.hp (bM 0):=CN hh JL (fun _ h=>h) (fun _ h=> .inl h);obtain ⟨c,c1,c2,c3,c4⟩:=Tk rs rs.length 0 (by omega);have hg:∀k',k'<=c->iP (bP 0) (bM 0) (bP (0+k')) (bM (0+k')):=fun k' oF=>
    MS hR (by rw [e2,e3];exact hh.a7) k' (by omega) (fun j r g1 g2 hr=>I0 hr (c3 j g1 (by omega)))
   have iL:=hg c (yr _);rw [yd] at iL;obtain ⟨S1,g1,g2,g3,g4⟩:=Na (by rw [e2,e3];exact jk:aX O m S {w with drawn:=w.drawn+1} (bP 0) (bM 0)) iL
   have sA:∀i,(ux ops.size false).getD i false=true->False:=fun i hi=>by
    simp only [wR] at hi
    grind
   refine aqE (m0:=m) (S0:=S) (w0:=w) (n0:=a.tmps.size) (d0:=a.defers) hC (hO.hint h) hG hn (fun a' m' S' w' h1 h2 h3 h4 h5 h6=>?_) ops.size _ 0 c m S1 _ a (by simp) ?_ (fun j o _ hj=>(sA j hj).elim) ?_
   ·rw [e5,e6] at h1;rw [e3,e6] at h2;rw [e4] at h3;rw [e2,e3,e5] at h4;exact post h1 h2 h3 h4 h5 h6 e7
   ·unfold left;rw [List.countP_eq_length.2]
    ·simp
    ·intro i hi;simp only [ua]
     cases hq:(ux ops.size false).getD i false with
     | false=>rfl
     | true=>exact (sA i hq).elim
   ·refine ⟨tq _,c2,fun i hi=>by omega,c3,c4.imp (fun h=>h) (fun h=>⟨h,fun hd=>sA c hd⟩),fun i r _ _ _ hd=>sA i hd,g1,fun id p hp=> .inl (by rw [e3];exact hh.lt id p hp),fun t=>⟨0,tq _,fun i r _ _=>⟨fun hd=>(sA i hd).elim,fun h=>by omega⟩,?_⟩,?_,iL.qc,rfl,rfl,.inl rfl,fun j hj=>?_⟩
    ·rw [e1];exact mi (fun _ _ h=>h) (fun b hb=>g2 b hb) (fun b hb=>JL.same b (hh.slt b hb)) _ _ (ht t)
    ·rw [e2];have g5:=g4 (bM 0);rw [e2] at g5;exact Ca.trans g5
    ·have:=(hg j hj).lt
     rw [yd] at this;exact this
end
end
end VE
