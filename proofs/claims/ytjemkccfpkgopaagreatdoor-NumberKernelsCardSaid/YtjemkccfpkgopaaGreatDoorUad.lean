import Derived.RangeFuncLeaves
import Derived.OrdersIn
import Derived.Test.YtjemkccfpkgopaaGreatDoorUac
set_option linter.all false
set_option maxRecDepth 100000
open Array renaming getD_eq_getD_getElem?→wV,getElem?_eq_some_iff→xm
open Bool renaming and_eq_true→ye,false_eq_true→yJ,not_eq_true'→tk,or_eq_false_iff→tR,or_eq_true→tf
open Classical renaming em→vY
open Go renaming Call→uS,Deferred→yby,Exit→uh,FuncId→tI,Oper→y5,Operand→xo,Program→y8,RoundIn→yar,Value→yf,World→yh
open List renaming countP_cons→yat,getElem?_cons_zero→vm,getElem?_eq_some_iff→wj,length_append→yL,length_cons→yG,length_nil→yO,mem_append→wJ,mem_cons→wM,mem_cons_of_mem→wS,mem_cons_self→vV
open Nat renaming beq→yx,ble→yF,eq_of_beq_eq_true→ym,eq_or_lt_of_le→wP,eq_zero_or_pos→xn,le_of_lt_succ→tv,le_refl→yo,le_trans→xf,lt_or_ge→wY,strongRecOn→ud,testBit→ux
open Ne renaming symm→ybK
open Option renaming bind_some→xI,getD_some→vR
open Option.some renaming injEq→yd
open Prod.mk renaming injEq→yj
namespace VE
section
open Go
def WF (ro:Option Nat):Fence:={Fence.wide with round:=ro}
section
variable {O:bl}
def afW (O:bl) (hp:Hp) (ct:Nat) (l:Nat) (xs:List AV) (v:AV) (ap:Hp) (aY:Nat):Prop:=
 ∀(m:Mp) (S:Nat->Prop) (w:yh) (args:Array yf) (p:Pl),aT O m S w hp ct->m l=some p->az O.af m S w xs args.toList->
  ∃f tmps assign body,(Instr.yield p.b args).run O.P w= .ok (.round p.b f tmps assign body) w/\yar Fence.wide 0 O.P p.b f tmps assign body w (r5 O m S w hp ct v ap aY)
structure nc (O:bl) (run:cy):Prop where
 pure:∀n aq r,bH O.prog O.aD run n aq=some r->ef O n aq r
 heap:∀hp ct n aq v ap aY,gZ O.prog O.aD run hp ct n aq=some (v,ap,aY)->Am O n hp ct aq v ap aY
 round:∀hp ct l xs v ap aY,mZ run hp ct l xs=some (v,ap,aY)->afW O hp ct l xs v ap aY
end
section
variable {P:y8} {o:y5} {a:Act} {w:yh} {ro:Option Nat} {next:Act->yh->Prop} {Q:uh->Act->yh->Prop}
def KQ {c:uS} {f:xo} (ho:o.op= .call c) (hc:c.callee= .value f) {g:tI} {fi ca:Array yf} (hf:a.eval f= .func (.func g) fi ca) {R:Ending->yh->Prop}
  (h:zY P g (fi++c.args.map a.eval++ca) w R) (hn:∀e w',R e w'->∃u,e= .returned u/\next (a.put o.dst u) w'):o.wpIn (WF ro) 0 P a w next Q:=by
 have fQ:(o.semAt ro a.eval).run P w=(callFunc g (fi++c.args.map a.eval++ca)).run P w:=by
  rw [Oper.semAt_eq _ _ _ (fun c' h'=>by rw [ho] at h';cases h')];simp only [execOp,ho,resolve,hc,Deferred.ofValue,hf,Sem.run_bind,Sem.run_pure,Result.andThen_ok,invoke]
 refine ⟨fun _ _=>trivial,?_⟩;show o.uponIn (WF ro) 0 P a next Q ((o.semAt ro a.eval).run P w)
 rw [fQ];rcases h with ⟨h1,h2⟩ | ⟨u,w',h1,h2⟩
 ·rw [h1,Oper.uponIn_enter];refine ⟨fun h=>by simp [WF,Fence.wide] at h,?_⟩;have h3:CallsIn (WF ro) 0 P g (fi++c.args.map a.eval++ca) w R:=h2;refine CallsIn.mono h3 (fun e w' he=>?_);obtain ⟨u,rfl,hq⟩:=hn e w' he;exact hq
 ·rw [h1];obtain ⟨u',e,hq⟩:=hn _ _ h2;injection e with e
  subst e;exact hq
def apM {c:uS} {f:xo} (ho:o.op= .call c) (hc:c.callee= .value f) {l:Nat} (hf:a.eval f= .func (.yield l) #[] #[]) {R:Ending->yh->Prop} {g:tI} {tmps:Array yf} {assign body:Code}
  (hy:(Instr.yield l (c.args.map a.eval)).run P w= .ok (.round l g tmps assign body) w) (h:yar Fence.wide 0 P l g tmps assign body w R) (hn:∀e w',R e w'->∃u,e= .returned u/\next (a.put o.dst u) w'):o.wpIn (WF ro) 0 P a w next Q:=by
 have fQ:(o.semAt ro a.eval).run P w= .ok (.round l g tmps assign body) w:=by
  rw [Oper.semAt_eq _ _ _ (fun c' h'=>by rw [ho] at h';cases h')];simp only [execOp,ho,resolve,hc,Deferred.ofValue,hf,Sem.run_bind,Sem.run_pure,Result.andThen_ok,invoke,Array.empty_append];exact hy
 refine ⟨fun _ _=>trivial,?_⟩;show o.uponIn (WF ro) 0 P a next Q ((o.semAt ro a.eval).run P w)
 rw [fQ,Oper.uponIn_round];refine ⟨fun h=>by simp [WF,Fence.wide] at h,?_⟩;have h3:yar (WF ro) 0 P l g tmps assign body w R:=h;refine RoundIn.mono h3 (fun e w' he=>?_);obtain ⟨u,rfl,hq⟩:=hn e w' he;exact hq
def L3 {n:Next} {u:yf} {w':yh} (hd:∀c,o.op≠.defer c) (h:(execOp a.eval o).run P w= .ok n w') (hn:n= .value u\/(n= .skip/\u=undef)) (hq:next (a.put o.dst u) w'):o.wpIn (WF ro) 0 P a w next Q:=by
 refine ⟨fun _ _=>trivial,?_⟩;show o.uponIn (WF ro) 0 P a next Q ((o.semAt ro a.eval).run P w)
 rw [Oper.semAt_eq _ _ _ hd,h];rcases hn with rfl | ⟨rfl,rfl⟩
 ·exact hq
 ·exact hq
end
def pQ (P:y8) (H:Hint) (q:Op) (o:y5):Prop:=
 (∃k,q=a6 P H k o)\/(∃c f rs,o.op= .call c/\c.callee= .value f/\q= .ir rs (aK H f) (gl H c.args.toList))\/
  (∃t x y sz rs,o.op= .store t x y/\cK P t=some sz/\q= .iX rs sz (aK H x) (aK H y))\/
  ∃k rs sz b x y,Op.aR sz b x y=a6 P H k o/\q= .kh rs sz b x y
def iS:Op->Op
 | .ir _ f xs=> .ir [] f xs
 | .iX _ s x v=> .st s x v
 | .kh _ s b x v=> .aR s b x v
 | o=>o
section
variable {O:bl} {H:Hint} {m:Mp} {S:Nat->Prop} {w:yh} {tm:Env} {a:Act} {hp:Hp} {ct:Nat} {self:cy} {ro:Option Nat} {next:Act->yh->Prop} {Q:uh->Act->yh->Prop}
def LJ {o:y5} {k:Nat} {md:Md} {x:X} {xs:List X} (h:a6 O.P H k o= .call md x xs) (hb:x≠.c .undef):∃c f,o.op= .call c/\c.callee= .value f/\x=aK H f/\xs=gl H c.args.toList:=by
 have nb:bad= .call md x xs->False:=fun h=>by simp only [bad,Op.call.injEq] at h;exact hb h.2.1.symm
 cases ho:o.op with
 | call c=>
  obtain ⟨callee,args,ts⟩:=c;simp only [a6,ho] at h
  split at h
  ·rename_i f;cases hm:H.mode k<;>simp only [hm,Op.call.injEq,reduceCtorEq] at h
   all_goals exact ⟨_,f,rfl,rfl,h.2.1.symm,h.2.2.symm⟩
  ·repeat' split at h
   all_goals first
    | exact (nb h).elim
    | (cases h;done)
    | (revert h;generalize yx _ _=bb;intro h;cases bb<;>first | exact (nb h).elim | (cases h;done))
  ·exact (nb h).elim
 | binOp op t x' y ty=>
  cases op<;>simp only [a6,ho,pI,qC] at h
  case eql=>
        repeat' split at h
        all_goals first
         | exact (nb h).elim
         | (cases h;done)
         | (cases cC:(O.P.stoodInHeld t||O.P.eqGuardType O.P.depth t)<;>rw [cC] at h<;>first | exact (nb h).elim | (cases h;done))
  case neq=>
        repeat' split at h
        all_goals first
         | exact (nb h).elim
         | (cases h;done)
         | (cases cC:(O.P.stoodInHeld t||O.P.eqGuardType O.P.depth t)<;>rw [cC] at h<;>first | exact (nb h).elim | (cases h;done))
  all_goals cases h
 | buildSlice t n parts=>
  simp only [a6,ho] at h
  repeat' split at h
  all_goals first
   | exact (nb h).elim
   | (cases h;done)
   | (revert h;generalize yF _ _=bb;intro h;cases bb<;>first | exact (nb h).elim | (simp only [yB] at h;cases h;done))
 | makeMap t r=>
  cases r<;>simp only [a6,ho] at h
  ·repeat' split at h
   all_goals first
    | exact (nb h).elim
    | (cases h;done)
  ·exact (nb h).elim
 | next x' b=>
  cases b<;>simp only [a6,ho] at h
  ·exact (nb h).elim
  ·cases h
 | _=>
  simp only [a6,ho] at h
  (repeat' split at h)
  all_goals first
   | contradiction
   | exact (nb h).elim
   | (cases h;done)
def amY {o:y5} {k:Nat} {r:AV×Hp×Nat} (hv:a8 O.prog O.aD self tm hp ct (a6 O.P H k o)=some r):∀c,o.op≠.defer c:=by
 intro c ho;simp [a6,ho,bad,a8,ez,aE] at hv
end
end
section
open Go
section
variable {O:bl} {H:Hint} {m:Mp} {S:Nat->Prop} {w:yh} {tm:Env} {a:Act} {hp ap Hq:Hp} {ct aY cH:Nat} {self:cy} {ro:Option Nat} {next:Act->yh->Prop} {Q:uh->Act->yh->Prop}
def anW {g:Go.Obj} {p:Pl} {S':Nat->Prop} {base:Nat} (hh:aT O m S w Hq cH) (hi:m ct=none) (hb:p.b=w.heap.size) (h1:∀b,S b->S' b) (h2:∀b,S' b->S b\/b=w.heap.size):
  b8 m S w Hq (fj m ct p) S' (w.alloc g) Hq base where
 os:=rfl
 tape:=rfl
 output:=rfl
 size:=by simp
 same b hb _:=alloc_old hb
 sub:=h1
 still b hb:=alloc_old (hh.slt b hb)
 new b hb:=(h2 b hb).imp (fun h=>h) (fun h=> .inr (by omega))
 own b hb:=by
  obtain ⟨i,o,q,g1,g2,g3⟩:=hb;by_cases hc:i=ct
  ·subst hc;rw [dZ] at g2
   grind
  ·rw [dY hc] at g2;exact .inl ⟨i,o,q,g1,g2,g3⟩
 old i q _ h:=jM hi i q h
 loops b r hb:=⟨r,(alloc_old (xm.1 hb).1).trans hb⟩
def ZZ {Ml aq:List AV} {us:List yf} {bi:Hp} (hz:cM deep hp Ml=some (aq,bi)) (hl:cY bi Hq) (hh:aT O m S w Hq cH) (hr:az O.af m S w Ml us):az O.af eI S w aq us/\aG aq=true:=by
 obtain ⟨_,_,h3⟩:=PJ (O:=O) hz;obtain ⟨k1,k2⟩:=h3 Hq m S w cH hl hh;exact ⟨rZ (fun _ h=>h) (fun _ _=>rfl) _ _ k2 (k1 us hr),k2⟩
def QQ (hh:aT O m S w Hq cH):Al O w:=⟨hh.kP,hh.fB⟩
def Lj (hH:fo O H) (ht:b7 O m S w tm a.tmps) {f:xo} {g:Nat} {first cap:List AV} {args:Array xo} (hf:aE tm (aK H f)= .fn (.f g) first cap):
  ∃fi ca:Array yf,a.eval f= .func (.func (O.af g)) fi ca/\az O.af m S w (first++(dj tm (gl H args.toList)++cap)) (fi++args.map a.eval++ca).toList:=by
 have rf:=cw hH ht f;rw [hf] at rf;obtain ⟨fi,ca,h1,h2,h3⟩:=rf;refine ⟨fi,ca,h1,?_⟩
 have:=lA h2 (lA (BL hH ht args.toList) h3)
 simp_all
def amZ (hC:nc O self) (hH:fo O H) {o:y5} {c:uS} {f:xo} (ho:o.op= .call c) (ij:c.callee= .value f) {g:Nat} {first cap aq:List AV} {bi:Hp} {r:AV}
  (hf:aE tm (aK H f)= .fn (.f g) first cap) (hz:cM deep hp (first++(dj tm (gl H c.args.toList)++cap))=some (aq,bi)) (hr:bH O.prog O.aD self g aq=some r)
  (hl:cY bi Hq) (ht:b7 O m S w tm a.tmps) (hh:aT O m S w Hq cH)
  (hn:∀u S' w',aT O m S' w' Hq cH->ah O.af m S' w' (shut r) u->b8 m S w Hq m S' w' Hq cH->next (a.put o.dst u) w'):o.wpIn (WF ro) 0 O.P a w next Q:=by
 obtain ⟨fi,ca,h1,h2⟩:=Lj hH ht (args:=c.args) hf;obtain ⟨h3,h4⟩:=ZZ hz hl hh h2;refine KQ ho ij h1 (hC.pure g aq r hr w S _ (QQ hh) hh.slt h3 h4) ?_;rintro e w' ⟨u,S',rfl,hw,g1,g2,g3,g4⟩;refine ⟨u,rfl,?_⟩;obtain ⟨S2,k1,k2,k3⟩:=aa3 g4 m;have hS:∀b,S b->S2 b:=fun b hb=>k1 b (g1 b hb)
 have JO:∀b,S2 b->S b\/w.heap.size<=b:=fun b hb=>(k2 b hb).elim (g2 b) (fun h=> .inr h.1)
 have hl:∀b,S2 b->b<w'.heap.size:=fun b hb=>(k2 b hb).elim (g3 b) (fun h=>h.2)
 exact hn u S2 w' (Ds hh hw hS JO hl) k3 (BA hh hw hS JO)
def anX (hC:nc O self) (hH:fo O H) {o:y5} {c:uS} {f:xo} (ho:o.op= .call c) (ij:c.callee= .value f) {g:Nat} {first cap aq:List AV} {bi:Hp} {r:AV}
  (hf:aE tm (aK H f)= .fn (.f g) first cap) (hz:cM deep hp (first++(dj tm (gl H c.args.toList)++cap))=some (aq,bi)) (hr:bH O.prog O.aD self g aq=some r)
  (hl:cY (own bi ct r).2.1 Hq) (fU:(own bi ct r).2.2<=cH) (aW:∀id o,aB hp id=some o->id<ct) (zu:∀id,ct<=id->id<(own bi ct r).2.2->m id=none)
  (ht:b7 O m S w tm a.tmps) (hh:aT O m S w Hq cH)
  (hn:∀u m' S' w',aT O m' S' w' Hq cH->du m m'->(∀id p,m' id=some p->m id=some p\/(ct<=id/\id<(own bi ct r).2.2))->ah O.af m' S' w' (own bi ct r).1 u->b8 m S w Hq m' S' w' Hq cH->next (a.put o.dst u) w'):
  o.wpIn (WF ro) 0 O.P a w next Q:=by
 obtain ⟨fi,ca,h1,h2⟩:=Lj hH ht (args:=c.args) hf;obtain ⟨z1,z2,z3⟩:=PJ (O:=O) hz;have Sj:∀id o,aB bi id=some o->id<ct:=fun id o h=>by
  have:=z2 id
  rw [h] at this
  cases hq:aB hp id with
  | none=>rw [hq] at this;cases this
  | some q=>exact aW id q hq
 have at6:∀id o,aB bi id=some o->aB (own bi ct r).2.1 id=some o:=fun id o h=>by
  cases r with
  | ae vs=>exact LI Sj id o h
  | _=>exact QP Sj id o h
 have mO:cY bi Hq:=fun id o h=>hl id o (at6 id o h)
 obtain ⟨h3,h4⟩:=ZZ hz mO hh h2;refine KQ ho ij h1 (hC.pure g aq r hr w S _ (QQ hh) hh.slt h3 h4) ?_;rintro e w' ⟨u,S',rfl,hw,g1,g2,g3,g4⟩;refine ⟨u,rfl,?_⟩;have A2:=Ds hh hw g1 g2 g3;have AX:=BA (base:=cH) hh hw g1 g2;obtain ⟨m',S2,k1,k2,k3,k4,k5,k6⟩:=at5 (lo:=w.heap.size) A2 hl fU Sj zu g4 hh.fB (fun j q hq=>hh.blt j q hq);refine hn u m' S2 w' k1 k2 (fun id p h=>(k3 id p h).imp (fun h=>h) (fun h=>⟨h.1,h.2.1⟩)) k4 ⟨hw.os,hw.tape,hw.output,hw.size,fun b hb _=>hw.same b hb,fun b hb=>k5 b (g1 b hb),fun b hb=>hw.same b (hh.slt b hb),?_,?_,fun i q _ h=>k2 i q h,AX.loops⟩
 ·grind
 ·rintro b ⟨i,ob,q,q1,q2,q3⟩;rcases k3 i q q2 with h | h
  ·exact .inl ⟨i,ob,q,q1,h,q3⟩
  ·grind
def quiet_step (hC:nc O self) (hH:fo O H) {o:y5} {q:Op} {v:AV} (hk:bA q<=1) (hq:pQ O.P H q o) (hd:∀c,o.op≠.defer c) (hv:a8 O.prog O.aD self tm hp ct q=some (v,ap,aY)) (hl:cY ap Hq) (fU:aY<=cH)
  (aW:∀id o,aB hp id=some o->id<ct) (zu:∀id,ct<=id->id<aY->m id=none) (ht:b7 O m S w tm a.tmps) (hh:aT O m S w Hq cH)
  (hn:∀u m' S' w',aT O m' S' w' Hq cH->du m m'->(∀id p,m' id=some p->m id=some p\/(ct<=id/\id<aY))->ah O.af m' S' w' v u->b8 m S w Hq m' S' w' Hq cH->next (a.put o.dst u) w'):
  o.wpIn (WF ro) 0 O.P a w next Q:=by
 have jl:∃k,q=a6 O.P H k o:=by
  rcases hq with h | ⟨c,f,rs,_,_,rfl⟩ | ⟨_,_,_,_,_,_,_,rfl⟩ | ⟨_,_,_,_,_,_,_,rfl⟩
  ·exact h
  ·simp [bA] at hk
  ·simp [bA] at hk
  ·simp [bA] at hk
 obtain ⟨k,hq⟩:=jl;have read:∀{v:AV},bw tm hp q=some v->cY hp Hq->(∀u m' S' w',aT O m' S' w' Hq cH->du m m'->(∀id p,m' id=some p->m id=some p\/(ct<=id/\id<aY))->ah O.af m' S' w' v u->b8 m S w Hq m' S' w' Hq cH->next (a.put o.dst u) w')->o.wpIn (WF ro) 0 O.P a w next Q:=by
  intro v hr hl hn;have bR:=anQ hl hr;rw [hq] at bR;obtain ⟨u,h1,h2⟩:=acL hH ht hh bR;exact L3 hd h1 (.inl rfl) (hn u m S w hh du.refl (fun _ _ h=> .inl h) h2 b8.refl)
 have makes:∀{v:AV} {b:Obj},cO tm hp ct q=some (v,b)->cY ((ct,b)::hp) Hq->ct+1<=cH->m ct=none->(∀u m' S' w',aT O m' S' w' Hq cH->du m m'->(∀id p,m' id=some p->m id=some p\/(ct<=id/\id<ct+1))->ah O.af m' S' w' v u->b8 m S w Hq m' S' w' Hq cH->next (a.put o.dst u) w')->o.wpIn (WF ro) 0 O.P a w next Q:=by
  intro v b hr hl hc hi hn;rw [hq] at hr;have bR:cO tm Hq ct (a6 O.P H k o)=some (v,b):=by rw [<-hr];exact GO (fun _ _=>rfl)
  obtain ⟨u,g,p,h1,h2,h3,h4⟩:=arD hH ht hh bR;obtain ⟨S',k1,k2,k3⟩:=abL (i:=ct) (g:=g) (p:=p) hh hi hc h2 (fun o' kX=>by
   obtain ⟨o'',g1,g2⟩:=hl ct b (by rw [gL];simp)
   rw [kX] at g1;injection g1 with g1
   subst g1
   have:=ZW g2 dZ (h4 _ (jM hi) dZ).1 h3
   rwa [h2] at this)
  refine L3 hd h1 (.inl rfl) (hn u _ S' _ k1 (jM hi) (fun id q hq=>?_) (lB (fun _ _ h=>h) k2 (fun _ _=>rfl) _ _ (h4 _ (jM hi) dZ).2) (anW hh hi h2 k2 k3));by_cases hc:id=ct
  ·exact .inr (by omega)
  ·rw [dY hc] at hq;exact .inl hq
 have cL:∀{q:Op},(match cO tm hp ct q with | some (v,b)=>some (v,(ct,b)::hp,ct+1) | none=>(none:fJ))=some (v,ap,aY)->∃b,cO tm hp ct q=some (v,b)/\ap=(ct,b)::hp/\aY=ct+1:=by
  intro q h
  cases hm:cO tm hp ct q with
  | none=>simp [hm] at h
  | some r=>
   obtain ⟨v1,b⟩:=r;simp only [hm,yd,yj] at h;obtain ⟨rfl,rfl,rfl⟩:=h;exact ⟨b,rfl,rfl,rfl⟩
 have kw:∀{q:Op},(match bw tm hp q with | some v=>some (v,hp,ct) | none=>(none:fJ))=some (v,ap,aY)->bw tm hp q=some v/\ap=hp/\aY=ct:=by
  intro q h
  cases hm:bw tm hp q with
  | none=>simp [hm] at h
  | some r=>
   simp only [hm,yd,yj] at h;obtain ⟨rfl,rfl,rfl⟩:=h;exact ⟨rfl,rfl,rfl⟩
 have HG:(∃b,cO tm hp ct q=some (v,b)/\ap=(ct,b)::hp/\aY=ct+1)->o.wpIn (WF ro) 0 O.P a w next Q:=by
  rintro ⟨b,h1,rfl,rfl⟩;exact makes h1 hl fU (zu ct (yo _) (Nat.lt_succ_self _)) hn
 have at7:(bw tm hp q=some v/\ap=hp/\aY=ct)->o.wpIn (WF ro) 0 O.P a w next Q:=by
  rintro ⟨h1,rfl,rfl⟩;exact read h1 hl hn
 cases q with
 | st _ _ _=>simp [bA] at hk
 | oP _ _ _ _=>simp [bA] at hk
 | oR _=>simp [bA] at hk
 | aR _ _ _ _=>simp [bA] at hk
 | mf _ _ _=>simp [bA] at hk
 | ir _ _ _=>simp [bA] at hk
 | iX _ _ _ _=>simp [bA] at hk
 | kh _ _ _ _ _=>simp [bA] at hk
 | box s x=>exact HG (cL (by simp only [a8] at hv;exact hv))
 | dT n s z ps=>exact HG (cL (by simp only [a8] at hv;exact hv))
 | fI s b z x y=>exact HG (cL (by simp only [a8] at hv;exact hv))
 | zi=>exact HG (cL (by simp only [a8] at hv;exact hv))
 | oQ x=>exact HG (cL (by simp only [a8] at hv;exact hv))
 | call md x xs=>
  cases md with
  | heap=>simp [bA] at hk
  | dyn=>simp [bA] at hk
  | pure=>
   simp only [a8,ez] at hv
   split at hv
   ·rename_i g first cap hx
    (try simp only at hv)
    cases hz:cM deep hp (first++(dj tm xs++cap)) with
    | none=>simp [hz] at hv
    | some z=>
     obtain ⟨aq,bi⟩:=z;simp only [hz] at hv
     cases hr:bH O.prog O.aD self g aq with
     | none=>simp [hr] at hv
     | some r=>
      simp only [hr,yd,yj] at hv;obtain ⟨rfl,rfl,rfl⟩:=hv;obtain ⟨c,f,ho,ij,rfl,rfl⟩:=LJ hq.symm (by rintro rfl;simp [aE] at hx);exact amZ hC hH ho ij hx hz hr hl ht hh (fun u S' w' h1 h2 h3=>hn u m S' w' h1 du.refl (fun _ _ h=> .inl h) h2 h3)
   ·simp at hv
   ·cases hv
  | own=>
   simp only [a8,ez] at hv
   split at hv
   ·rename_i g first cap hx
    (try simp only at hv)
    cases hz:cM deep hp (first++(dj tm xs++cap)) with
    | none=>simp [hz] at hv
    | some z=>
     obtain ⟨aq,bi⟩:=z;simp only [hz] at hv
     cases hr:bH O.prog O.aD self g aq with
     | none=>simp [hr] at hv
     | some r=>
      simp only [hr,yd] at hv;obtain ⟨c,f,ho,ij,rfl,rfl⟩:=LJ hq.symm (by rintro rfl;simp [aE] at hx);have e1:v=(own bi ct r).1:=by rw [hv]
      have e2:ap=(own bi ct r).2.1:=by rw [hv]
      have e3:aY=(own bi ct r).2.2:=by rw [hv]
      subst e1;subst e2;subst e3;exact anX hC hH ho ij hx hz hr hl fU aW zu ht hh hn
   ·simp at hv
   ·cases hv
 | _=>exact at7 (kw (by simp only [a8] at hv;exact hv))
end
end
section
open Go
section
variable {O:bl} {H:Hint} {m:Mp} {S:Nat->Prop} {w:yh} {tm:Env} {a:Act} {hp ap:Hp} {ct aY:Nat} {self:cy} {ro:Option Nat} {next:Act->yh->Prop} {Q:uh->Act->yh->Prop}
def b8.qU {m':Mp} {S':Nat->Prop} {w':yh} {b b':Nat} (h:b8 m S w hp m' S' w' ap b) (hb:b'<=b):b8 m S w hp m' S' w' ap b':=
 ⟨h.os,h.tape,h.output,h.size,h.same,h.sub,h.still,h.new,h.own,fun i q hi hq=>h.old i q (by omega) hq,h.loops⟩
def aua {hp:Hp} {ct:Nat} {r:AV} (aW:∀id o,aB hp id=some o->id<ct):∀id o,aB (own hp ct r).2.1 id=some o->id<(own hp ct r).2.2:=by
 have hL:∀(vs:List AV) (hp:Hp) (ct:Nat),(∀id o,aB hp id=some o->id<ct)->∀id o,aB (ji hp ct vs).2.1 id=some o->id<(ji hp ct vs).2.2:=by
  intro vs
  induction vs with
  | nil=>intro hp ct h id o ho;exact h id o ho
  | cons v r ih=>intro hp ct h id o ho;exact ih _ _ (Hr h) id o ho
 cases r with
 | ae vs=>exact hL vs hp ct aW
 | _=>exact Hr aW
def aub {hp:Hp} {ct:Nat} {r:AV} (aW:∀id o,aB hp id=some o->id<ct):∀id o,aB hp id=some o->aB (own hp ct r).2.1 id=some o:=by
 cases r with
 | ae vs=>exact LI aW
 | _=>exact QP aW
def auc {hp:Hp} {ct:Nat} {r:AV}:ct<=(own hp ct r).2.2:=by
 cases r with
 | ae vs=>exact LH
 | _=>exact LF
def apN {hp:Hp} {ct:Nat} {r:AV}:∀id o,aB (own hp ct r).2.1 id=some o->id<ct->aB hp id=some o:=by
 have h1:∀(hp:Hp) (ct:Nat) (r:AV) id o,aB (fb hp ct r).2.1 id=some o->id<ct->aB hp id=some o:=by
  intro hp ct r id o h hc;cases r<;>simp only [fb] at h<;>try exact h
  rw [gL,yr (by omega)] at h;exact h
 have hL:∀(vs:List AV) (hp:Hp) (ct:Nat) id o,aB (ji hp ct vs).2.1 id=some o->id<ct->aB hp id=some o:=by
  intro vs
  induction vs with
  | nil=>intro hp ct id o ho _;exact ho
  | cons v r ih=>intro hp ct id o ho hc;exact h1 hp ct v id o (ih _ _ id o ho (by have:=LF (hp:=hp) (ct:=ct) (r:=v);omega)) hc
 cases r with
 | ae vs=>exact hL vs hp ct
 | _=>exact h1 hp ct _
structure hZ (hp:Hp) (ct:Nat) (ap:Hp) (aY:Nat):Prop where
 le:cY hp ap
 oW:ct<=aY
 lt:∀id o,aB ap id=some o->id<aY
 back:∀id o,aB ap id=some o->id<ct->∃o',aB hp id=some o'
def hZ.refl (aW:∀id o,aB hp id=some o->id<ct):hZ hp ct hp ct:=⟨cY.refl,yo _,aW,fun _ o h _=>⟨o,h⟩⟩
def hZ.trans {IC:Hp} {ah4:Nat} (h:hZ hp ct ap aY) (k:hZ ap aY IC ah4):hZ hp ct IC ah4:=
 ⟨h.le.trans k.le,xf h.oW k.oW,k.lt,fun id o ho hi=>let ⟨o1,h1⟩:=k.back id o ho (Nat.lt_of_lt_of_le hi h.oW);h.back id o1 h1 hi⟩
def aa7 {Ml aq:List AV} {bi:Hp} (hz:cM deep hp Ml=some (aq,bi)) (aW:∀id o,aB hp id=some o->id<ct):hZ hp ct bi ct:=by
 obtain ⟨z1,z2,_⟩:=PJ (O:=⟨default,⟨fun _=>none,fun _=>none⟩,fun _=>0,fun _=>none,fun _=>⟨0,fun _=>none,fun _=>[],fun _=>none,fun _=> .pure,fun _=>[]⟩,default⟩) hz;have hb:∀id o,aB bi id=some o->∃o',aB hp id=some o':=fun id o h=>by
  have:=z2 id
  rw [h] at this
  cases hq:aB hp id with
  | none=>rw [hq] at this;cases this
  | some q=>exact ⟨q,rfl⟩
 exact ⟨z1,yo _,fun id o h=>let ⟨o',h'⟩:=hb id o h;aW id o' h',fun id o h _=>hb id o h⟩
def anY {r:AV} (aW:∀id o,aB hp id=some o->id<ct):hZ hp ct (own hp ct r).2.1 (own hp ct r).2.2:=
 ⟨fun id o h=>⟨o,aub aW id o h,iZ.refl o⟩,auc,aua aW,fun id o h hi=>⟨o,apN id o h hi⟩⟩
def Z0 {P:aH} {L:Lib} {q:Op} {v:AV} (hk:bA q<=1) (hv:a8 P L self tm hp ct q=some (v,ap,aY)) (aW:∀id o,aB hp id=some o->id<ct):hZ hp ct ap aY:=by
 have cL:∀{q:Op},(match cO tm hp ct q with | some (v,b)=>some (v,(ct,b)::hp,ct+1) | none=>(none:fJ))=some (v,ap,aY)->hZ hp ct ap aY:=by
  intro q h
  cases hm:cO tm hp ct q with
  | none=>simp [hm] at h
  | some r=>
   obtain ⟨v1,b⟩:=r;simp only [hm,yd,yj] at h;obtain ⟨rfl,rfl,rfl⟩:=h;refine ⟨fun id o ho=>⟨o,?_,iZ.refl o⟩,by omega,fun id o ho=>?_,fun id o ho hi=>?_⟩
   ·rw [gL,yr (by have:=aW id o ho;omega)];exact ho
   ·rw [gL] at ho;by_cases hc:ct=id
    ·omega
    ·simp only [hc,xd] at ho;have:=aW id o ho;omega
   ·rw [gL,yr (by omega)] at ho;exact ⟨o,ho⟩
 have kw:∀{q:Op},(match bw tm hp q with | some v=>some (v,hp,ct) | none=>(none:fJ))=some (v,ap,aY)->hZ hp ct ap aY:=by
  intro q h
  cases hm:bw tm hp q with
  | none=>simp [hm] at h
  | some r=>
   simp only [hm,yd,yj] at h;obtain ⟨rfl,rfl,rfl⟩:=h;exact hZ.refl aW
 cases bK:q with
 | st _ _ _=>simp [bK,bA] at hk
 | oP _ _ _ _=>simp [bK,bA] at hk
 | oR _=>simp [bK,bA] at hk
 | aR _ _ _ _=>simp [bK,bA] at hk
 | mf _ _ _=>simp [bK,bA] at hk
 | ir _ _ _=>simp [bK,bA] at hk
 | iX _ _ _ _=>simp [bK,bA] at hk
 | kh _ _ _ _ _=>simp [bK,bA] at hk
 | box s x=>exact cL (q:=q) (by rw [bK] at hv ⊢;simp only [a8] at hv;exact hv)
 | dT n s z ps=>exact cL (q:=q) (by rw [bK] at hv ⊢;simp only [a8] at hv;exact hv)
 | fI s b z x y=>exact cL (q:=q) (by rw [bK] at hv ⊢;simp only [a8] at hv;exact hv)
 | zi=>exact cL (q:=q) (by rw [bK] at hv ⊢;simp only [a8] at hv;exact hv)
 | oQ x=>exact cL (q:=q) (by rw [bK] at hv ⊢;simp only [a8] at hv;exact hv)
 | call md x xs=>
  subst bK;simp only [a8,ez] at hv
  split at hv
  ·rename_i g first cap hx
   cases md with
   | heap=>simp [bA] at hk
   | dyn=>simp [bA] at hk
   | pure=>
    simp only at hv
    cases hz:cM deep hp (first++(dj tm xs++cap)) with
    | none=>simp [hz] at hv
    | some z=>
     obtain ⟨aq,bi⟩:=z;simp only [hz] at hv
     cases hr:bH P L self g aq with
     | none=>simp [hr] at hv
     | some r=>
      simp only [hr,yd,yj] at hv;obtain ⟨rfl,rfl,rfl⟩:=hv;exact aa7 hz aW
   | own=>
    simp only at hv
    cases hz:cM deep hp (first++(dj tm xs++cap)) with
    | none=>simp [hz] at hv
    | some z=>
     obtain ⟨aq,bi⟩:=z;simp only [hz] at hv
     cases hr:bH P L self g aq with
     | none=>simp [hr] at hv
     | some r=>
      simp only [hr,yd] at hv;have e2:ap=(own bi ct r).2.1:=by rw [hv]
      have e3:aY=(own bi ct r).2.2:=by rw [hv]
      subst e2;subst e3;have g1:=aa7 hz aW;exact g1.trans (anY g1.lt)
  ·cases md with
   | heap=>simp [bA] at hk
   | dyn=>simp [bA] at hk
   | _=>simp at hv
  ·cases hv
 | _=>exact kw (q:=q) (by rw [bK] at hv ⊢;simp only [a8] at hv;exact hv)
def Lk (hh:aT O m S w hp ct) (hg:hZ hp ct ap aY):∃S',aT O m S' w ap aY/\(∀b,S b->S' b)/\(∀b,S' b->S b\/dR m hp b)/\∀base,b8 m S w hp m S' w ap base:=by
 have hd:∀id o p,aB ap id=some o->m id=some p->∃o',aB hp id=some o':=fun id o p h hm=>hg.back id o h (hh.lt id p hm)
 obtain ⟨S',g1,g2,g3⟩:=acM hh hg.le hd hg.oW hg.lt;refine ⟨S',g1,g2,g3,fun base=>⟨rfl,rfl,rfl,yo _,fun _ _ _=>rfl,g2,fun _ _=>rfl,fun b hb=>(g3 b hb).imp (fun h=>h) .inl,?_,fun _ _ _ h=>h,fun _ r h=>⟨r,h⟩⟩⟩;rintro b ⟨i,o,p,h1,h2,h3⟩;obtain ⟨o',h4⟩:=hd i o p h1 h2;exact .inl ⟨i,o',p,h4,h2,h3⟩
def apO {q:Op} {v:AV} (hv:cI tm hp ct q=some (v,ap,aY)):ct<=aY:=by
 cases q<;>simp only [cI,reduceCtorEq] at hv
 all_goals
  grind
def Qm {P:y8} {H:Hint} {o:y5} {rs:List (Nat×Bool×Nat)} {x:X} {xs:List X} (hq:pQ P H (.ir rs x xs) o):∃c f,o.op= .call c/\c.callee= .value f/\x=aK H f/\xs=gl H c.args.toList:=by
 rcases hq with ⟨k,hk⟩ | ⟨c,f,rs',h1,h2,h3⟩ | ⟨_,_,_,_,_,_,_,h3⟩ | ⟨_,_,_,_,_,_,_,h3⟩
 ·cases ho:o.op with
  | call c=>
   obtain ⟨callee,args,ts⟩:=c;simp only [a6,ho] at hk
   split at hk
   ·rename_i f;cases hm:H.mode k<;>simp only [hm,Op.ir.injEq,reduceCtorEq] at hk
    exact ⟨_,f,rfl,rfl,hk.2.1,hk.2.2⟩
   ·repeat' split at hk
    all_goals first
     | (cases hk;done)
     | (simp only [bad] at hk;cases hk;done)
     | (revert hk;generalize yx _ _=bb;intro hk;cases bb<;>simp [bad] at hk)
   ·simp only [bad] at hk;cases hk
  | binOp op t x' y ty=>
   cases op<;>simp only [a6,ho,pI,qC] at hk
   case eql=>
         repeat' split at hk
         all_goals first
          | (cases hk;done)
          | (simp only [bad] at hk;cases hk;done)
          | (cases cC:(P.stoodInHeld t||P.eqGuardType P.depth t)<;>rw [cC] at hk<;>simp [bad] at hk)
   case neq=>
         repeat' split at hk
         all_goals first
          | (cases hk;done)
          | (simp only [bad] at hk;cases hk;done)
          | (cases cC:(P.stoodInHeld t||P.eqGuardType P.depth t)<;>rw [cC] at hk<;>simp [bad] at hk)
   all_goals cases hk
  | buildSlice t n parts=>
   simp only [a6,ho] at hk
   repeat' split at hk
   all_goals first
    | (cases hk;done)
    | (simp only [bad] at hk;cases hk;done)
    | (revert hk;generalize yF _ _=bb;intro hk;cases bb<;>simp [bad] at hk)
  | makeMap t r=>
   cases r<;>simp only [a6,ho] at hk
   ·repeat' split at hk
    all_goals first
     | (cases hk;done)
     | (simp only [bad] at hk;cases hk;done)
   ·simp only [bad] at hk;cases hk
  | next x' b=>
   cases b<;>simp only [a6,ho] at hk
   ·simp only [bad] at hk;cases hk
   ·cases hk
  | _=>
   simp only [a6,ho] at hk
   (repeat' split at hk)
   all_goals first
    | contradiction
    | (cases hk;done)
    | (simp only [bad] at hk;cases hk;done)
 ·simp only [Op.ir.injEq] at h3;exact ⟨c,f,h1,h2,h3.2.1,h3.2.2⟩
 ·cases h3
 ·cases h3
def am0 {P:y8} {H:Hint} {o:y5} {k:Nat} {rs:List (Nat×Bool×Nat)} {sz:Nat} {x y:X} (hk:Op.iX rs sz x y=a6 P H k o):False:=by
 cases ho:o.op with
 | call c=>
  obtain ⟨callee,args,ts⟩:=c;simp only [a6,ho] at hk
  split at hk
  ·grind
  ·repeat' split at hk
   all_goals first
    | (cases hk;done)
    | (simp only [bad] at hk;cases hk;done)
    | (revert hk;generalize yx _ _=bb;intro hk;cases bb<;>simp [bad] at hk)
  ·simp only [bad] at hk;cases hk
 | binOp op t x' y ty=>
  cases op<;>simp only [a6,ho,pI,qC] at hk
  case eql=>
        repeat' split at hk
        all_goals first
         | (cases hk;done)
         | (simp only [bad] at hk;cases hk;done)
         | (cases cC:(P.stoodInHeld t||P.eqGuardType P.depth t)<;>rw [cC] at hk<;>simp [bad] at hk)
  case neq=>
        repeat' split at hk
        all_goals first
         | (cases hk;done)
         | (simp only [bad] at hk;cases hk;done)
         | (cases cC:(P.stoodInHeld t||P.eqGuardType P.depth t)<;>rw [cC] at hk<;>simp [bad] at hk)
  all_goals cases hk
 | buildSlice t n parts=>
  simp only [a6,ho] at hk
  repeat' split at hk
  all_goals first
   | (cases hk;done)
   | (simp only [bad] at hk;cases hk;done)
   | (revert hk;generalize yF _ _=bb;intro hk;cases bb<;>simp [bad] at hk)
 | makeMap t r=>
  cases r<;>simp only [a6,ho] at hk
  ·repeat' split at hk
   all_goals first
    | (cases hk;done)
    | (simp only [bad] at hk;cases hk;done)
  ·simp only [bad] at hk;cases hk
 | next x' b=>
  cases b<;>simp only [a6,ho] at hk
  ·simp only [bad] at hk;cases hk
  ·cases hk
 | _=>
  simp only [a6,ho] at hk
  (repeat' split at hk)
  all_goals first
   | contradiction
   | (cases hk;done)
   | (simp only [bad] at hk;cases hk;done)
def am1 {P:y8} {H:Hint} {o:y5} {k:Nat} {rs:List (Nat×Bool×Nat)} {sz b:Nat} {x y:X} (hk:Op.kh rs sz b x y=a6 P H k o):False:=by
 cases ho:o.op with
 | call c=>
  obtain ⟨callee,args,ts⟩:=c;simp only [a6,ho] at hk
  split at hk
  ·rename_i f;cases hm:H.mode k<;>simp only [hm,reduceCtorEq] at hk
  ·repeat' split at hk
   all_goals first
    | (cases hk;done)
    | (simp only [bad] at hk;cases hk;done)
    | (revert hk;generalize yx _ _=bb;intro hk;cases bb<;>simp [bad] at hk)
  ·simp only [bad] at hk;cases hk
 | binOp op t x' y ty=>
  cases op<;>simp only [a6,ho,pI,qC] at hk
  case eql=>
        repeat' split at hk
        all_goals first
         | (cases hk;done)
         | (simp only [bad] at hk;cases hk;done)
         | (cases cC:(P.stoodInHeld t||P.eqGuardType P.depth t)<;>rw [cC] at hk<;>simp [bad] at hk)
  case neq=>
        repeat' split at hk
        all_goals first
         | (cases hk;done)
         | (simp only [bad] at hk;cases hk;done)
         | (cases cC:(P.stoodInHeld t||P.eqGuardType P.depth t)<;>rw [cC] at hk<;>simp [bad] at hk)
  all_goals cases hk
 | buildSlice t n parts=>
  simp only [a6,ho] at hk
  repeat' split at hk
  all_goals first
   | (cases hk;done)
   | (simp only [bad] at hk;cases hk;done)
   | (revert hk;generalize yF _ _=bb;intro hk;cases bb<;>simp [bad] at hk)
 | makeMap t r=>
  cases r<;>simp only [a6,ho] at hk
  ·repeat' split at hk
   all_goals first
    | (cases hk;done)
    | (simp only [bad] at hk;cases hk;done)
  ·simp only [bad] at hk;cases hk
 | next x' b=>
  cases b<;>simp only [a6,ho] at hk
  ·simp only [bad] at hk;cases hk
  ·cases hk
 | _=>
  simp only [a6,ho] at hk
  (repeat' split at hk)
  all_goals first
   | contradiction
   | (cases hk;done)
   | (simp only [bad] at hk;cases hk;done)
def ax9 {P:y8} {H:Hint} {o:y5} {sz:Nat} {x y:X} (hq:pQ P H (.st sz x y) o):∃t x' y',o.op= .store t x' y'/\cK P t=some sz/\x=aK H x'/\y=aK H y':=by
 obtain ⟨k,hk⟩:∃k,Op.st sz x y=a6 P H k o:=by
  rcases hq with h | ⟨_,_,_,_,_,h⟩ | ⟨_,_,_,_,_,_,_,h⟩ | ⟨_,_,_,_,_,_,_,h⟩
  ·exact h
  ·cases h
  ·cases h
  ·cases h
 cases ho:o.op with
 | call c=>
  obtain ⟨callee,args,ts⟩:=c;simp only [a6,ho] at hk
  split at hk
  ·rename_i f;cases hm:H.mode k<;>simp only [hm,reduceCtorEq] at hk
  ·repeat' split at hk
   all_goals first
    | (cases hk;done)
    | (simp only [bad] at hk;cases hk;done)
    | (revert hk;generalize yx _ _=bb;intro hk;cases bb<;>simp [bad] at hk)
  ·simp only [bad] at hk;cases hk
 | binOp op t x' y ty=>
  cases op<;>simp only [a6,ho,pI,qC] at hk
  case eql=>
        repeat' split at hk
        all_goals first
         | (cases hk;done)
         | (simp only [bad] at hk;cases hk;done)
         | (cases cC:(P.stoodInHeld t||P.eqGuardType P.depth t)<;>rw [cC] at hk<;>simp [bad] at hk)
  case neq=>
        repeat' split at hk
        all_goals first
         | (cases hk;done)
         | (simp only [bad] at hk;cases hk;done)
         | (cases cC:(P.stoodInHeld t||P.eqGuardType P.depth t)<;>rw [cC] at hk<;>simp [bad] at hk)
  all_goals cases hk
 | buildSlice t n parts=>
  simp only [a6,ho] at hk
  repeat' split at hk
  all_goals first
   | (cases hk;done)
   | (simp only [bad] at hk;cases hk;done)
   | (revert hk;generalize yF _ _=bb;intro hk;cases bb<;>simp [bad] at hk)
 | makeMap t r=>
  cases r<;>simp only [a6,ho] at hk
  ·repeat' split at hk
   all_goals first
    | (cases hk;done)
    | (simp only [bad] at hk;cases hk;done)
  ·simp only [bad] at hk;cases hk
 | next x' b=>
  cases b<;>simp only [a6,ho] at hk
  ·simp only [bad] at hk;cases hk
  ·cases hk
 | store t x' y'=>
  simp only [a6,ho] at hk
  split at hk
  ·rename_i s hs;simp only [Op.st.injEq] at hk;obtain ⟨rfl,rfl,rfl⟩:=hk;exact ⟨t,x',y',rfl,hs,rfl,rfl⟩
  ·simp only [bad] at hk;cases hk
 | _=>
  simp only [a6,ho] at hk
  (repeat' split at hk)
  all_goals first
   | contradiction
   | (cases hk;done)
   | (simp only [bad] at hk;cases hk;done)
def afX {P:y8} {H:Hint} {o:y5} {rs:List (Nat×Bool×Nat)} {sz:Nat} {x y:X} (hq:pQ P H (.iX rs sz x y) o):∃t x' y',o.op= .store t x' y'/\cK P t=some sz/\x=aK H x'/\y=aK H y':=by
 rcases hq with ⟨k,hk⟩ | ⟨_,_,_,_,_,h3⟩ | ⟨t,x',y',Fm,rs',h1,h2,h3⟩ | ⟨_,_,_,_,_,_,_,h3⟩
 ·exact (am0 hk).elim
 ·cases h3
 ·simp only [Op.iX.injEq] at h3;obtain ⟨_,rfl,rfl,rfl⟩:=h3;exact ⟨t,x',y',h1,h2,rfl,rfl⟩
 ·cases h3
def afY {P:y8} {H:Hint} {o:y5} {rs:List (Nat×Bool×Nat)} {sz b:Nat} {x y:X} (hq:pQ P H (.kh rs sz b x y) o):∃k,Op.aR sz b x y=a6 P H k o:=by
 rcases hq with ⟨k,hk⟩ | ⟨_,_,_,_,_,h3⟩ | ⟨_,_,_,_,_,_,_,h3⟩ | ⟨k,rs',Fm,b',x',y',h1,h3⟩
 ·exact (am1 hk).elim
 ·cases h3
 ·cases h3
 ·simp only [Op.kh.injEq] at h3;obtain ⟨_,rfl,rfl,rfl,rfl⟩:=h3;exact ⟨k,h1⟩
def aud {P:y8} {H:Hint} {o:y5} {sz b:Nat} {x y:X} (hq:pQ P H (.aR sz b x y) o):∃k,Op.aR sz b x y=a6 P H k o:=by
 rcases hq with h | ⟨_,_,_,_,_,h3⟩ | ⟨_,_,_,_,_,_,_,h3⟩ | ⟨_,_,_,_,_,_,_,h3⟩
 ·exact h
 ·cases h3
 ·cases h3
 ·cases h3
def am2 {P:y8} {H:Hint} {q:Op} {o:y5} (hq:pQ P H q o):pQ P H (iS q) o:=by
 cases h:q with
 | ir rs f xs=>
  subst h;obtain ⟨c,f',g1,g2,g3,g4⟩:=Qm hq;exact .inr (.inl ⟨c,f',[],g1,g2,by rw [g3,g4];rfl⟩)
 | iX rs sz x y=>
  subst h;obtain ⟨t,x',y',g1,g2,g3,g4⟩:=afX hq;refine .inl ⟨0,?_⟩;simp only [iS,a6,g1,g2,g3,g4]
 | kh rs sz b x y=>
  subst h;exact .inl (afY hq)
 | _=>subst h;exact hq
def abU (hC:nc O self) (hH:fo O H) {o:y5} {q:Op} {v:AV} (hq:pQ O.P H q o) (hd:∀c,o.op≠.defer c) (hv:a8 O.prog O.aD self tm hp ct q=some (v,ap,aY))
  (ht:b7 O m S w tm a.tmps) (hh:aT O m S w hp ct)
  (hn:∀u m' S' w',aT O m' S' w' ap aY->ct<=aY->ah O.af m' S' w' v u->b8 m S w hp m' S' w' ap ct->next (a.put o.dst u) w'):o.wpIn (WF ro) 0 O.P a w next Q:=by
 have quiet:bA q<=1->o.wpIn (WF ro) 0 O.P a w next Q:=by
  intro hk;have hg:=Z0 hk hv hh.aW;obtain ⟨S1,g1,g2,g3,g4⟩:=Lk hh hg;refine quiet_step hC hH hk hq hd hv cY.refl (yo _) hh.aW (fun id h1 h2=>?_) (zP (fun _ _ h=>h) g2 (fun _ _=>rfl) ht) g1 (fun u m' S' w' k1 k2 k3 k4 k5=>hn u m' S' w' k1 hg.oW k4 ((g4 ct).trans (k5.qU hg.oW)))
  cases hm:m id with
  | none=>rfl
  | some p=>have:=hh.lt id p hm;omega
 have Rj:∀{q':Op},(∃k,q'=a6 O.P H k o)->cI tm hp ct q'=some (v,ap,aY)->o.wpIn (WF ro) 0 O.P a w next Q:=by
  intro q' jl hw;obtain ⟨k,rfl⟩:=jl;obtain ⟨n,u,w',m',S',h1,h2,h3,h4,h5,h6⟩:=arI hH ht hh hw;exact L3 hd h1 h2 (hn u m' S' w' h3 (apO hw) h4 h6)
 have write:cI tm hp ct q=some (v,ap,aY)->o.wpIn (WF ro) 0 O.P a w next Q:=by
  intro hw;refine Rj ?_ hw;rcases hq with h | ⟨c,f,rs,_,_,rfl⟩ | ⟨_,_,_,_,_,_,_,rfl⟩ | ⟨_,_,_,_,_,_,_,rfl⟩
  ·exact h
  ·simp [cI] at hw
  ·simp [cI] at hw
  ·simp [cI] at hw
 have heap:∀{c:uS} {f:xo} {g:Nat} {first cap:List AV},o.op= .call c->c.callee= .value f->aE tm (aK H f)= .fn (.f g) first cap->
   gZ O.prog O.aD self hp ct g (first++(dj tm (gl H c.args.toList)++cap))=some (v,ap,aY)->o.wpIn (WF ro) 0 O.P a w next Q:=by
  intro c f g first cap ho ij hx he;obtain ⟨fi,ca,h1,h2⟩:=Lj hH ht (args:=c.args) hx;refine KQ ho ij h1 (hC.heap _ _ _ _ _ _ _ he m S w _ hh h2) ?_;rintro e w' ⟨u,m',S',rfl,k1,k2,k3,k4⟩;exact ⟨u,rfl,hn u m' S' w' k1 k2 k3 k4⟩
 have round:∀{c:uS} {f:xo} {l:Nat} {x y:List AV},o.op= .call c->c.callee= .value f->aE tm (aK H f)= .fn (.y l) x y->
   mZ self hp ct l (dj tm (gl H c.args.toList))=some (v,ap,aY)->o.wpIn (WF ro) 0 O.P a w next Q:=by
  intro c f l x y ho ij hx he;have rf:=cw hH ht f;rw [hx] at rf;simp only [ah] at rf;obtain ⟨p,hm,hf⟩:=rf;have gh:=BL hH ht c.args.toList;obtain ⟨g,tmps,cJ,body,h1,h2⟩:=hC.round _ _ _ _ _ _ _ he m S w (c.args.map a.eval) p hh hm (by simpa using gh);refine apM ho ij hf h1 h2 ?_;rintro e w' ⟨u,m',S',rfl,k1,k2,k3,k4⟩;exact ⟨u,rfl,hn u m' S' w' k1 k2 k3 k4⟩
 have dyn:∀{c:uS} {f:xo},o.op= .call c->c.callee= .value f->ez O.prog O.aD self hp ct .dyn (aE tm (aK H f)) (dj tm (gl H c.args.toList))=some (v,ap,aY)->o.wpIn (WF ro) 0 O.P a w next Q:=by
  intro c f ho ij he;unfold ez at he
  split at he
  ·rename_i g first cap hx
   (try simp only at he)
   cases hp0:aG (first++(dj tm (gl H c.args.toList)++cap)) with
   | true=>
    rw [hp0] at he;simp only [yB] at he
    cases hr:bH O.prog O.aD self g (first++(dj tm (gl H c.args.toList)++cap)) with
    | none=>simp [hr] at he
    | some r=>
     simp only [hr,yd,yj] at he;obtain ⟨rfl,rfl,rfl⟩:=he;obtain ⟨fi,ca,h1,h2⟩:=Lj hH ht (args:=c.args) hx;refine KQ ho ij h1 (hC.pure g _ r hr w S _ (QQ hh) hh.slt (rZ (fun _ h=>h) (fun _ _=>rfl) _ _ hp0 h2) hp0) ?_;rintro e w' ⟨u,S',rfl,hw,g1,g2,g3,g4⟩;obtain ⟨S2,k1,k2,k3⟩:=aa3 g4 m;have hS:∀b,S b->S2 b:=fun b hb=>k1 b (g1 b hb)
     have JO:∀b,S2 b->S b\/w.heap.size<=b:=fun b hb=>(k2 b hb).elim (g2 b) (fun h=> .inr h.1)
     have hl:∀b,S2 b->b<w'.heap.size:=fun b hb=>(k2 b hb).elim (g3 b) (fun h=>h.2)
     exact ⟨u,rfl,hn u m S2 w' (Ds hh hw hS JO hl) (yo _) k3 (BA hh hw hS JO)⟩
   | false=>
    rw [hp0] at he;simp only [yS] at he;exact heap ho ij hx he
  ·rename_i l x y hx;exact round ho ij hx he
  ·cases he
 cases bK:q with
 | ir rs x xs=>
  subst bK;simp only [a8] at hv;have key:=Qm hq;obtain ⟨c,f,ho,ij,rfl,rfl⟩:=key
  cases hc:ez O.prog O.aD self hp ct .dyn (aE tm (aK H f)) (dj tm (gl H c.args.toList)) with
  | none=>simp [hc] at hv
  | some r=>
   obtain ⟨v1,bi,nJ⟩:=r;simp only [hc] at hv
   cases hs:nZ tm hp bi rs with
   | false=>rw [hs] at hv;cases hv
   | true=>
    rw [hs] at hv;simp only [yB,yd,yj] at hv;obtain ⟨rfl,rfl,rfl⟩:=hv;exact dyn ho ij hc
 | call md x xs=>
  subst bK;have jl:∃k,Op.call md x xs=a6 O.P H k o:=by
   rcases hq with h | ⟨c,f,rs,_,_,h⟩ | ⟨_,_,_,_,_,_,_,h⟩ | ⟨_,_,_,_,_,_,_,h⟩
   ·exact h
   ·cases h
   ·cases h
   ·cases h
  obtain ⟨k,hk⟩:=jl
  cases md with
  | pure=>exact quiet (by simp [bA])
  | own=>exact quiet (by simp [bA])
  | heap=>
   simp only [a8] at hv;obtain ⟨c,f,ho,ij,rfl,rfl⟩:=LJ hk.symm (by rintro rfl;simp [aE,ez] at hv);unfold ez at hv
   split at hv
   ·rename_i g first cap hx;exact heap ho ij hx hv
   ·rename_i l x y hx;exact round ho ij hx hv
   ·cases hv
  | dyn=>
   simp only [a8] at hv;obtain ⟨c,f,ho,ij,rfl,rfl⟩:=LJ hk.symm (by rintro rfl;simp [aE,ez] at hv);exact dyn ho ij hv
 | iX rs s x y=>
  subst bK;obtain ⟨t,x',y',g1,g2,g3,g4⟩:=afX hq;simp only [a8] at hv
  split at hv
  ·rename_i id off hx
   cases hf:nd tm id rs with
   | false=>rw [hf] at hv;cases hv
   | true=>
    rw [hf] at hv;simp only [yB] at hv
    exact Rj (q':= .st s x y) ⟨0,by simp only [a6,g1,g2,g3,g4]⟩ hv
  ·cases hv
 | kh rs s b x y=>
  subst bK;simp only [a8] at hv
  cases hc:cI tm hp ct (.aR s b x y) with
  | none=>simp [hc] at hv
  | some r=>
   obtain ⟨v1,bi,nJ⟩:=r;simp only [hc] at hv
   cases hs:nZ tm hp bi rs with
   | false=>rw [hs] at hv;cases hv
   | true=>
    rw [hs] at hv;simp only [yB,yd,yj] at hv;obtain ⟨rfl,rfl,rfl⟩:=hv
    exact Rj (q':= .aR s b x y) (afY hq) hc
 | st s x y=>subst bK;exact write (by simpa only [a8] using hv)
 | oP kk x y z=>subst bK;exact write (by simpa only [a8] using hv)
 | oR x=>subst bK;exact write (by simpa only [a8] using hv)
 | aR s b x y=>subst bK;exact write (by simpa only [a8] using hv)
 | mf s x y=>subst bK;exact write (by simpa only [a8] using hv)
 | dG k x lo hi=>subst bK;exact quiet (by cases k<;>simp [bA])
 | len k x=>subst bK;exact quiet (by rcases k with _ | _ | k<;>simp [bA])
 | _=>subst bK;exact quiet (by simp [bA])
end
end
section
open Go
def ow (tm:Env) (g:Option (Nat×Bool)):Option Bool:=
 match g with
 | none=>some true
 | some (t,b)=>match aj tm t with | .bool c=>some (c==b) | .ae []=>some false | _=>none
def eK (P:aH) (L:Lib) (self:cy) (tm:Env) (hp:Hp) (ct:Nat) (r:a7):fJ:=
 match ow tm r.guard with
 | some true=>a8 P L self tm hp ct r.op
 | some false=>some (.ae [],hp,ct)
 | none=>none
def aap {P:aH} {L:Lib} {self:cy} {r:a7} {rs:List a7} {s:St}:
  dA P L self (r::rs) s=match eK P L self s.tm s.hp s.ct r with | some (v,hp,ct)=>dA P L self rs {s with tm:=put r.dst v s.tm,hp:=hp,ct:=ct} | none=>none:=by
 obtain ⟨d,g,o⟩:=r;simp only [dA,eK]
 cases g with
 | none=>rfl
 | some q=>
  obtain ⟨t,b⟩:=q;simp only [ow];generalize aj s.tm t=x
  cases x with
  | bool c=>
   simp only;cases (c==b)<;>rfl
  | ae vs=>cases vs<;>rfl
  | _=>rfl
def acW (ops:Array y5) (g:Option (Nat×Bool)) (g':Option (Nat×Bool)):Prop:=
 (g=none/\g'=none)\/∃t b j,g=some (t,b)/\g'=some (j,b)/\(ops[j]?).bind (·.dst)=some t
structure Mm (P:y8) (H:Hint) (ops:Array y5) (r:a7) (o:y5):Prop where
 op:pQ P H r.op o
 dst:r.dst=o.dst
 ok:Il H o.dst=true
 guard:acW ops r.guard o.guard
def je (P:y8) (H:Hint) (ops:Array y5):List a7->List y5->Prop
 | [],[]=>True
 | r::rs,o::l=>(Mm P H ops r o\/(r.guard=none/\r.op=bad))/\je P H ops rs l
 | _,_=>False
def aaq {P:y8} {H:Hint} {ops:Array y5}:∀(l:List y5) (k:Nat),je P H ops (BF P H ops l k).1 l
 | [],k=>by simp [BF,je]
 | o::l,k=>by
  have ih:=aaq (P:=P) (H:=H) (ops:=ops) l (k+(bif Rg o then 1 else 0));simp only [BF];generalize hq:BF P H ops l (k+(bif Rg o then 1 else 0))=q at ih;obtain ⟨l',k'⟩:=q;simp only;have Sk:je P H ops (⟨o.dst,none,bad⟩::l') (o::l):=⟨.inr ⟨rfl,rfl⟩,ih⟩
  cases hg:o.guard with
  | none=>
   simp only
   cases hd:Il H o.dst with
   | false=>exact Sk
   | true=>exact ⟨.inl ⟨.inl ⟨k,rfl⟩,rfl,hd,.inl ⟨rfl,hg⟩⟩,ih⟩
  | some p=>
   obtain ⟨j,b⟩:=p;simp only
   cases ht:(ops[j]?).bind (·.dst) with
   | none=>exact Sk
   | some t=>
    simp only
    cases hd:Il H o.dst with
    | false=>exact Sk
    | true=>exact ⟨.inl ⟨.inl ⟨k,rfl⟩,rfl,hd,.inr ⟨t,b,j,rfl,hg,ht⟩⟩,ih⟩
section
variable {O:bl} {H:Hint} {m:Mp} {S:Nat->Prop} {w:yh} {tm:Env} {a:Act} {hp ap:Hp} {ct aY:Nat} {self:cy} {ro:Option Nat} {Q:uh->Act->yh->Prop} {ops:Array y5}
def Qn {d:Option Nat} {v:AV} {tm:Env} {t:Nat}:aj (put d v tm) t=if d=some t then v else aj tm t:=by
 cases d with
 | none=>simp [put]
 | some i=>
  simp only [put,aj];by_cases h:i=t
  ·subst h;simp
  ·have:yx i t=false:=by
    cases hq:yx i t with
    | false=>rfl
    | true=>exact absurd (ym hq) h
   simp [this,h]
def Ll (a:Act) (d:Option Nat) (u:yf):(a.put d u).tmps.size=a.tmps.size:=by
 cases d with
 | none=>rfl
 | some i=>simp [Act.put]
def PN (a:Act) (d:Option Nat) (u:yf):(a.put d u).defers=a.defers:=by
 cases d with
 | none=>rfl
 | some i=>rfl
def Qo {a:Act} {d:Option Nat} {u:yf} {t:Nat} (hd:∀i,d=some i->i<a.tmps.size):(a.put d u).tmps.getD t undef=if d=some t then u else a.tmps.getD t undef:=by
 cases d with
 | none=>simp [Act.put]
 | some i=>
  have hi:=hd i rfl;by_cases h:i=t
  ·subst h;simp [Act.put,hi]
  ·simp only [Act.put,yd,h,xd];simp [Array.getElem?_setIfInBounds_ne h]
def abV {n:Nat} {d:Option Nat} (h:Il H d=true) (hn:H.n<=n):∀i,d=some i->i<n:=by
 rintro i rfl
 have:=sf.1 h
 omega
def Qp {d:Option Nat} {v:AV} {u:yf} (ht:b7 O m S w tm a.tmps) (hd:∀i,d=some i->i<a.tmps.size) (hv:ah O.af m S w v u):b7 O m S w (put d v tm) (a.put d u).tmps:=fun t=>by
 rw [Qn,Qo hd]
 split
 ·exact hv
 ·exact ht t
def aa8 {o:y5} {g:Option (Nat×Bool)} {b:Bool} (hg:acW ops g o.guard) (ht:∀t,t∈RO g->ah O.af m S w (aj tm t) (a.tmps.getD t undef)) (hw:ow tm g=some b):Region.wanted o (yielded ops a.tmps)=b:=by
 rcases hg with ⟨rfl,h2⟩ | ⟨t,c,j,rfl,h2,h3⟩
 ·simp only [ow,yd] at hw;subst hw;simp [Region.wanted,h2]
 ·simp only [ow] at hw;have h4:=ht t (by simp [RO]);simp only [Region.wanted,h2]
  split at hw
  ·rename_i d hd;rw [hd] at h4;simp only [ah] at h4;simp only [yd] at hw
   have:yielded ops a.tmps j=some d:=by
    simp only [yielded,h3,xI];have h5:a.tmps[t]? =some (.bool d):=by
     simp only [wV] at h4
     cases hq:a.tmps[t]? with
     | none=>rw [hq] at h4;simp [undef] at h4
     | some x=>rw [hq] at h4;simp at h4;rw [h4]
    rw [h5]
   rw [this,<-hw];cases d<;>cases c<;>rfl
  ·rename_i hd;rw [hd] at h4;simp only [ah,az] at h4;obtain ⟨xs,h4,h5⟩:=h4;simp only [yd] at hw;subst hw
   have:yielded ops a.tmps j=none:=by
    simp only [yielded,h3,xI];simp only [wV] at h4
    cases hq:a.tmps[t]? with
    | none=>rfl
    | some x=>rw [hq] at h4;simp at h4;rw [h4]
   rw [this];rfl
  ·cases hw
def Z1 {o:y5} {q:Op} (hq:pQ O.P H q o) {r:AV×Hp×Nat} (hv:a8 O.prog O.aD self tm hp ct q=some r):∀c,o.op≠.defer c:=by
 rcases hq with ⟨k,rfl⟩ | ⟨c,f,rs,h1,_,_⟩ | ⟨_,_,_,_,_,h1,_,_⟩ | ⟨k,rs,sz,b,x,y,h1,rfl⟩
 ·exact amY hv
 ·intro c' h;rw [h1] at h;cases h
 ·intro c' h;rw [h1] at h;cases h
 ·intro c' h;simp only [a6,h] at h1;simp [bad] at h1
def arK (hC:nc O self) (hH:fo O H) {i:Nat} {r:a7} {o:y5} {v:AV} (hi:ops[i]? =some o) (hr:Mm O.P H ops r o\/(r.guard=none/\r.op=bad)) (hv:eK O.prog O.aD self tm hp ct r=some (v,ap,aY))
  (ht:b7 O m S w tm a.tmps) (hh:aT O m S w hp ct) (hn:H.n<=a.tmps.size) {K:Act->yh->Prop}
  (hK:∀u m' S' w',aT O m' S' w' ap aY->ct<=aY->b7 O m' S' w' (put r.dst v tm) (a.put o.dst u).tmps->b8 m S w hp m' S' w' ap ct->K (a.put o.dst u) w'):wpOpIn (WF ro) 0 O.P ops Q i K a w:=by
 rcases hr with hr | ⟨h1,h2⟩
 case inr=>
  simp only [eK,h1,ow,h2,bad,a8,ez,aE] at hv;cases hv
 unfold wpOpIn;simp only [hi];unfold eK at hv
 cases hw:ow tm r.guard with
 | none=>simp [hw] at hv
 | some b=>
  have Ye:=aa8 hr.guard (fun t _=>ht t) hw;have hd:=abV hr.ok hn;rw [Ye]
  cases b with
  | true=>
   simp only [hw] at hv;simp only [xA];refine abU hC hH hr.op (Z1 hr.op hv) hv ht hh (fun u m' S' w' k1 k2 k3 k4=>hK u m' S' w' k1 k2 ?_ k4);rw [hr.dst];exact Qp (zP (fun id p h=>k4.old id p (hh.lt id p h) h) k4.sub (fun b hb=>k4.still b hb) ht) hd k3
  | false=>
   simp only [hw,yd,yj] at hv;obtain ⟨rfl,rfl,rfl⟩:=hv;simp only [yJ,xd];refine ⟨fun _ _=>trivial,hK undef m S w hh (yo _) ?_ b8.refl⟩;rw [hr.dst];exact Qp ht hd (by simp [ah,az,undef])
def acX (hC:nc O self) (hH:fo O H):∀(l:List y5) (rs:List a7) (i:Nat) (s s':St) (a:Act) (m:Mp) (S:Nat->Prop) (w:yh),(∀j,l[j]? =ops[i+j]?)->je O.P H ops rs l->
  dA O.prog O.aD self rs s=some s'->b7 O m S w s.tm a.tmps->aT O m S w s.hp s.ct->H.n<=a.tmps.size->
  (∀a' m' S' w',aT O m' S' w' s'.hp s'.ct->s.ct<=s'.ct->b7 O m' S' w' s'.tm a'.tmps->b8 m S w s.hp m' S' w' s'.hp s.ct->a'.tmps.size=a.tmps.size->a'.defers=a.defers->s'.base=s.base->Q .normal a' w')->
  wpOpsIn (WF ro) 0 O.P ops Q (List.range' i l.length) a w
 | [],rs,i,s,s',a,m,S,w,hl,hr,hv,ht,hh,hn,hQ=>by
  cases rs with
  | cons _ _=>simp [je] at hr
  | nil=>
   simp only [dA,yd] at hv;subst hv;simp only [yO,List.range'_zero,wpOpsIn];exact hQ a m S w hh (yo _) ht b8.refl rfl rfl rfl
 | o::l,rs,i,s,s',a,m,S,w,hl,hr,hv,ht,hh,hn,hQ=>by
  cases rs with
  | nil=>simp [je] at hr
  | cons r rs=>
   simp only [je] at hr;rw [aap] at hv
   cases h1:eK O.prog O.aD self s.tm s.hp s.ct r with
   | none=>simp [h1] at hv
   | some q=>
    obtain ⟨v,bi,nJ⟩:=q;simp only [h1] at hv;have hi:ops[i]? =some o:=by have:=hl 0;simpa using this.symm
    rw [yG,List.range'_succ,wpOpsIn_cons];refine arK hC hH hi hr.1 h1 ht hh hn (fun u m1 S1 w1 k1 k2 k3 k4=>?_)
    refine acX hC hH l rs (i+1) {s with tm:=put r.dst v s.tm,hp:=bi,ct:=nJ} s' _ m1 S1 w1 (fun j=>?_) hr.2 hv k3 k1 (by rw [Ll];exact hn) (fun a' m' S' w' g1 g2 g3 g4 g5 g6 g7=>?_)
    ·have:=hl (j+1)
     rw [List.getElem?_cons_succ] at this;rw [this];congr 1;omega
    ·exact hQ a' m' S' w' g1 (xf k2 g2) g3 (k4.trans (g4.qU k2)) (by rw [g5,Ll]) (by rw [g6,PN]) g7
end
end
section
open Go
section
variable {ops:Array y5}
def PC {acc:List Nat} {i:Nat}:∀{es:List Edge},ux (Aa acc es) i=true->∃e,e∈es/\Region.binds .any e=true/\(i=e.on\/ux (acc.getD e.on 0) i=true)
 | [],h=>by simp [Aa] at h
 | e::r,h=>by
  simp only [Aa] at h
  cases hb:Region.binds .any e with
  | false=>
   rw [hb] at h;obtain ⟨e',h1,h2⟩:=PC h
   grind
  | true=>
   rw [hb] at h;simp only [yB,Nat.testBit_or,tf] at h;rcases h with (h | h) | h
   ·grind
   ·grind
   ·obtain ⟨e',h1,h2⟩:=PC h
    grind
def aa9 {l:List y5} {acc:List Nat} {j:Nat} (hj:j<acc.length):(lP acc l)[j]? =acc[j]? :=by
 induction l generalizing acc with
 | nil=>rfl
 | cons o l ih=>
  simp only [lP]
  grind
def am3 {l:List y5} {acc:List Nat} {j:Nat} {o:y5} (h:l[j]? =some o):∃Cj:List Nat,(lP acc l)[acc.length+j]? =some (Aa Cj o.after.toList)/\Cj.length=acc.length+j/\∀k,k<Cj.length->Cj[k]? =(lP acc l)[k]? :=by
 induction l generalizing acc j with
 | nil=>simp at h
 | cons x l ih=>
  cases j with
  | zero=>
   simp only [vm,yd] at h;subst h;refine ⟨acc,?_,by simp,fun k hk=>?_⟩
   ·simp only [lP];rw [aa9 (by simp)]
    simp
   ·simp only [lP];rw [aa9 (by rw [yL];omega),List.getElem?_append_left hk]
  | succ j=>
   obtain ⟨Cj,h1,h2,h3⟩:=ih (acc:=acc++[Aa acc x.after.toList]) h;simp only [yL,yG,yO] at h1 h2;refine ⟨Cj,?_,by omega,fun k hk=>?_⟩
   ·simp only [lP]
    grind
   ·simp only [lP];exact h3 k hk
def Ord (ops:Array y5) (i j:Nat):Prop:=ux ((lP [] ops.toList).getD j 0) i=true
def Rk (ops:Array y5) (D:Nat->Prop):Prop:=∀j o,ops[j]? =some o->D j->∀e,e∈o.after->Region.binds .any e=true->D e.on
def aba {D:Nat->Prop} (hc:Rk ops D):∀(j:Nat) (o:y5),ops[j]? =some o->(∀e,e∈o.after->Region.binds .any e=true->D e.on)->∀i,Ord ops i j->D i:=by
 intro j
 induction j using ud with
 | _ j ih=>
  intro o ho hr i hi;have kX:ops.toList[j]? =some o:=by simp_all
  obtain ⟨Cj,h1,h2,h3⟩:=am3 (acc:=[]) kX;simp only [yO,Nat.zero_add] at h1 h2;unfold Ord at hi;rw [List.getD_eq_getElem?_getD,h1,vR] at hi;obtain ⟨e,g1,g2,g3⟩:=PC hi;have he:D e.on:=hr e (by simpa using g1) g2;rcases g3 with rfl | g3
  ·grind
  ·rcases wY e.on j with aW | kY
   ·have h4:=h3 e.on (by omega);have hol:e.on<ops.size:=by
     grind
    have X9:ops[e.on]? =some ops[e.on]:=by simp_all
    refine ih e.on aW _ X9 (fun e' he' cC=>hc e.on _ X9 he e' he' cC) i ?_;unfold Ord
    grind
   ·grind
def apP {D:Nat->Prop} (hc:Rk ops D) {i j:Nat} {o:y5} (ho:ops[j]? =some o) (hj:D j) (hi:Ord ops i j):D i:=
 aba hc j o ho (fun e he hb=>hc j o ho hj e he hb) i hi
def ZK:∀{l:List y5} {k j:Nat} {o:y5},G1 l k=true->l[j]? =some o->∀e,e∈o.after->Region.binds .any e=true->e.on<k+j
 | [],k,j,o,_,h=>by simp at h
 | x::l,k,j,o,hb,h=>by
  simp only [G1,ye] at hb
  cases j with
  | zero=>
   simp only [vm,yd] at h;subst h;intro e he rG
   have:=List.all_eq_true.1 hb.1 e (by simpa using he)
   simp_all
  | succ j=>
   intro e he rG
   have:=ZK hb.2 h e he rG
   omega
end
def MJ (a b:a7) (r:List a7):Prop:=Ld a b=false/\(G0 a b=false\/Hn a b r=true)
def ZM {m:Nat} {b:a7}:∀{l:List a7} {k i:Nat} {a:a7},Lf m b l k=true->l[i]? =some a->ux m (k+i)=true\/MJ a b (l.drop (i+1))
 | [],k,i,a,_,h=>by simp at h
 | x::l,k,i,a,hp,h=>by
  simp only [Lf,ye] at hp
  cases i with
  | zero=>
   simp only [vm,yd] at h;subst h;have h1:=hp.1;simp only [tf,tk,tR,Bool.and_eq_false_iff,Bool.not_eq_false'] at h1;rcases h1 with h1 | ⟨h1,h2⟩
   ·grind
   ·exact .inr ⟨h1,by simpa using h2⟩
  | succ i=>
   rcases ZM hp.2 h with h1 | h1
   ·grind
   ·grind
def ZP:∀{l done:List a7} {ms:List Nat} {i j:Nat} {a b:a7},DD done l ms=true->(done++l)[i]? =some a->l[j]? =some b->i<done.length+j->
  ∃m,ms[j]? =some m/\(ux m i=true\/MJ a b (((done++l).take (done.length+j)).drop (i+1)))
 | [],done,ms,i,j,a,b,_,_,h,_=>by simp at h
 | x::l,done,[],i,j,a,b,hp,_,h,_=>by simp [DD] at hp
 | x::l,done,m::ms,i,j,a,b,hp,ha,h,zx=>by
  simp only [DD,ye] at hp
  cases j with
  | zero=>
   have CM:done[i]? =some a:=by grind
   have:=ZM hp.1 CM
   grind
  | succ j=>
   have e:done++x::l=(done++[x])++l:=by simp
   obtain ⟨m',h1,h2⟩:=ZP (i:=i) (a:=a) hp.2 (by rw [<-e];exact ha) h (by simp;omega)
   grind
def KG {a b:a7} (h:Ld a b=false):(∀d,a.dst=some d->d∉BK b/\b.dst≠some d)/\(∀d,b.dst=some d->d∉BK a):=by
 have mem:∀{i:Nat} {l:List Nat},kO i l=false->i∉l:=by
  intro i l
  induction l with
  | nil=>intro _ h;cases h
  | cons j r ih=>
   intro h hm;simp only [kO] at h
   cases hb:yx j i with
   | true=>rw [hb] at h;cases h
   | false=>
    simp_all
 simp only [Ld,tR] at h;obtain ⟨⟨h1,h2⟩,h3⟩:=h;refine ⟨fun d hd=>⟨mem (by simpa [hd,Ej] using h1),fun hb=>?_⟩,fun d hd=>mem (by simpa [hd,Ej] using h2)⟩;rw [hd,hb] at h3;simp [ag6] at h3
def aar {t:Nat}:∀{l:List a7},B7 t l=true->∀r,r∈l->r.dst≠some t
 | [],_,r,h=>by cases h
 | x::l,h,r,hr=>by
  simp only [B7,ye,tk] at h;rcases wM.1 hr with rfl | hr
  ·intro hd;rw [hd] at h;simp [Ej,kO] at h
  ·exact aar h.2 r hr
def K1 {sz t:Nat} {ag:Bool}:∀{l:List (Nat×Bool×Nat)},Cf sz ag t l=true->(sz,ag,t)∈l
 | [],h=>by simp [Cf] at h
 | (s,g,u)::r,h=>by
  simp only [Cf,tf,ye] at h;rcases h with ⟨h1,h2,h3⟩ | h
  ·simp_all
  ·exact wS _ (K1 h)
def Qq:∀{a b:List Nat},cU a b=true->a=b
 | [],[],_=>rfl
 | [],_::_,h=>by simp [cU] at h
 | _::_,[],h=>by simp [cU] at h
 | x::a,y::b,h=>by
  simp only [cU,ye] at h;rw [ym h.1,Qq h.2]
def anZ {a b:AV} (h:Sc a b=true):a=b:=by
 unfold Sc at h
 split at h
 ·grind
 ·grind
 ·rw [Qq h]
 ·rfl
 ·rfl
 ·simp_all
 ·simp_all
 ·simp_all
 ·cases h
def Pw {tm:Env} {hp ap:Hp} {sz t:Nat} {ag:Bool} {v:AV}:∀{l:List (Nat×Bool×Nat)},nZ tm hp ap l=true->(sz,ag,t)∈l->iA hp sz ag (aj tm t)=some v->iA ap sz ag (aj tm t)=some v
 | [],_,h,_=>by cases h
 | (s,g,u)::r,h,hm,hv=>by
  simp only [nZ] at h
  cases h1:iA hp s g (aj tm u) with
  | none=>simp [h1] at h
  | some x=>
   cases h2:iA ap s g (aj tm u) with
   | none=>simp [h1,h2] at h
   | some y=>
    simp only [h1,h2,ye] at h;rcases wM.1 hm with e | hm
    ·simp only [yj] at e;obtain ⟨rfl,rfl,rfl⟩:=e;rw [h1] at hv;rw [h2,<-anZ h.1,hv]
    ·exact Pw h.2 hm hv
structure MK (P:aH) (L:Lib) (run:cy) (rs:List a7) (bX:Nat->Env) (bL:Nat->Hp) (bG:Nat->Nat) (vF:Nat->AV):Prop where
 step:∀i r,rs[i]? =some r->eK P L run (bX i) (bL i) (bG i) r=some (vF i,bL (i+1),bG (i+1))
 tm:∀i r,rs[i]? =some r->bX (i+1)=put r.dst (vF i) (bX i)
def acY {P:aH} {L:Lib} {self:cy}:∀{rs:List a7} {s s':St},dA P L self rs s=some s'->
  ∃bX bL bG vF,MK P L self rs bX bL bG vF/\bX 0=s.tm/\bL 0=s.hp/\bG 0=s.ct/\bX rs.length=s'.tm/\bL rs.length=s'.hp/\bG rs.length=s'.ct/\s'.base=s.base
 | [],s,s',h=>by
  simp only [dA,yd] at h;subst h;exact ⟨fun _=>s.tm,fun _=>s.hp,fun _=>s.ct,fun _=> .undef,⟨fun i r h=>by simp at h,fun i r h=>by simp at h⟩,rfl,rfl,rfl,rfl,rfl,rfl,rfl⟩
 | r::rs,s,s',h=>by
  rw [aap] at h
  cases h1:eK P L self s.tm s.hp s.ct r with
  | none=>simp [h1] at h
  | some q=>
   obtain ⟨v,bi,nJ⟩:=q;simp only [h1] at h;obtain ⟨bX,bL,bG,vF,g1,g2,g3,g4,g5,g6,g7,g8⟩:=acY h;refine ⟨fun i=>match i with | 0=>s.tm | i+1=>bX i,fun i=>match i with | 0=>s.hp | i+1=>bL i,fun i=>match i with | 0=>s.ct | i+1=>bG i,fun i=>match i with | 0=>v | i+1=>vF i,⟨?_,?_⟩,rfl,rfl,rfl,by simpa using g5,by simpa using g6,by simpa using g7,g8⟩
   ·intro i r' hi
    cases i with
    | zero=>
     grind
    | succ i=>exact g1.step i r' (by simpa using hi)
   ·intro i r' hi
    cases i with
    | zero=>
     grind
    | succ i=>exact g1.tm i r' (by simpa using hi)
section
variable {P:aH} {L:Lib} {self:cy} {rs:List a7} {bX:Nat->Env} {bL:Nat->Hp} {bG:Nat->Nat} {vF:Nat->AV}
def G5 (hR:MK P L self rs bX bL bG vF) {t i:Nat}:∀(k:Nat),i+k<=rs.length->(∀j r,i<=j->j<i+k->rs[j]? =some r->r.dst≠some t)->aj (bX (i+k)) t=aj (bX i) t
 | 0,_,_=>rfl
 | k+1,hk,h=>by
  have hr:rs[i+k]? =some rs[i+k]:=by simp_all
  rw [show i+(k+1)=i+k+1 by omega,hR.tm _ _ hr,Qn,yr (h (i+k) _ (by omega) (by omega) hr)];exact G5 hR k (by omega) (fun j r h1 h2=>h j r h1 (by omega))
def abb {r:a7} {tm:Env} {hp ap:Hp} {ct aY:Nat} {v:AV} (hk:bA r.op<=1) (hv:eK P L self tm hp ct r=some (v,ap,aY)) (aW:∀id o,aB hp id=some o->id<ct):hZ hp ct ap aY:=by
 unfold eK at hv
 cases hw:ow tm r.guard with
 | none=>simp [hw] at hv
 | some b=>
  cases b with
  | true=>simp only [hw] at hv;exact Z0 hk hv aW
  | false=>
   simp only [hw,yd,yj] at hv;obtain ⟨rfl,rfl,rfl⟩:=hv;exact hZ.refl aW
def K2 (hR:MK P L self rs bX bL bG vF) {i:Nat} (aW:∀id o,aB (bL i) id=some o->id<bG i):∀(k:Nat),i+k<=rs.length->(∀j r,i<=j->j<i+k->rs[j]? =some r->bA r.op<=1)->hZ (bL i) (bG i) (bL (i+k)) (bG (i+k))
 | 0,_,_=>hZ.refl aW
 | k+1,hk,h=>by
  have ih:=K2 hR aW k (by omega) (fun j r h1 h2=>h j r h1 (by omega));have hr:rs[i+k]? =some rs[i+k]:=by simp_all
  exact ih.trans (abb (h (i+k) _ (by omega) (by omega) hr) (hR.step _ _ hr) ih.lt)
end
end
section
open Go
def Lm {tm:Env} {t:Nat}:∀{l:List Nat},t∈l->aj (dN tm l) t=aj tm t
 | [],h=>by cases h
 | i::r,h=>by
  simp only [dN,aj]
  cases hb:yx i t with
  | true=>rw [ym hb];rfl
  | false=>
   rcases wM.1 h with e | h
   ·simp_all
   ·exact Lm h
def an0 {P:aH} {L:Lib} {self:cy} {tm cg:Env} {hp:Hp} {ct:Nat} {o:Op} {r:AV×Hp×Nat} (h:∀t,t∈jO o->aj cg t=aj tm t) (hv:a8 P L self tm hp ct o=some r):a8 P L self cg hp ct (iS o)=some r:=by
 cases o with
 | ir rs f xs=>
  simp only [jO,wJ] at h;simp only [iS,a8] at hv ⊢
  rw [dJ (x:=f) fun t ht=>h t (.inl ht),Bw (xs:=xs) fun t ht=>h t (.inr ht)]
  cases hc:ez P L self hp ct .dyn (aE tm f) (dj tm xs) with
  | none=>simp [hc] at hv
  | some q=>
   obtain ⟨v1,bi,nJ⟩:=q;simp only [hc] at hv
   cases hs:nZ tm hp bi rs with
   | false=>rw [hs] at hv;cases hv
   | true=>
    rw [hs] at hv;simpa only [nZ,yB] using hv
 | iX rs sz x v=>
  simp only [iS,a8] at hv ⊢
  rw [Bs (o:= .st sz x v) (tm:=tm) h]
  split at hv
  ·rename_i id off hx
   cases hf:nd tm id rs with
   | false=>rw [hf] at hv;cases hv
   | true=>rw [hf] at hv;exact hv
  ·cases hv
 | kh rs sz b x v=>
  simp only [iS,a8] at hv ⊢
  rw [Bs (o:= .aR sz b x v) (tm:=tm) h]
  cases hc:cI tm hp ct (.aR sz b x v) with
  | none=>simp [hc] at hv
  | some q=>
   obtain ⟨v1,bi,nJ⟩:=q;simp only [hc] at hv
   cases hs:nZ tm hp bi rs with
   | false=>rw [hs] at hv;cases hv
   | true=>rw [hs] at hv;exact hv
 | call md f xs=>
  rw [<-hv];simp only [jO,wJ] at h;simp only [iS,a8]
  rw [dJ (x:=f) fun t ht=>h t (.inl ht),Bw (xs:=xs) fun t ht=>h t (.inr ht)]
 | st s x y=>rw [<-hv];simp only [iS,a8];exact Bs h
 | oP kk x y z=>rw [<-hv];simp only [iS,a8];exact Bs h
 | oR x=>rw [<-hv];simp only [iS,a8];exact Bs h
 | aR s b x y=>rw [<-hv];simp only [iS,a8];exact Bs h
 | mf s x y=>rw [<-hv];simp only [iS,a8];exact Bs h
 | box s x=>rw [<-hv];simp only [iS,a8];rw [GO (hp:=hp) h]
 | dT n s z ps=>rw [<-hv];simp only [iS,a8];rw [GO (hp:=hp) h]
 | fI s b z x y=>rw [<-hv];simp only [iS,a8];rw [GO (hp:=hp) h]
 | zi=>exact hv
 | oQ x=>rw [<-hv];simp only [iS,a8];rw [GO (hp:=hp) h]
 | _=>rw [<-hv];simp only [iS,a8];rw [ams h]
def abW {P:aH} {L:Lib} {self:cy} {tm:Env} {hp ap:Hp} {ct aY:Nat} {q:Op} {v:AV} (hk:bA q=0\/∃sz ag x,q= .ld sz ag x) (hv:a8 P L self tm hp ct q=some (v,ap,aY)):bw tm hp q=some v/\ap=hp/\aY=ct:=by
 have kw:∀{q:Op},(match bw tm hp q with | some v=>some (v,hp,ct) | none=>(none:fJ))=some (v,ap,aY)->bw tm hp q=some v/\ap=hp/\aY=ct:=by
  intro q h
  cases hm:bw tm hp q with
  | none=>simp [hm] at h
  | some r=>
   simp only [hm,yd,yj] at h;obtain ⟨rfl,rfl,rfl⟩:=h;exact ⟨rfl,rfl,rfl⟩
 rcases hk with hk | ⟨sz,ag,x,rfl⟩
 ·cases bK:q with
  | call md f xs=>subst bK;cases md<;>simp [bA] at hk
  | ir rs f xs=>subst bK;simp [bA] at hk
  | iX rs s x y=>subst bK;simp [bA] at hk
  | kh rs s b x y=>subst bK;simp [bA] at hk
  | st s x y=>subst bK;simp [bA] at hk
  | oP kk x y z=>subst bK;simp [bA] at hk
  | oR x=>subst bK;simp [bA] at hk
  | aR s b x y=>subst bK;simp [bA] at hk
  | mf s x y=>subst bK;simp [bA] at hk
  | box s x=>subst bK;simp [bA] at hk
  | dT n s z ps=>subst bK;simp [bA] at hk
  | fI s b z x y=>subst bK;simp [bA] at hk
  | zi=>subst bK;simp [bA] at hk
  | oQ x=>subst bK;simp [bA] at hk
  | _=>exact bK▸kw (q:=q) (by rw [bK] at hv ⊢;simp only [a8] at hv;exact hv)
 ·exact kw (q:= .ld sz ag x) (by simp only [a8] at hv;exact hv)
section
variable {O:bl} {H:Hint} {ops:Array y5} {rs:List a7} {bX:Nat->Env} {bL:Nat->Hp} {bG:Nat->Nat} {vF:Nat->AV} {self:cy} {ro:Option Nat} {Q:uh->Act->yh->Prop}
structure qP (O:bl) (H:Hint) (slf:cy) (ops:Array y5) (rs:List a7) (bX:Nat->Env) (bL:Nat->Hp) (bG:Nat->Nat) (vF:Nat->AV):Prop where
 run:MK O.prog O.aD slf rs bX bL bG vF
 len:rs.length=ops.size
 of:∀(i:Nat) (r:a7) (o:y5),rs[i]? =some r->ops[i]? =some o->Mm O.P H ops r o
 pair:∀(i j:Nat) (a b:a7),i<j->rs[i]? =some a->rs[j]? =some b->Ord ops i j\/MJ a b ((rs.take j).drop (i+1))
 back:∀(i:Nat) (o:y5),ops[i]? =some o->∀e,e∈o.after->Region.binds .any e=true->e.on<i
def jn (rs:List a7) (i:Nat):Prop:=∃r,rs[i]? =some r/\bA r.op=2
def Ro (rs:List a7):∀(k i:Nat),i+k=rs.length->∃c,i<=c/\c<=rs.length/\(∀j,i<=j->j<c->¬jn rs j)/\(c=rs.length\/jn rs c)
 | 0,i,h=>⟨i,yo _,by omega,fun j h1 h2=>by omega,.inl (by omega)⟩
 | k+1,i,h=>by
  rcases vY (jn rs i) with hw | hw
  ·grind
  ·obtain ⟨c,h1,h2,h3,h4⟩:=Ro rs k (i+1) (by omega)
   grind
def Hs {rs:List a7} {i:Nat} {r:a7} (hr:rs[i]? =some r) (hw:¬jn rs i):bA r.op<=1:=by
 have h:bA r.op≠2:=fun e=>hw ⟨r,hr,e⟩
 have:bA r.op<=2:=by
  cases r.op with
  | dG k x lo hi=>cases k<;>simp [bA]
  | len k x=>rcases k with _ | _ | k<;>simp [bA]
  | call md f xs=>cases md<;>simp [bA]
  | _=>simp [bA]
 omega
def Ow (O:bl) (rs:List a7) (bX:Nat->Env) (D:Nat->Prop) (m:Mp) (S:Nat->Prop) (w:yh) (a:Act):Prop:=
 ∀t,∃j,j<=rs.length/\(∀(i:Nat) (r:a7),rs[i]? =some r->r.dst=some t->(D i↔i<j))/\ah O.af m S w (aj (bX j) t) (a.tmps.getD t undef)
def arL {D:Nat->Prop} {m:Mp} {S:Nat->Prop} {w:yh} {a:Act} {i:Nat} {r:a7} (hG:qP O H self ops rs bX bL bG vF) (hT:Ow O rs bX D m S w a) (hr:rs[i]? =some r) (hi:¬D i)
  (eP:∀j,Ord ops j i->D j) (fG:∀j,Ord ops i j->¬D j):∀t,t∈BK r->ah O.af m S w (aj (bX i) t) (a.tmps.getD t undef):=by
 intro t ht;obtain ⟨j,h1,h2,h3⟩:=hT t;have Fo:i<rs.length:=(wj.1 hr).1;have e:aj (bX j) t=aj (bX i) t:=by
  rcases Nat.le_total j i with hji | zx
  ·obtain ⟨k,rfl⟩:∃k,i=j+k:=⟨i-j,by omega⟩;refine (G5 hG.run k (by omega) (fun l rl g1 g2 hl hd=>?_)).symm;rcases hG.pair l (j+k) rl r (by omega) hl hr with ho | hf
   ·grind
   ·exact ((KG hf.1).1 t hd).1 ht
  ·obtain ⟨k,rfl⟩:∃k,j=i+k:=⟨j-i,by omega⟩;refine G5 hG.run k h1 (fun l rl g1 g2 hl hd=>?_);rcases wP g1 with rfl | g1
   ·grind
   ·rcases hG.pair i l r rl g1 hr hl with ho | hf
    ·grind
    ·exact (KG hf.1).2 t hd ht
 grind
def acZ {D D':Nat->Prop} {m m':Mp} {S S':Nat->Prop} {w w':yh} {a:Act} {i:Nat} {r:a7} {u:yf} (hG:qP O H self ops rs bX bL bG vF) (hT:Ow O rs bX D m S w a) (hr:rs[i]? =some r) (hi:¬D i)
  (eP:∀j,Ord ops j i->D j) (fG:∀j,Ord ops i j->¬D j) (hD:∀j,D' j↔D j\/j=i) (hm:du m m') (hS:∀b,S b->S' b) (hw:fA S w w') (hd:∀d,r.dst=some d->d<a.tmps.size)
  (hv:ah O.af m' S' w' (vF i) u):Ow O rs bX D' m' S' w' (a.put r.dst u):=by
 intro t;have Fo:i<rs.length:=(wj.1 hr).1;by_cases JP:r.dst=some t
 ·refine ⟨i+1,Fo,fun l rl hl Yf=>?_,?_⟩
  ·rw [hD];constructor
   ·rintro (h | h)
    ·rcases wY l (i+1) with g | g
     ·grind
     ·rcases hG.pair i l r rl (by omega) hr hl with ho | hf
      ·grind
      ·exact (((KG hf.1).1 t JP).2 Yf).elim
    ·omega
   ·intro h;rcases wP (tv h) with h | h
    ·grind
    ·rcases hG.pair l i rl r h hl hr with ho | hf
     ·grind
     ·exact (((KG hf.1).1 t Yf).2 JP).elim
  ·rw [hG.run.tm i r hr,Qn,Qo hd,yE JP,yE JP];exact hv
 ·obtain ⟨j,h1,h2,h3⟩:=hT t;refine ⟨j,h1,fun l rl hl Yf=>?_,?_⟩
  ·grind
  ·rw [Qo hd,yr JP];exact lB hm hS hw _ _ h3
def Z2 {tm:Env} {hp ap:Hp} {ct aY id off sz Fm t:Nat} {ag:Bool} {x y:X} {v v':AV}:∀{l:List (Nat×Bool×Nat)},nd tm id l=true->(sz,ag,t)∈l->aE tm x= .ptr id off->
  cI tm hp ct (.st Fm x y)=some (v',ap,aY)->iA hp sz ag (aj tm t)=some v->iA ap sz ag (aj tm t)=some v
 | [],_,h,_,_,_=>by cases h
 | (s,g,u)::r,h,hm,hx,hw,hv=>by
  simp only [nd,ye] at h;rcases wM.1 hm with e | hm
  ·simp only [yj] at e;obtain ⟨rfl,rfl,rfl⟩:=e;have h1:=h.1
   split at h1
   ·rename_i j o hj;have bN:j≠id:=by
     intro e
     simp_all
    rw [hj] at hv ⊢;simp only [cI,hx] at hw;have key:∀ob,aB (bc hp id ob) j=aB hp j:=fun ob=>by rw [qg,yr (ybK bN)]
    split at hw
    ·rename_i pu ex z cs Fp;generalize (yx _ _&&yF _ _&&cm _)=bb at hw
     cases bb with
     | false=>cases hw
     | true=>
      obtain ⟨_,rfl,_⟩:=hw;simp only [iA,key] at hv ⊢;exact hv
    ·cases hw
   ·rename_i cs hj;rw [hj] at hv ⊢;simpa only [iA] using hv
   ·cases h1
  ·exact Z2 h.2 hm hx hw hv
def ZQ {D:Nat->Prop} {i c:Nat} {r:a7} {sz t:Nat} {ag:Bool} (hG:qP O H self ops rs bX bL bG vF) (hr:rs[i]? =some r) (hi:¬D i) (Fq:r.guard=none/\r.op= .ld sz ag (.t t)) (hc:c<=rs.length)
  (hW:∀j,j<c->jn rs j->D j) (fG:∀j,Ord ops i j->¬D j) (aW:∀j,j<=c->∀id o,aB (bL j) id=some o->id<bG j):∀k,i+1+k<=c->iA (bL (i+1+k)) sz ag (aj (bX i) t)=some (vF i)
 | 0,hk=>by
  have h1:=hG.run.step i r hr;simp only [eK,Fq.1,ow,Fq.2] at h1;obtain ⟨h2,h3,h4⟩:=abW (.inr ⟨_,_,_,rfl⟩) h1;simp only [bw,aE] at h2;rw [Nat.add_zero,h3];exact h2
 | k+1,hk=>by
  have ih:=ZQ hG hr hi Fq hc hW fG aW k (by omega);have hl:i+1+k<rs.length:=by omega
  have hj:rs[i+1+k]? =some rs[i+1+k]:=by simp [hl]
  have aP:=hG.run.step _ _ hj;rw [show i+1+(k+1)=i+1+k+1 by omega];rcases vY (jn rs (i+1+k)) with hw | hw
  ·have hD:=hW _ (by omega) hw;rcases hG.pair i (i+1+k) r _ (by omega) hr hj with ho | hf
   ·exact (fG _ ho hD).elim
   ·obtain ⟨Ox,jD⟩:=hf;obtain ⟨rw',h5,h6⟩:=hw;rw [hj] at h5;injection h5 with h5
    subst h5;rcases jD with jD | jD
    ·have h1k:bA r.op=1:=by rw [Fq.2];rfl
     simp only [G0,h1k,h6] at jD;cases jD
    ·unfold Hn at jD;simp only [Fq.1,Fq.2] at jD;generalize jl:(rs[i+1+k]).op=q at jD;have RU:B7 t (r::(rs.take (i+1+k)).drop (i+1))=true->aj (bX (i+1+k)) t=aj (bX i) t:=by
      intro azH;have kZ:=aar azH;rw [show i+1+k=i+(1+k) by omega];refine G5 hG.run (1+k) (by omega) (fun l rl g1 g2 A3=>kZ rl ?_);rcases wP g1 with rfl | g1
      ·rw [hr] at A3;injection A3 with A3;subst A3;exact vV
      ·refine wS _ ?_
       have:((rs.take (i+1+k)).drop (i+1))[l-(i+1)]? =some rl:=by
        rw [List.getElem?_drop,List.getElem?_take_of_lt (by omega),show i+1+(l-(i+1))=l by omega];exact A3
       exact List.mem_of_getElem? this
     unfold eK at aP
     cases hg:ow (bX (i+1+k)) (rs[i+1+k]).guard with
     | none=>simp [hg] at aP
     | some b=>
      cases b with
      | false=>
       simp only [hg,yd,yj] at aP;rw [<-aP.2.1];exact ih
      | true=>
       simp only [hg,jl] at aP;cases q<;>simp only [yJ] at jD
       case ir CN fx xs=>
        simp only [ye] at jD;have ID:=K1 jD.1;have A4:=RU jD.2;simp only [a8] at aP
        cases iY:ez O.prog O.aD self (bL (i+1+k)) (bG (i+1+k)) .dyn (aE (bX (i+1+k)) fx) (dj (bX (i+1+k)) xs) with
        | none=>simp [iY] at aP
        | some z=>
         obtain ⟨v1,bi,nJ⟩:=z;simp only [iY] at aP
         cases hs:nZ (bX (i+1+k)) (bL (i+1+k)) bi CN with
         | false=>rw [hs] at aP;cases aP
         | true=>
          rw [hs] at aP;simp only [yB,yd,yj] at aP;obtain ⟨_,h8,_⟩:=aP;rw [<-h8,<-A4];exact Pw hs ID (by rw [A4];exact ih)
       case iX CN Fm x v=>
        simp only [ye] at jD;have ID:=K1 jD.1;have A4:=RU jD.2;simp only [a8] at aP
        split at aP
        ·rename_i id off hx
         cases hs:nd (bX (i+1+k)) id CN with
         | false=>rw [hs] at aP;cases aP
         | true=>
          rw [hs] at aP;simp only [yB] at aP;rw [<-A4];exact Z2 hs ID hx aP (by rw [A4];exact ih)
        ·cases aP
       case kh CN Fm b x v=>
        simp only [ye] at jD;have ID:=K1 jD.1;have A4:=RU jD.2;simp only [a8] at aP
        cases iY:cI (bX (i+1+k)) (bL (i+1+k)) (bG (i+1+k)) (.aR Fm b x v) with
        | none=>simp [iY] at aP
        | some z=>
         obtain ⟨v1,bi,nJ⟩:=z;simp only [iY] at aP
         cases hs:nZ (bX (i+1+k)) (bL (i+1+k)) bi CN with
         | false=>rw [hs] at aP;cases aP
         | true=>
          rw [hs] at aP;simp only [yB,yd,yj] at aP;obtain ⟨_,h8,_⟩:=aP;rw [<-h8,<-A4];exact Pw hs ID (by rw [A4];exact ih)
  ·exact acR (abb (Hs hj hw) aP (aW _ (by omega))).le ih
structure Inv (O:bl) (ops:Array y5) (rs:List a7) (bX:Nat->Env) (bL:Nat->Hp) (bG:Nat->Nat) (D:Nat->Prop) (m0:Mp) (S0:Nat->Prop) (w0:yh) (n0:Nat) (d0:List yby) (st c:Nat) (m:Mp) (S:Nat->Prop) (w:yh) (a:Act):Prop where
 Yg:st<=c
 cn:c<=rs.length
 before:∀i,i<st->jn rs i->D i
 Fs:∀i,st<=i->i<c->¬jn rs i
 cut:c=rs.length\/(jn rs c/\¬D c)
 behind:∀(i:Nat) (r:a7),c<=i->rs[i]? =some r->1<=bA r.op->¬D i
 hp:aT O m S w (bL c) (bG c)
 Yh:∀id p,m id=some p->id<bG st\/∃i,st<=i/\i<c/\D i/\bG i<=id/\id<bG (i+1)
 tm:Ow O rs bX D m S w a
 Oy:b8 m0 S0 w0 (bL 0) m S w (bL c) (bG 0)
 ge:bG 0<=bG c
 size:a.tmps.size=n0
 defers:a.defers=d0
 kz:st=0\/jn rs (st-1)
 Ft:∀j,j<=c->∀id o,aB (bL j) id=some o->id<bG j
end
end
section
open Go
section
variable {O:bl} {H:Hint} {ops:Array y5} {rs:List a7} {bX:Nat->Env} {bL:Nat->Hp} {bG:Nat->Nat} {vF:Nat->AV} {self:cy} {ro:Option Nat} {Q:uh->Act->yh->Prop}
variable {D D':Nat->Prop} {m0:Mp} {S0:Nat->Prop} {w0:yh} {n0:Nat} {d0:List yby} {st c i:Nat} {m:Mp} {S:Nat->Prop} {w:yh} {a:Act} {r:a7} {o:y5}
def K3 (hG:qP O H self ops rs bX bL bG vF) (hI:Inv O ops rs bX bL bG D m0 S0 w0 n0 d0 st c m S w a) {x y:Nat} (hx:st<=x) (hxy:x<=y) (hy:y<=c):hZ (bL x) (bG x) (bL y) (bG y):=by
 obtain ⟨k,rfl⟩:∃k,y=x+k:=⟨y-x,by omega⟩
 have:=hI.cn
 exact K2 hG.run (hI.Ft x (by omega)) k (by omega) (fun j r h1 h2 hr=>Hs hr (hI.Fs j (by omega) (by omega)))
def Qr (hG:qP O H self ops rs bX bL bG vF) (hI:Inv O ops rs bX bL bG D m0 S0 w0 n0 d0 st c m S w a) (hr:rs[i]? =some r) (hi:¬D i) (eP:∀j,Ord ops j i->D j) (fG:∀j,Ord ops i j->¬D j) (hD:∀j,D' j↔D j\/j=i)
  (hd:∀d,r.dst=some d->d<a.tmps.size) (hw:¬jn rs i) (ku:bA r.op=0\/i<c) {m':Mp} {S':Nat->Prop} {w':yh} {u:yf} (k1:aT O m' S' w' (bL c) (bG c)) (k2:du m m')
  (k3:∀id p,m' id=some p->m id=some p\/(st<=i/\i<c/\bG i<=id/\id<bG (i+1))) (k4:ah O.af m' S' w' (vF i) u) (k5:b8 m S w (bL c) m' S' w' (bL c) (bG c)):
  Inv O ops rs bX bL bG D' m0 S0 w0 n0 d0 st c m' S' w' (a.put r.dst u) where
 Yg:=hI.Yg
 cn:=hI.cn
 before j hj oX:=(hD j).2 (.inl (hI.before j hj oX))
 Fs:=hI.Fs
 cut:=hI.cut.imp (fun h=>h) (fun h=>⟨h.1,fun hc=>((hD c).1 hc).elim h.2 (fun e=>hw (e▸h.1))⟩)
 behind j rj hj zy hk JQ:=((hD j).1 JQ).elim (hI.behind j rj hj zy hk) (fun e=>by
  subst e;rw [hr] at zy;injection zy with zy
  subst zy
  rcases ku with h | h<;>omega)
 hp:=k1
 Yh id p hp:=by
  rcases k3 id p hp with h | ⟨h1,h2,h3,h4⟩
  ·rcases hI.Yh id p h with h | ⟨j,g1,g2,g3,g4,g5⟩
   ·exact .inl h
   ·exact .inr ⟨j,g1,g2,(hD j).2 (.inl g3),g4,g5⟩
  ·exact .inr ⟨i,h1,h2,(hD i).2 (.inr rfl),h3,h4⟩
 tm:=acZ hG hI.tm hr hi eP fG hD k2 k5.sub (fun b hb=>k5.still b hb) hd k4
 Oy:=hI.Oy.trans (k5.qU hI.ge)
 ge:=hI.ge
 size:=by rw [Ll];exact hI.size
 defers:=by rw [PN];exact hI.defers
 kz:=hI.kz
 Ft:=hI.Ft
def ac0 (hG:qP O H self ops rs bX bL bG vF) (hI:Inv O ops rs bX bL bG D m0 S0 w0 n0 d0 st c m S w a) (hr:rs[c]? =some r) (hi:¬D c) (eP:∀j,Ord ops j c->D j) (fG:∀j,Ord ops c j->¬D j) (hD:∀j,D' j↔D j\/j=c)
  (hd:∀d,r.dst=some d->d<a.tmps.size) (hw:jn rs c) {m':Mp} {S':Nat->Prop} {w':yh} {u:yf} (k1:aT O m' S' w' (bL (c+1)) (bG (c+1))) (k2:bG c<=bG (c+1))
  (k4:ah O.af m' S' w' (vF c) u) (k5:b8 m S w (bL c) m' S' w' (bL (c+1)) (bG c)):
  ∃c' AW,Inv O ops rs bX bL bG D' m0 S0 w0 n0 d0 (c+1) c' m' AW w' (a.put r.dst u):=by
 have iY:c<rs.length:=(wj.1 hr).1;obtain ⟨c',h1,h2,h3,h4⟩:=Ro rs (rs.length-(c+1)) (c+1) (by omega);obtain ⟨k,rfl⟩:∃k,c'=c+1+k:=⟨c'-(c+1),by omega⟩;have hg:∀k',k'<=k->hZ (bL (c+1)) (bG (c+1)) (bL (c+1+k')) (bG (c+1+k')):=fun k' nF=>
  K2 hG.run k1.aW k' (by omega) (fun j r g1 g2 hr=>Hs hr (h3 j g1 (by omega)))
 obtain ⟨AW,g1,g2,g3,g4⟩:=Lk k1 (hg k (yo _));have Oz:du m m':=fun id p h=>k5.old id p (hI.hp.lt id p h) h
 refine ⟨c+1+k,AW,⟨by omega,h2,?_,h3,?_,?_,g1,fun id p h=> .inl (k1.lt id p h),?_,?_,?_,by rw [Ll];exact hI.size,by rw [PN];exact hI.defers,.inr (by simpa using hw),?_⟩⟩
 ·intro j hj oX;rcases wP (tv hj) with e | hj
  ·exact (hD j).2 (.inr e)
  ·rcases wY j st with g | g
   ·exact (hD j).2 (.inl (hI.before j g oX))
   ·exact (hI.Fs j g hj oX).elim
 ·refine h4.imp (fun h=>h) (fun h=>⟨h,fun hc=>?_⟩);obtain ⟨rc,Yi,ku⟩:=h;rcases (hD _).1 hc with g | g
  ·exact hI.behind _ rc (by omega) Yi (by omega) g
  ·omega
 ·intro j rj hj zy hk JQ;rcases (hD j).1 JQ with g | g
  ·exact hI.behind j rj (by omega) zy hk g
  ·omega
 ·exact acZ hG hI.tm hr hi eP fG hD Oz (fun b hb=>g2 b (k5.sub b hb)) (fun b hb=>k5.still b hb) hd (lB (fun _ _ h=>h) g2 (fun _ _=>rfl) _ _ k4)
 ·exact (hI.Oy.trans (k5.qU hI.ge)).trans (g4 (bG 0))
 ·have:=(hg k (yo _)).oW
  have:=hI.ge
  omega
 ·intro j hj;rcases wY c j with g | g
  ·obtain ⟨k',rfl⟩:∃k',j=c+1+k':=⟨j-(c+1),by omega⟩;exact (hg k' (by omega)).lt
  ·exact hI.Ft j g
def apQ {q:Op} (h:bA q≠2):iS q=q:=by
 cases q<;>first
  | rfl
  | exact absurd rfl h
def aas {x y:a7} {l:List a7} (h:MJ x y l):¬(bA x.op=2/\1<=bA y.op)/\(1<=bA x.op->bA y.op=2->x.guard=none/\∃sz ag t,x.op= .ld sz ag (.t t)):=by
 obtain ⟨_,h⟩:=h;have ex:Hn x y l=true->x.guard=none/\∃sz ag t,x.op= .ld sz ag (.t t):=by
  intro he;unfold Hn at he
  split at he
  ·rename_i sz ag t CN fx xs h1 h2 h3;exact ⟨h1,sz,ag,t,h2⟩
  ·rename_i h1 h2 h3;exact ⟨h1,_,_,_,h2⟩
  ·rename_i h1 h2 h3;exact ⟨h1,_,_,_,h2⟩
  ·cases he
 have k2:∀q:Op,bA q<=2:=fun q=>by
  cases q with
  | dG k x lo hi=>cases k<;>simp [bA]
  | len k x=>rcases k with _ | _ | k<;>simp [bA]
  | call md f xs=>cases md<;>simp [bA]
  | _=>simp [bA]
 constructor
 ·rintro ⟨h1,h2⟩;rcases h with h | h
  ·have:bA y.op=1\/bA y.op=2:=by have:=k2 y.op;omega
   rcases this with e | e<;>(simp only [G0,h1,e] at h;cases h)
  ·obtain ⟨_,sz,ag,t,e⟩:=ex h;rw [e] at h1;cases h1
 ·intro h1 h2;rcases h with h | h
  ·have:bA x.op=1\/bA x.op=2:=by have:=k2 x.op;omega
   rcases this with e | e<;>(simp only [G0,h2,e] at h;cases h)
  ·exact ex h
def apR (hC:nc O self) (hH:fo O H) (hG:qP O H self ops rs bX bL bG vF) (hn:H.n<=n0) (hI:Inv O ops rs bX bL bG D m0 S0 w0 n0 d0 st c m S w a) (hr:rs[i]? =some r) (ho:ops[i]? =some o) (hi:¬D i)
  (eP:∀j,Ord ops j i->D j) (fG:∀j,Ord ops i j->¬D j) (hD:∀j,D' j↔D j\/j=i) {K:Act->yh->Prop}
  (hK:∀st' c' m' S' w' a',Inv O ops rs bX bL bG D' m0 S0 w0 n0 d0 st' c' m' S' w' a'->K a' w'):wpOpIn (WF ro) 0 O.P ops Q i K a w:=by
 have cD:=hG.of i r o hr ho;have Sl:=arL hG hI.tm hr hi eP fG;have aP:=hG.run.step i r hr;have hd:∀d,r.dst=some d->d<a.tmps.size:=by
  rw [cD.dst];exact abV cD.ok (by rw [hI.size];exact hn)
 have kB:=hI.Yg;have kY:1<=bA r.op->i<=c:=by
  intro hk;rcases wY c i with Yj | Yj
  ·have Fo:i<rs.length:=(wj.1 hr).1;rcases hI.cut with h | ⟨⟨rc,Yi,ku⟩,JI⟩
   ·omega
   ·rcases hG.pair c i rc r Yj Yi hr with h | h
    ·exact (JI (eP c h)).elim
    ·exact ((aas h).1 ⟨ku,hk⟩).elim
  ·exact Yj
 have hwc:jn rs i->i=c:=by
  intro hw;obtain ⟨rw',h1,h2⟩:=hw;rw [hr] at h1;injection h1 with h1
  subst h1;have h3:=kY (by omega);rcases wP h3 with e | h3
  ·exact e
  ·rcases wY i st with g | g
   ·exact (hi (hI.before i g ⟨r,hr,h2⟩)).elim
   ·exact (hI.Fs i g h3 ⟨r,hr,h2⟩).elim
 have aW:1<=bA r.op->¬jn rs i->i<c:=by
  intro hk hw;rcases wP (kY hk) with e | h
  ·subst e;rcases hI.cut with h | h
   ·have Fo:i<rs.length:=(wj.1 hr).1;omega
   ·exact (hw h.1).elim
  ·exact h
 have ku:¬jn rs i->bA r.op=0\/i<c:=fun hw=>by
  rcases xn (bA r.op) with h | h
  ·exact .inl h
  ·exact .inr (aW h hw)
 unfold wpOpIn;simp only [ho];unfold eK at aP
 cases OA:ow (bX i) r.guard with
 | none=>simp [OA] at aP
 | some b=>
  have Ye:=aa8 cD.guard (fun t ht=>Sl t (by simp [BK,ht])) OA;rw [Ye]
  cases b with
  | false=>
   simp only [OA,yd,yj] at aP;obtain ⟨hv,hh,hc⟩:=aP;simp only [yJ,xd];refine ⟨fun _ _=>trivial,?_⟩;have dO:∀m S w,ah O.af m S w (vF i) undef:=fun m S w=>by rw [<-hv];simp [ah,az,undef]
   rw [<-cD.dst];rcases vY (jn rs i) with hw | hw
   ·have e:=hwc hw;subst e;obtain ⟨c',AW,h⟩:=ac0 hG hI hr hi eP fG hD hd hw (m':=m) (S':=S) (w':=w) (u:=undef) (by rw [<-hh,<-hc];exact hI.hp) (by omega) (dO _ _ _) (by rw [<-hh];exact b8.refl)
    exact hK _ _ _ _ _ _ h
   ·exact hK _ _ _ _ _ _ (Qr hG hI hr hi eP fG hD hd hw (ku hw) (m':=m) (S':=S) (w':=w) (u:=undef) hI.hp du.refl (fun _ _ h=> .inl h) (dO _ _ _) b8.refl)
  | true=>
   simp only [OA] at aP;simp only [xA];have kZ:=Z1 cD.op aP;have OB:b7 O m S w (dN (bX i) (jO r.op)) a.tmps:=fun t=>by
    rcases vY (t∈jO r.op) with h | h
    ·rw [Lm h];exact Sl t (by simp [BK,h])
    ·have:aj (dN (bX i) (jO r.op)) t= .undef:=by
      clear Sl aP;revert h;generalize jO r.op=l;intro h
      induction l with
      | nil=>rfl
      | cons x l ih=>
       simp only [dN,aj];have hx:yx x t=false:=by
        cases hq:yx x t with
        | false=>rfl
        | true=>exact absurd (by rw [ym hq];exact vV) h
       rw [hx];exact ih (fun h'=>h (wS _ h'))
     rw [this];simp only [ah]
   have CO:a8 O.prog O.aD self (dN (bX i) (jO r.op)) (bL i) (bG i) (iS r.op)=some (vF i,bL (i+1),bG (i+1)):=
    an0 (fun t ht=>Lm ht) aP
   have afZ:¬jn rs i->iS r.op=r.op:=fun hw=>apQ (fun h=>hw ⟨r,hr,h⟩)
   have now:¬jn rs i->bw (dN (bX i) (jO r.op)) (bL c) r.op=some (vF i)->Oper.wpIn (WF ro) 0 O.P o a w K Q:=by
    intro hw kw;have jl:∃k,r.op=a6 O.P H k o:=by
     rcases cD.op with h | ⟨cc,f,rr,_,_,h⟩ | ⟨_,_,_,_,_,_,_,h⟩ | ⟨_,_,_,_,_,_,_,h⟩
     ·exact h
     ·rw [h] at kw;simp [bw] at kw
     ·rw [h] at kw;simp [bw] at kw
     ·rw [h] at kw;simp [bw] at kw
    obtain ⟨k,hk⟩:=jl;rw [hk] at kw;rw [hk] at OB;obtain ⟨u,h1,h2⟩:=acL hH OB hI.hp kw;refine L3 kZ h1 (.inl rfl) ?_;rw [<-cD.dst];exact hK _ _ _ _ _ _ (Qr hG hI hr hi eP fG hD hd hw (ku hw) hI.hp du.refl (fun _ _ h=> .inl h) h2 b8.refl)
   rcases vY (jn rs i) with hw | hw
   ·have e:=hwc hw;subst e;refine abU hC hH (am2 cD.op) kZ CO OB hI.hp (fun u m' S' w' k1 k2 k3 k4=>?_);rw [<-cD.dst];obtain ⟨c',AW,h⟩:=ac0 hG hI hr hi eP fG hD hd hw k1 k2 k3 k4;exact hK _ _ _ _ _ _ h
   ·rcases xn (bA r.op) with hk | hk
    ·have CO:=afZ hw▸CO;obtain ⟨h1,_,_⟩:=abW (.inl hk) CO;exact now hw (by rw [anR hk (bL c) (bL i)];exact h1)
    ·have Fj:=aW hk hw;rcases wY i st with Sm | Sm
     ·
      rcases hI.kz with h0 | h0
      ·omega
      ·have bi:D (st-1):=hI.before _ (by omega) h0;have bN:i≠st-1:=fun e=>hi (e▸bi)
       obtain ⟨rp,hrp,hkp⟩:=h0;rcases hG.pair i (st-1) r rp (by omega) hr hrp with h | h
       ·exact (fG _ h bi).elim
       ·obtain ⟨hg,sz,ag,t,jl⟩:=(aas h).2 hk hkp;have hl:=ZQ (c:=c) hG hr hi ⟨hg,jl⟩ hI.cn (fun j hj oX=>by
         rcases wY j st with g | g
         ·exact hI.before j g oX
         ·exact (hI.Fs j g hj oX).elim) fG hI.Ft (c-(i+1)) (by omega)
        rw [show i+1+(c-(i+1))=c by omega] at hl;refine now hw ?_;rw [jl];simp only [bw,aE];rw [Lm (by simp [jO,iw])];exact hl
     ·have gT:=K3 hG hI (x:=i+1) (y:=c) (by omega) Fj (yo _);have JR:=K3 hG hI (x:=st) (y:=i) (yo _) Sm (by omega)
      refine quiet_step (Hq:=bL c) (cH:=bG c) hC hH (Hs hr hw) cD.op kZ (afZ hw▸CO) gT.le gT.oW (hI.Ft i (by omega)) ?_ OB hI.hp (fun u m' S' w' k1 k2 k3 k4 k5=>?_)
      ·intro id h1 h2
       cases hm:m id with
       | none=>rfl
       | some p=>
        rcases hI.Yh id p hm with h | ⟨j,q1,q2,q3,q4,q5⟩
        ·have:=JR.oW;omega
        ·rcases Nat.lt_trichotomy j i with g | g | g
         ·have:=(K3 hG hI (x:=j+1) (y:=i) (by omega) g (by omega)).oW;omega
         ·subst g;exact (hi q3).elim
         ·have:=(K3 hG hI (x:=i+1) (y:=j) (by omega) g (by omega)).oW;omega
      ·rw [<-cD.dst];exact hK _ _ _ _ _ _ (Qr hG hI hr hi eP fG hD hd hw (.inr Fj) k1 k2 (fun id p h=>(k3 id p h).imp (fun h=>h) (fun h=>⟨Sm,Fj,h.1,h.2⟩)) k4 k5)
def left (n:Nat) (listed:Array Bool):Nat:=(List.range n).countP fun i=> !listed.getD i false
def apS {n:Nat} {listed:Array Bool} {i:Nat} (hi:i<n) (hs:listed.size=n) (hl:listed.getD i true=false):left n (listed.setIfInBounds i true)+1=left n listed:=by
 have key:∀(l:List Nat),l.Nodup->(i∈l->(l.countP fun j=> !(listed.setIfInBounds i true).getD j false)+1=l.countP fun j=> !listed.getD j false)/\(i∉l->(l.countP fun j=> !(listed.setIfInBounds i true).getD j false)=l.countP fun j=> !listed.getD j false):=by
  intro l
  induction l with
  | nil=>intro _;exact ⟨fun h=>(by cases h),fun _=>rfl⟩
  | cons x l ih=>
   intro kZ;have hx:x≠i->(listed.setIfInBounds i true).getD x false=listed.getD x false:=fun h=>getD_set_ne false (ybK h)
   refine ⟨fun hm=>?_,fun hm=>?_⟩
   ·rw [yat,yat];by_cases e:x=i
    ·simp_all
    ·grind
   ·grind
 exact (key _ List.nodup_range).1 (List.mem_range.2 hi)
def an1 {n:Nat} {listed:Array Bool} (h:left n listed=0):∀i,i<n->listed.getD i false=true:=by
 unfold left at h
 simp_all
def an2 {listed:Array Bool} (hs:listed.size=ops.size) (hb:∀(i:Nat) (o:y5),ops[i]? =some o->∀e,e∈o.after->Region.binds .any e=true->e.on<i) (h:Region.ready .any ops listed=[]):∀i,i<ops.size->listed.getD i false=true:=by
 intro i
 induction i using ud with
 | _ i ih=>
  intro hi
  cases hq:listed.getD i false with
  | true=>rfl
  | false=>
   have:i∈Region.ready .any ops listed:=by
    refine mem_ready.2 ⟨?_,ops[i],by simp [hi],fun e he rG=>?_⟩
    ·have aW:i<listed.size:=by omega
     simp only [wV,aW,Array.getElem?_eq_getElem,vR] at hq ⊢;exact hq
    ·have:=hb i ops[i] (by simp [hi]) e he rG
     exact ih e.on this (by omega)
   rw [h] at this;cases this
def arM (hG:qP O H self ops rs bX bL bG vF) (hI:Inv O ops rs bX bL bG D m0 S0 w0 n0 d0 st c m S w a) (kQ:∀i,i<rs.length->D i):
  aT O m S w (bL rs.length) (bG rs.length)/\b7 O m S w (bX rs.length) a.tmps/\b8 m0 S0 w0 (bL 0) m S w (bL rs.length) (bG 0)/\bG 0<=bG rs.length:=by
 have hc:c=rs.length:=by
  rcases hI.cut with h | ⟨⟨r,h1,_⟩,h2⟩
  ·grind
  ·grind
 subst hc;refine ⟨hI.hp,fun t=>?_,hI.Oy,hI.ge⟩;obtain ⟨j,h1,h2,h3⟩:=hI.tm t;obtain ⟨k,hk⟩:∃k,rs.length=j+k:=⟨rs.length-j,by omega⟩
 have:=G5 (t:=t) (i:=j) hG.run k (by omega) (fun l r g1 g2 hl hd=>by
  have:=(h2 l r hl hd).1 (kQ l (wj.1 hl).1)
  omega)
 grind
def aue (hC:nc O self) (hH:fo O H) (hG:qP O H self ops rs bX bL bG vF) (hn:H.n<=n0)
  (hQ:∀a' m' S' w',aT O m' S' w' (bL rs.length) (bG rs.length)->bG 0<=bG rs.length->b7 O m' S' w' (bX rs.length) a'.tmps->b8 m0 S0 w0 (bL 0) m' S' w' (bL rs.length) (bG 0)->a'.tmps.size=n0->a'.defers=d0->Q .normal a' w'):
  ∀(bn:Nat) (listed:Array Bool) (st c:Nat) (m:Mp) (S:Nat->Prop) (w:yh) (a:Act),listed.size=ops.size->left ops.size listed=bn->Rk ops (fun i=>listed.getD i false=true)->
   Inv O ops rs bX bL bG (fun i=>listed.getD i false=true) m0 S0 w0 n0 d0 st c m S w a->wpAnyIn (WF ro) 0 O.P .any ops Q bn listed a w:=by
 have fin:∀(listed:Array Bool) (st c:Nat) (m:Mp) (S:Nat->Prop) (w:yh) (a:Act),Inv O ops rs bX bL bG (fun i=>listed.getD i false=true) m0 S0 w0 n0 d0 st c m S w a->(∀i,i<ops.size->listed.getD i false=true)->Q .normal a w:=by
  intro listed st c m S w a hI kQ;obtain ⟨h1,h2,h3,h4⟩:=arM hG hI (fun i hi=>kQ i (by rw [<-hG.len];exact hi))
  exact hQ a m S w h1 h4 h2 h3 hI.size hI.defers
 intro bn
 induction bn with
 | zero=>
  intro listed st c m S w a hs hl hc hI;have kQ:=an1 hl;refine ⟨?_,fin listed st c m S w a hI kQ⟩;rw [List.eq_nil_iff_forall_not_mem];intro i hm;obtain ⟨h1,o,ho,_⟩:=mem_ready.1 hm
  grind
 | succ bn ih=>
  intro listed st c m S w a hs hl hc hI;refine ⟨fun h=>fin listed st c m S w a hI (an2 hs hG.back h),fun i hm=>?_⟩;obtain ⟨h1,o,ho,h2⟩:=mem_ready.1 hm;have hi:i<ops.size:=(xm.1 ho).1;have hr:rs[i]? =some (rs[i]'(by rw [hG.len];exact hi)):=by simp [hG.len,hi]
  have aW:i<listed.size:=by omega
  have hni:¬listed.getD i false=true:=by
   grind
  have hD:∀j,(listed.setIfInBounds i true).getD j false=true↔listed.getD j false=true\/j=i:=by
   intro j;by_cases e:j=i
   ·simp_all
   ·rw [getD_set_ne false (ybK e)];simp [e]
  refine apR hC hH hG hn hI hr ho hni (aba hc i o ho h2) (fun j hj JQ=>?_) hD (fun st' c' m' S' w' a' Yk=>ih (listed.setIfInBounds i true) st' c' m' S' w' a' (by simp [hs]) ?_ ?_ Yk)
  ·have hjl:j<ops.size:=by
    grind
   exact hni (apP hc (show ops[j]? =some ops[j] by simp [hjl]) JQ hj)
  ·have:=apS hi hs h1
   omega
  ·intro j oj hoj hj e he hb;rw [hD];rcases (hD j).1 hj with g | g
   ·exact .inl (hc j oj hoj g e he hb)
   ·grind
end
end
end VE
