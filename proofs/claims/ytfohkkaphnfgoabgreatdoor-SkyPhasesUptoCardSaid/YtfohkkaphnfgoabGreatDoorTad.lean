import Derived.RangeFuncLeaves
import Derived.OrdersIn
import Derived.LoopNIn
import Derived.RangeFuncIn
import Derived.Test.YtfohkkaphnfgoabGreatDoorTac
set_option linter.all false
set_option maxRecDepth 100000
open Array renaming getD_eq_getD_getElem?→wM,getElem?_eq_some_iff→xp,replicate→uj
open Bool renaming and_eq_true→yf,false_eq_true→yC,not_eq_true'→vV,or_eq_false_iff→tA,or_eq_true→uM
open Classical renaming em→vM
open Go renaming Call→uG,Code→wL,Deferred→uN,Exit→vR,FuncId→tp,Oper→y5,Operand→xu,Program→y9,RoundIn→tY,Value→ye,World→yg
open List renaming countP_cons→yab,getElem?_cons_zero→vn,getElem?_eq_some_iff→wa,length_append→yW,length_cons→yu,length_nil→yA,mem_append→wD,mem_cons→wg,mem_cons_of_mem→wv
open Nat renaming beq→yt,ble→yB,eq_of_beq_eq_true→yk,eq_or_lt_of_le→wJ,eq_zero_or_pos→xm,le_of_lt_succ→uU,le_refl→yv,le_trans→xj,lt_or_ge→wV,strongRecOn→vQ,testBit→ua,zero_add→yd,zero_le→ta
open Ne renaming symm→ybq
open Option renaming bind_some→xI,getD_some→vU
open Option.some renaming injEq→yc
open Prod.mk renaming injEq→ym
namespace VE
section
open Go
def WF (ro:Option Nat):Fence:={Fence.wide with round:=ro}
section
variable {O:bq}
def ZX (O:bq) (hp:Hp) (ct:Nat) (l:Nat) (xs:List AV) (v:AV) (an:Hp) (a7:Nat):Prop:=
 ∀(m:Mp) (S:Nat->Prop) (w:yg) (args:Array ye) (p:Pl),aV O m S w hp ct->m l=some p->ap O.ah m S w xs args.toList->
  ∃f tmps assign body,(Instr.yield p.b args).run O.P w= .ok (.round p.b f tmps assign body) w/\tY Fence.wide 0 O.P p.b f tmps assign body w (rF O m S w hp ct v an a7)
structure mE (O:bq) (run:cF):Prop where
 pure:∀n ak r,bN O.prog O.aT run n ak=some r->ez O n ak r
 heap:∀hp ct n ak v an a7,iA O.prog O.aT run hp ct n ak=some (v,an,a7)->Aa O n hp ct ak v an a7
 round:∀hp ct l xs v an a7,mD run hp ct l xs=some (v,an,a7)->ZX O hp ct l xs v an a7
end
section
variable {P:y9} {o:y5} {a:Act} {w:yg} {ro:Option Nat} {next:Act->yg->Prop} {Q:vR->Act->yg->Prop}
def KE {c:uG} {f:xu} (ho:o.op= .call c) (hc:c.callee= .value f) {g:tp} {fi ca:Array ye} (hf:a.eval f= .func (.func g) fi ca) {R:Ending->yg->Prop}
  (h:zM P g (fi++c.args.map a.eval++ca) w R) (hn:∀e w',R e w'->∃u,e= .returned u/\next (a.put o.dst u) w'):o.wpIn (WF ro) 0 P a w next Q:=by
 have fW:(o.semAt ro a.eval).run P w=(callFunc g (fi++c.args.map a.eval++ca)).run P w:=by
  rw [Oper.semAt_eq _ _ _ (fun c' h'=>by rw [ho] at h';cases h')];simp only [execOp,ho,resolve,hc,Deferred.ofValue,hf,Sem.run_bind,Sem.run_pure,Result.andThen_ok,invoke]
 refine ⟨fun _ _=>trivial,?_⟩;show o.uponIn (WF ro) 0 P a next Q ((o.semAt ro a.eval).run P w)
 rw [fW];rcases h with ⟨h1,h2⟩ | ⟨u,w',h1,h2⟩
 ·rw [h1,Oper.uponIn_enter];refine ⟨fun h=>by simp [WF,Fence.wide] at h,?_⟩;have h3:CallsIn (WF ro) 0 P g (fi++c.args.map a.eval++ca) w R:=h2;refine CallsIn.mono h3 (fun e w' he=>?_);obtain ⟨u,rfl,hq⟩:=hn e w' he;exact hq
 ·rw [h1];obtain ⟨u',e,hq⟩:=hn _ _ h2;injection e with e
  subst e;exact hq
def ajX {c:uG} {f:xu} (ho:o.op= .call c) (hc:c.callee= .value f) {l:Nat} (hf:a.eval f= .func (.yield l) #[] #[]) {R:Ending->yg->Prop} {g:tp} {tmps:Array ye} {assign body:wL}
  (hy:(Instr.yield l (c.args.map a.eval)).run P w= .ok (.round l g tmps assign body) w) (h:tY Fence.wide 0 P l g tmps assign body w R) (hn:∀e w',R e w'->∃u,e= .returned u/\next (a.put o.dst u) w'):o.wpIn (WF ro) 0 P a w next Q:=by
 have fW:(o.semAt ro a.eval).run P w= .ok (.round l g tmps assign body) w:=by
  rw [Oper.semAt_eq _ _ _ (fun c' h'=>by rw [ho] at h';cases h')];simp only [execOp,ho,resolve,hc,Deferred.ofValue,hf,Sem.run_bind,Sem.run_pure,Result.andThen_ok,invoke,Array.empty_append];exact hy
 refine ⟨fun _ _=>trivial,?_⟩;show o.uponIn (WF ro) 0 P a next Q ((o.semAt ro a.eval).run P w)
 rw [fW,Oper.uponIn_round];refine ⟨fun h=>by simp [WF,Fence.wide] at h,?_⟩;have h3:tY (WF ro) 0 P l g tmps assign body w R:=h;refine RoundIn.mono h3 (fun e w' he=>?_);obtain ⟨u,rfl,hq⟩:=hn e w' he;exact hq
def LO {n:Next} {u:ye} {w':yg} (hd:∀c,o.op≠.defer c) (h:(execOp a.eval o).run P w= .ok n w') (hn:n= .value u\/(n= .skip/\u=undef)) (hq:next (a.put o.dst u) w'):o.wpIn (WF ro) 0 P a w next Q:=by
 refine ⟨fun _ _=>trivial,?_⟩;show o.uponIn (WF ro) 0 P a next Q ((o.semAt ro a.eval).run P w)
 rw [Oper.semAt_eq _ _ _ hd,h];rcases hn with rfl | ⟨rfl,rfl⟩
 ·exact hq
 ·exact hq
end
def su (P:y9) (H:Hint) (q:Op) (o:y5):Prop:=
 (∃k,q=bl P H k o)\/(∃c f rs,o.op= .call c/\c.callee= .value f/\q= .iB rs (aS H f) (gH H c.args.toList))\/
  ∃t x y sz rs,o.op= .store t x y/\cL P t=some sz/\q= .jl rs sz (aS H x) (aS H y)
def mh:Op->Op
 | .iB _ f xs=> .iB [] f xs
 | .jl _ s x v=> .st s x v
 | o=>o
section
variable {O:bq} {H:Hint} {m:Mp} {S:Nat->Prop} {w:yg} {tm:Env} {a:Act} {hp:Hp} {ct:Nat} {self:cF} {ro:Option Nat} {next:Act->yg->Prop} {Q:vR->Act->yg->Prop}
def Lw {o:y5} {k:Nat} {md:Md} {x:X} {xs:List X} (h:bl O.P H k o= .call md x xs) (hb:x≠.c .undef):∃c f,o.op= .call c/\c.callee= .value f/\x=aS H f/\xs=gH H c.args.toList:=by
 have nb:bad= .call md x xs->False:=fun h=>by simp only [bad,Op.call.injEq] at h;exact hb h.2.1.symm
 cases ho:o.op with
 | call c=>
  obtain ⟨callee,args,ts⟩:=c;simp only [bl,ho] at h
  split at h
  ·rename_i f;cases hm:H.mode k<;>simp only [hm,Op.call.injEq,reduceCtorEq] at h
   all_goals exact ⟨_,f,rfl,rfl,h.2.1.symm,h.2.2.symm⟩
  ·repeat' split at h
   all_goals first
    | exact (nb h).elim
    | (cases h;done)
    | (revert h;generalize yt _ _=bb;intro h;cases bb<;>first | exact (nb h).elim | (cases h;done))
  ·exact (nb h).elim
 | binOp op t x' y ty=>
  cases op<;>simp only [bl,ho,pQ,rL] at h
  case eql=>
        repeat' split at h
        all_goals first
         | exact (nb h).elim
         | (cases h;done)
         | (cases cO:(O.P.stoodInHeld t||O.P.eqGuardType O.P.depth t)<;>rw [cO] at h<;>first | exact (nb h).elim | (cases h;done))
  case neq=>
        repeat' split at h
        all_goals first
         | exact (nb h).elim
         | (cases h;done)
         | (cases cO:(O.P.stoodInHeld t||O.P.eqGuardType O.P.depth t)<;>rw [cO] at h<;>first | exact (nb h).elim | (cases h;done))
  all_goals cases h
 | buildSlice t n parts=>
  simp only [bl,ho] at h
  repeat' split at h
  all_goals first
   | exact (nb h).elim
   | (cases h;done)
   | (revert h;generalize yB _ _=bb;intro h;cases bb<;>first | exact (nb h).elim | (simp only [yy] at h;cases h;done))
 | makeMap t r=>
  cases r<;>simp only [bl,ho] at h
  ·repeat' split at h
   all_goals first
    | exact (nb h).elim
    | (cases h;done)
  ·exact (nb h).elim
 | next x' b=>
  cases b<;>simp only [bl,ho] at h
  ·exact (nb h).elim
  ·cases h
 | _=>
  simp only [bl,ho] at h
  (repeat' split at h)
  all_goals first
   | contradiction
   | exact (nb h).elim
   | (cases h;done)
def agY {o:y5} {k:Nat} {r:AV×Hp×Nat} (hv:bn O.prog O.aT self tm hp ct (bl O.P H k o)=some r):∀c,o.op≠.defer c:=by
 intro c ho;simp [bl,ho,bad,bn,eG,az] at hv
end
end
section
open Go
section
variable {O:bq} {H:Hint} {m:Mp} {S:Nat->Prop} {w:yg} {tm:Env} {a:Act} {hp an Hq:Hp} {ct a7 cH:Nat} {self:cF} {ro:Option Nat} {next:Act->yg->Prop} {Q:vR->Act->yg->Prop}
def ah6 {g:Go.Obj} {p:Pl} {S':Nat->Prop} {base:Nat} (hh:aV O m S w Hq cH) (hi:m ct=none) (hb:p.b=w.heap.size) (h1:∀b,S b->S' b) (h2:∀b,S' b->S b\/b=w.heap.size):
  cm m S w Hq (fh m ct p) S' (w.alloc g) Hq base where
 os:=rfl
 tape:=rfl
 output:=rfl
 size:=by simp
 same b hb _:=alloc_old hb
 sub:=h1
 still b hb:=alloc_old (hh.slt b hb)
 new b hb:=(h2 b hb).imp (fun h=>h) (fun h=> .inr (by omega))
 own b hb:=by
  obtain ⟨i,o,q,g1,g2,g3⟩:=hb;by_cases hc:i=ct
  ·subst hc;rw [dW] at g2
   grind
  ·rw [dV hc] at g2;exact .inl ⟨i,o,q,g1,g2,g3⟩
 old i q _ h:=jJ hi i q h
 loops b r hb:=⟨r,(alloc_old (xp.1 hb).1).trans hb⟩
def Wj {L5 ak:List AV} {us:List ye} {bA:Hp} (hz:cB deep hp L5=some (ak,bA)) (hl:da bA Hq) (hh:aV O m S w Hq cH) (hr:ap O.ah m S w L5 us):ap O.ah eM S w ak us/\aK ak=true:=by
 obtain ⟨_,_,h3⟩:=Pc (O:=O) hz;obtain ⟨k1,k2⟩:=h3 Hq m S w cH hl hh;exact ⟨rE (fun _ h=>h) (fun _ _=>rfl) _ _ k2 (k1 us hr),k2⟩
def Qj (hh:aV O m S w Hq cH):z8 O w:=⟨hh.kH,hh.fF⟩
def K3 (hH:fp O H) (ht:cf O m S w tm a.tmps) {f:xu} {g:Nat} {first cap:List AV} {args:Array xu} (hf:az tm (aS H f)= .fn (.f g) first cap):
  ∃fi ca:Array ye,a.eval f= .func (.func (O.ah g)) fi ca/\ap O.ah m S w (first++(di tm (gH H args.toList)++cap)) (fi++args.map a.eval++ca).toList:=by
 have rf:=cD hH ht f;rw [hf] at rf;obtain ⟨fi,ca,h1,h2,h3⟩:=rf;refine ⟨fi,ca,h1,?_⟩
 have:=kW h2 (kW (BF hH ht args.toList) h3)
 simp_all
def agZ (hC:mE O self) (hH:fp O H) {o:y5} {c:uG} {f:xu} (ho:o.op= .call c) (im:c.callee= .value f) {g:Nat} {first cap ak:List AV} {bA:Hp} {r:AV}
  (hf:az tm (aS H f)= .fn (.f g) first cap) (hz:cB deep hp (first++(di tm (gH H c.args.toList)++cap))=some (ak,bA)) (hr:bN O.prog O.aT self g ak=some r)
  (hl:da bA Hq) (ht:cf O m S w tm a.tmps) (hh:aV O m S w Hq cH)
  (hn:∀u S' w',aV O m S' w' Hq cH->ai O.ah m S' w' (shut r) u->cm m S w Hq m S' w' Hq cH->next (a.put o.dst u) w'):o.wpIn (WF ro) 0 O.P a w next Q:=by
 obtain ⟨fi,ca,h1,h2⟩:=K3 hH ht (args:=c.args) hf;obtain ⟨h3,h4⟩:=Wj hz hl hh h2;refine KE ho im h1 (hC.pure g ak r hr w S _ (Qj hh) hh.slt h3 h4) ?_;rintro e w' ⟨u,S',rfl,hw,g1,g2,g3,g4⟩;refine ⟨u,rfl,?_⟩;obtain ⟨S2,k1,k2,k3⟩:=Xu g4 m;have hS:∀b,S b->S2 b:=fun b hb=>k1 b (g1 b hb)
 have Jx:∀b,S2 b->S b\/w.heap.size<=b:=fun b hb=>(k2 b hb).elim (g2 b) (fun h=> .inr h.1)
 have hl:∀b,S2 b->b<w'.heap.size:=fun b hb=>(k2 b hb).elim (g3 b) (fun h=>h.2)
 exact hn u S2 w' (Dw hh hw hS Jx hl) k3 (Bs hh hw hS Jx)
def ah7 (hC:mE O self) (hH:fp O H) {o:y5} {c:uG} {f:xu} (ho:o.op= .call c) (im:c.callee= .value f) {g:Nat} {first cap ak:List AV} {bA:Hp} {r:AV}
  (hf:az tm (aS H f)= .fn (.f g) first cap) (hz:cB deep hp (first++(di tm (gH H c.args.toList)++cap))=some (ak,bA)) (hr:bN O.prog O.aT self g ak=some r)
  (hl:da (own bA ct r).2.1 Hq) (gL:(own bA ct r).2.2<=cH) (a6:∀id o,aw hp id=some o->id<ct) (AU:∀id,ct<=id->id<(own bA ct r).2.2->m id=none)
  (ht:cf O m S w tm a.tmps) (hh:aV O m S w Hq cH)
  (hn:∀u m' S' w',aV O m' S' w' Hq cH->dn m m'->(∀id p,m' id=some p->m id=some p\/(ct<=id/\id<(own bA ct r).2.2))->ai O.ah m' S' w' (own bA ct r).1 u->cm m S w Hq m' S' w' Hq cH->next (a.put o.dst u) w'):
  o.wpIn (WF ro) 0 O.P a w next Q:=by
 obtain ⟨fi,ca,h1,h2⟩:=K3 hH ht (args:=c.args) hf;obtain ⟨z1,z2,z3⟩:=Pc (O:=O) hz;have RX:∀id o,aw bA id=some o->id<ct:=fun id o h=>by
  have:=z2 id
  rw [h] at this
  cases hq:aw hp id with
  | none=>rw [hq] at this;cases this
  | some q=>exact a6 id q hq
 have aok:∀id o,aw bA id=some o->aw (own bA ct r).2.1 id=some o:=fun id o h=>by
  cases r with
  | aq vs=>exact Lv RX id o h
  | _=>exact Qi RX id o h
 have mq:da bA Hq:=fun id o h=>hl id o (aok id o h)
 obtain ⟨h3,h4⟩:=Wj hz mq hh h2;refine KE ho im h1 (hC.pure g ak r hr w S _ (Qj hh) hh.slt h3 h4) ?_;rintro e w' ⟨u,S',rfl,hw,g1,g2,g3,g4⟩;refine ⟨u,rfl,?_⟩;have AW:=Dw hh hw g1 g2 g3;have eb:=Bs (base:=cH) hh hw g1 g2;obtain ⟨m',S2,k1,k2,k3,k4,k5,k6⟩:=aoj (lo:=w.heap.size) AW hl gL RX AU g4 hh.fF (fun j q hq=>hh.blt j q hq);refine hn u m' S2 w' k1 k2 (fun id p h=>(k3 id p h).imp (fun h=>h) (fun h=>⟨h.1,h.2.1⟩)) k4 ⟨hw.os,hw.tape,hw.output,hw.size,fun b hb _=>hw.same b hb,fun b hb=>k5 b (g1 b hb),fun b hb=>hw.same b (hh.slt b hb),?_,?_,fun i q _ h=>k2 i q h,eb.loops⟩
 ·grind
 ·rintro b ⟨i,ob,q,q1,q2,q3⟩;rcases k3 i q q2 with h | h
  ·exact .inl ⟨i,ob,q,q1,h,q3⟩
  ·grind
def quiet_step (hC:mE O self) (hH:fp O H) {o:y5} {q:Op} {v:AV} (hk:bB q<=1) (hq:su O.P H q o) (hd:∀c,o.op≠.defer c) (hv:bn O.prog O.aT self tm hp ct q=some (v,an,a7)) (hl:da an Hq) (gL:a7<=cH)
  (a6:∀id o,aw hp id=some o->id<ct) (AU:∀id,ct<=id->id<a7->m id=none) (ht:cf O m S w tm a.tmps) (hh:aV O m S w Hq cH)
  (hn:∀u m' S' w',aV O m' S' w' Hq cH->dn m m'->(∀id p,m' id=some p->m id=some p\/(ct<=id/\id<a7))->ai O.ah m' S' w' v u->cm m S w Hq m' S' w' Hq cH->next (a.put o.dst u) w'):
  o.wpIn (WF ro) 0 O.P a w next Q:=by
 have jn:∃k,q=bl O.P H k o:=by
  rcases hq with h | ⟨c,f,rs,_,_,rfl⟩ | ⟨_,_,_,_,_,_,_,rfl⟩
  ·grind
  ·simp [bB] at hk
  ·simp [bB] at hk
 obtain ⟨k,hq⟩:=jn;have read:∀{v:AV},bw tm hp q=some v->da hp Hq->(∀u m' S' w',aV O m' S' w' Hq cH->dn m m'->(∀id p,m' id=some p->m id=some p\/(ct<=id/\id<a7))->ai O.ah m' S' w' v u->cm m S w Hq m' S' w' Hq cH->next (a.put o.dst u) w')->o.wpIn (WF ro) 0 O.P a w next Q:=by
  intro v hr hl hn;have bY:=ah0 hl hr;rw [hq] at bY;obtain ⟨u,h1,h2⟩:=Y4 hH ht hh bY;exact LO hd h1 (.inl rfl) (hn u m S w hh dn.refl (fun _ _ h=> .inl h) h2 cm.refl)
 have makes:∀{v:AV} {b:Obj},cQ tm hp ct q=some (v,b)->da ((ct,b)::hp) Hq->ct+1<=cH->m ct=none->(∀u m' S' w',aV O m' S' w' Hq cH->dn m m'->(∀id p,m' id=some p->m id=some p\/(ct<=id/\id<ct+1))->ai O.ah m' S' w' v u->cm m S w Hq m' S' w' Hq cH->next (a.put o.dst u) w')->o.wpIn (WF ro) 0 O.P a w next Q:=by
  intro v b hr hl hc hi hn;rw [hq] at hr;have bY:cQ tm Hq ct (bl O.P H k o)=some (v,b):=by rw [<-hr];exact GA (fun _ _=>rfl)
  obtain ⟨u,g,p,h1,h2,h3,h4⟩:=al0 hH ht hh bY;obtain ⟨S',k1,k2,k3⟩:=Ya (i:=ct) (g:=g) (p:=p) hh hi hc h2 (fun o' j9=>by
   obtain ⟨o'',g1,g2⟩:=hl ct b (by rw [gP];simp)
   rw [j9] at g1;injection g1 with g1
   subst g1
   have:=Wg g2 dW (h4 _ (jJ hi) dW).1 h3
   rwa [h2] at this)
  refine LO hd h1 (.inl rfl) (hn u _ S' _ k1 (jJ hi) (fun id q hq=>?_) (lf (fun _ _ h=>h) k2 (fun _ _=>rfl) _ _ (h4 _ (jJ hi) dW).2) (ah6 hh hi h2 k2 k3));by_cases hc:id=ct
  ·grind
  ·rw [dV hc] at hq;exact .inl hq
 have cM:∀{q:Op},(match cQ tm hp ct q with | some (v,b)=>some (v,(ct,b)::hp,ct+1) | none=>(none:gh))=some (v,an,a7)->∃b,cQ tm hp ct q=some (v,b)/\an=(ct,b)::hp/\a7=ct+1:=by
  intro q h
  cases hm:cQ tm hp ct q with
  | none=>simp [hm] at h
  | some r=>
   grind
 have lT:∀{q:Op},(match bw tm hp q with | some v=>some (v,hp,ct) | none=>(none:gh))=some (v,an,a7)->bw tm hp q=some v/\an=hp/\a7=ct:=by
  intro q h
  cases hm:bw tm hp q with
  | none=>simp [hm] at h
  | some r=>
   grind
 have Hk:(∃b,cQ tm hp ct q=some (v,b)/\an=(ct,b)::hp/\a7=ct+1)->o.wpIn (WF ro) 0 O.P a w next Q:=by
  grind
 have aol:(bw tm hp q=some v/\an=hp/\a7=ct)->o.wpIn (WF ro) 0 O.P a w next Q:=by
  grind
 cases q with
 | st _ _ _=>simp [bB] at hk
 | od _ _ _ _=>simp [bB] at hk
 | og _=>simp [bB] at hk
 | dl _ _ _ _=>simp [bB] at hk
 | oh _ _ _=>simp [bB] at hk
 | iB _ _ _=>simp [bB] at hk
 | jl _ _ _ _=>simp [bB] at hk
 | box s x=>exact Hk (cM (by simp only [bn] at hv;exact hv))
 | bH n s z ps=>exact Hk (cM (by simp only [bn] at hv;exact hv))
 | fZ s b z x y=>exact Hk (cM (by simp only [bn] at hv;exact hv))
 | sO=>exact Hk (cM (by simp only [bn] at hv;exact hv))
 | oe x=>exact Hk (cM (by simp only [bn] at hv;exact hv))
 | call md x xs=>
  cases md with
  | heap=>simp [bB] at hk
  | dyn=>simp [bB] at hk
  | pure=>
   simp only [bn,eG] at hv
   split at hv
   ·rename_i g first cap hx
    (try simp only at hv)
    cases hz:cB deep hp (first++(di tm xs++cap)) with
    | none=>simp [hz] at hv
    | some z=>
     obtain ⟨ak,bA⟩:=z;simp only [hz] at hv
     cases hr:bN O.prog O.aT self g ak with
     | none=>simp [hr] at hv
     | some r=>
      simp only [hr,yc,ym] at hv;obtain ⟨rfl,rfl,rfl⟩:=hv;obtain ⟨c,f,ho,im,rfl,rfl⟩:=Lw hq.symm (by rintro rfl;simp [az] at hx);exact agZ hC hH ho im hx hz hr hl ht hh (fun u S' w' h1 h2 h3=>hn u m S' w' h1 dn.refl (fun _ _ h=> .inl h) h2 h3)
   ·simp at hv
   ·cases hv
  | own=>
   simp only [bn,eG] at hv
   split at hv
   ·rename_i g first cap hx
    (try simp only at hv)
    cases hz:cB deep hp (first++(di tm xs++cap)) with
    | none=>simp [hz] at hv
    | some z=>
     obtain ⟨ak,bA⟩:=z;simp only [hz] at hv
     cases hr:bN O.prog O.aT self g ak with
     | none=>simp [hr] at hv
     | some r=>
      simp only [hr,yc] at hv;obtain ⟨c,f,ho,im,rfl,rfl⟩:=Lw hq.symm (by rintro rfl;simp [az] at hx);have e1:v=(own bA ct r).1:=by rw [hv]
      have e2:an=(own bA ct r).2.1:=by rw [hv]
      have e3:a7=(own bA ct r).2.2:=by rw [hv]
      subst e1;subst e2;subst e3;exact ah7 hC hH ho im hx hz hr hl gL a6 AU ht hh hn
   ·simp at hv
   ·cases hv
 | _=>exact aol (lT (by simp only [bn] at hv;exact hv))
end
end
section
open Go
section
variable {O:bq} {H:Hint} {m:Mp} {S:Nat->Prop} {w:yg} {tm:Env} {a:Act} {hp an:Hp} {ct a7:Nat} {self:cF} {ro:Option Nat} {next:Act->yg->Prop} {Q:vR->Act->yg->Prop}
def cm.qg {m':Mp} {S':Nat->Prop} {w':yg} {b b':Nat} (h:cm m S w hp m' S' w' an b) (hb:b'<=b):cm m S w hp m' S' w' an b':=
 ⟨h.os,h.tape,h.output,h.size,h.same,h.sub,h.still,h.new,h.own,fun i q hi hq=>h.old i q (by omega) hq,h.loops⟩
def aom {hp:Hp} {ct:Nat} {r:AV} (a6:∀id o,aw hp id=some o->id<ct):∀id o,aw (own hp ct r).2.1 id=some o->id<(own hp ct r).2.2:=by
 have hL:∀(vs:List AV) (hp:Hp) (ct:Nat),(∀id o,aw hp id=some o->id<ct)->∀id o,aw (jk hp ct vs).2.1 id=some o->id<(jk hp ct vs).2.2:=by
  intro vs
  induction vs with
  | nil=>intro hp ct h id o ho;exact h id o ho
  | cons v r ih=>intro hp ct h id o ho;exact ih _ _ (G7 h) id o ho
 cases r with
 | aq vs=>exact hL vs hp ct a6
 | _=>exact G7 a6
def aon {hp:Hp} {ct:Nat} {r:AV} (a6:∀id o,aw hp id=some o->id<ct):∀id o,aw hp id=some o->aw (own hp ct r).2.1 id=some o:=by
 cases r with
 | aq vs=>exact Lv a6
 | _=>exact Qi a6
def aoo {hp:Hp} {ct:Nat} {r:AV}:ct<=(own hp ct r).2.2:=by
 cases r with
 | aq vs=>exact Lu
 | _=>exact Lt
def ajY {hp:Hp} {ct:Nat} {r:AV}:∀id o,aw (own hp ct r).2.1 id=some o->id<ct->aw hp id=some o:=by
 have h1:∀(hp:Hp) (ct:Nat) (r:AV) id o,aw (eX hp ct r).2.1 id=some o->id<ct->aw hp id=some o:=by
  intro hp ct r id o h hc;cases r<;>simp only [eX] at h<;>try exact h
  rw [gP,yF (by omega)] at h;exact h
 have hL:∀(vs:List AV) (hp:Hp) (ct:Nat) id o,aw (jk hp ct vs).2.1 id=some o->id<ct->aw hp id=some o:=by
  intro vs
  induction vs with
  | nil=>intro hp ct id o ho _;exact ho
  | cons v r ih=>intro hp ct id o ho hc;exact h1 hp ct v id o (ih _ _ id o ho (by have:=Lt (hp:=hp) (ct:=ct) (r:=v);omega)) hc
 cases r with
 | aq vs=>exact hL vs hp ct
 | _=>exact h1 hp ct _
structure ia (hp:Hp) (ct:Nat) (an:Hp) (a7:Nat):Prop where
 le:da hp an
 ot:ct<=a7
 lt:∀id o,aw an id=some o->id<a7
 back:∀id o,aw an id=some o->id<ct->∃o',aw hp id=some o'
def ia.refl (a6:∀id o,aw hp id=some o->id<ct):ia hp ct hp ct:=⟨da.refl,yv _,a6,fun _ o h _=>⟨o,h⟩⟩
def ia.trans {Ie:Hp} {adf:Nat} (h:ia hp ct an a7) (k:ia an a7 Ie adf):ia hp ct Ie adf:=
 ⟨h.le.trans k.le,xj h.ot k.ot,k.lt,fun id o ho hi=>let ⟨o1,h1⟩:=k.back id o ho (Nat.lt_of_lt_of_le hi h.ot);h.back id o1 h1 hi⟩
def Xy {L5 ak:List AV} {bA:Hp} (hz:cB deep hp L5=some (ak,bA)) (a6:∀id o,aw hp id=some o->id<ct):ia hp ct bA ct:=by
 obtain ⟨z1,z2,_⟩:=Pc (O:=⟨default,⟨fun _=>none,fun _=>none⟩,fun _=>0,fun _=>none,fun _=>⟨0,fun _=>none,fun _=>[],fun _=>none,fun _=> .pure,fun _=>[]⟩,default⟩) hz;have hb:∀id o,aw bA id=some o->∃o',aw hp id=some o':=fun id o h=>by
  have:=z2 id
  rw [h] at this
  cases hq:aw hp id with
  | none=>rw [hq] at this;cases this
  | some q=>exact ⟨q,rfl⟩
 exact ⟨z1,yv _,fun id o h=>let ⟨o',h'⟩:=hb id o h;a6 id o' h',fun id o h _=>hb id o h⟩
def ah8 {r:AV} (a6:∀id o,aw hp id=some o->id<ct):ia hp ct (own hp ct r).2.1 (own hp ct r).2.2:=
 ⟨fun id o h=>⟨o,aon a6 id o h,iZ.refl o⟩,aoo,aom a6,fun id o h hi=>⟨o,ajY id o h hi⟩⟩
def Wk {P:aI} {L:Lib} {q:Op} {v:AV} (hk:bB q<=1) (hv:bn P L self tm hp ct q=some (v,an,a7)) (a6:∀id o,aw hp id=some o->id<ct):ia hp ct an a7:=by
 have cM:∀{q:Op},(match cQ tm hp ct q with | some (v,b)=>some (v,(ct,b)::hp,ct+1) | none=>(none:gh))=some (v,an,a7)->ia hp ct an a7:=by
  intro q h
  cases hm:cQ tm hp ct q with
  | none=>simp [hm] at h
  | some r=>
   obtain ⟨v1,b⟩:=r;simp only [hm,yc,ym] at h;obtain ⟨rfl,rfl,rfl⟩:=h;refine ⟨fun id o ho=>⟨o,?_,iZ.refl o⟩,by omega,fun id o ho=>?_,fun id o ho hi=>?_⟩
   ·rw [gP,yF (by have:=a6 id o ho;omega)];exact ho
   ·rw [gP] at ho
    grind
   ·rw [gP,yF (by omega)] at ho;exact ⟨o,ho⟩
 have lT:∀{q:Op},(match bw tm hp q with | some v=>some (v,hp,ct) | none=>(none:gh))=some (v,an,a7)->ia hp ct an a7:=by
  intro q h
  cases hm:bw tm hp q with
  | none=>simp [hm] at h
  | some r=>
   simp only [hm,yc,ym] at h;obtain ⟨rfl,rfl,rfl⟩:=h;exact ia.refl a6
 cases bV:q with
 | st _ _ _=>simp [bV,bB] at hk
 | od _ _ _ _=>simp [bV,bB] at hk
 | og _=>simp [bV,bB] at hk
 | dl _ _ _ _=>simp [bV,bB] at hk
 | oh _ _ _=>simp [bV,bB] at hk
 | iB _ _ _=>simp [bV,bB] at hk
 | jl _ _ _ _=>simp [bV,bB] at hk
 | box s x=>exact cM (q:=q) (by rw [bV] at hv ⊢;simp only [bn] at hv;exact hv)
 | bH n s z ps=>exact cM (q:=q) (by rw [bV] at hv ⊢;simp only [bn] at hv;exact hv)
 | fZ s b z x y=>exact cM (q:=q) (by rw [bV] at hv ⊢;simp only [bn] at hv;exact hv)
 | sO=>exact cM (q:=q) (by rw [bV] at hv ⊢;simp only [bn] at hv;exact hv)
 | oe x=>exact cM (q:=q) (by rw [bV] at hv ⊢;simp only [bn] at hv;exact hv)
 | call md x xs=>
  subst bV;simp only [bn,eG] at hv
  split at hv
  ·rename_i g first cap hx
   cases md with
   | heap=>simp [bB] at hk
   | dyn=>simp [bB] at hk
   | pure=>
    simp only at hv
    cases hz:cB deep hp (first++(di tm xs++cap)) with
    | none=>simp [hz] at hv
    | some z=>
     obtain ⟨ak,bA⟩:=z;simp only [hz] at hv
     cases hr:bN P L self g ak with
     | none=>simp [hr] at hv
     | some r=>
      simp only [hr,yc,ym] at hv;obtain ⟨rfl,rfl,rfl⟩:=hv;exact Xy hz a6
   | own=>
    simp only at hv
    cases hz:cB deep hp (first++(di tm xs++cap)) with
    | none=>simp [hz] at hv
    | some z=>
     obtain ⟨ak,bA⟩:=z;simp only [hz] at hv
     cases hr:bN P L self g ak with
     | none=>simp [hr] at hv
     | some r=>
      simp only [hr,yc] at hv;have e2:an=(own bA ct r).2.1:=by rw [hv]
      have e3:a7=(own bA ct r).2.2:=by rw [hv]
      subst e2;subst e3;have g1:=Xy hz a6;exact g1.trans (ah8 g1.lt)
  ·cases md with
   | heap=>simp [bB] at hk
   | dyn=>simp [bB] at hk
   | _=>simp at hv
  ·cases hv
 | _=>exact lT (q:=q) (by rw [bV] at hv ⊢;simp only [bn] at hv;exact hv)
def K4 (hh:aV O m S w hp ct) (hg:ia hp ct an a7):∃S',aV O m S' w an a7/\(∀b,S b->S' b)/\(∀b,S' b->S b\/dR m hp b)/\∀base,cm m S w hp m S' w an base:=by
 have hd:∀id o p,aw an id=some o->m id=some p->∃o',aw hp id=some o':=fun id o p h hm=>hg.back id o h (hh.lt id p hm)
 obtain ⟨S',g1,g2,g3⟩:=Y5 hh hg.le hd hg.ot hg.lt;refine ⟨S',g1,g2,g3,fun base=>⟨rfl,rfl,rfl,yv _,fun _ _ _=>rfl,g2,fun _ _=>rfl,fun b hb=>(g3 b hb).imp (fun h=>h) .inl,?_,fun _ _ _ h=>h,fun _ r h=>⟨r,h⟩⟩⟩;rintro b ⟨i,o,p,h1,h2,h3⟩;obtain ⟨o',h4⟩:=hd i o p h1 h2;exact .inl ⟨i,o',p,h4,h2,h3⟩
def ajZ {q:Op} {v:AV} (hv:cW tm hp ct q=some (v,an,a7)):ct<=a7:=by
 cases q<;>simp only [cW,reduceCtorEq] at hv
 all_goals
  grind
def PS {P:y9} {H:Hint} {o:y5} {rs:List (Nat×Bool×Nat)} {x:X} {xs:List X} (hq:su P H (.iB rs x xs) o):∃c f,o.op= .call c/\c.callee= .value f/\x=aS H f/\xs=gH H c.args.toList:=by
 rcases hq with ⟨k,hk⟩ | ⟨c,f,rs',h1,h2,h3⟩ | ⟨_,_,_,_,_,_,_,h3⟩
 ·cases ho:o.op with
  | call c=>
   obtain ⟨callee,args,ts⟩:=c;simp only [bl,ho] at hk
   split at hk
   ·grind
   ·repeat' split at hk
    all_goals first
     | (cases hk;done)
     | (simp only [bad] at hk;cases hk;done)
     | (revert hk;generalize yt _ _=bb;intro hk;cases bb<;>simp [bad] at hk)
   ·simp only [bad] at hk;cases hk
  | binOp op t x' y ty=>
   cases op<;>simp only [bl,ho,pQ,rL] at hk
   case eql=>
         repeat' split at hk
         all_goals first
          | (cases hk;done)
          | (simp only [bad] at hk;cases hk;done)
          | (cases cO:(P.stoodInHeld t||P.eqGuardType P.depth t)<;>rw [cO] at hk<;>simp [bad] at hk)
   case neq=>
         repeat' split at hk
         all_goals first
          | (cases hk;done)
          | (simp only [bad] at hk;cases hk;done)
          | (cases cO:(P.stoodInHeld t||P.eqGuardType P.depth t)<;>rw [cO] at hk<;>simp [bad] at hk)
   all_goals cases hk
  | buildSlice t n parts=>
   simp only [bl,ho] at hk
   repeat' split at hk
   all_goals first
    | (cases hk;done)
    | (simp only [bad] at hk;cases hk;done)
    | (revert hk;generalize yB _ _=bb;intro hk;cases bb<;>simp [bad] at hk)
  | makeMap t r=>
   cases r<;>simp only [bl,ho] at hk
   ·repeat' split at hk
    all_goals first
     | (cases hk;done)
     | (simp only [bad] at hk;cases hk;done)
   ·simp only [bad] at hk;cases hk
  | next x' b=>
   cases b<;>simp only [bl,ho] at hk
   ·simp only [bad] at hk;cases hk
   ·cases hk
  | _=>
   simp only [bl,ho] at hk
   (repeat' split at hk)
   all_goals first
    | contradiction
    | (cases hk;done)
    | (simp only [bad] at hk;cases hk;done)
 ·simp only [Op.iB.injEq] at h3;exact ⟨c,f,h1,h2,h3.2.1,h3.2.2⟩
 ·cases h3
def ag0 {P:y9} {H:Hint} {o:y5} {k:Nat} {rs:List (Nat×Bool×Nat)} {sz:Nat} {x y:X} (hk:Op.jl rs sz x y=bl P H k o):False:=by
 cases ho:o.op with
 | call c=>
  obtain ⟨callee,args,ts⟩:=c;simp only [bl,ho] at hk
  split at hk
  ·grind
  ·repeat' split at hk
   all_goals first
    | (cases hk;done)
    | (simp only [bad] at hk;cases hk;done)
    | (revert hk;generalize yt _ _=bb;intro hk;cases bb<;>simp [bad] at hk)
  ·simp only [bad] at hk;cases hk
 | binOp op t x' y ty=>
  cases op<;>simp only [bl,ho,pQ,rL] at hk
  case eql=>
        repeat' split at hk
        all_goals first
         | (cases hk;done)
         | (simp only [bad] at hk;cases hk;done)
         | (cases cO:(P.stoodInHeld t||P.eqGuardType P.depth t)<;>rw [cO] at hk<;>simp [bad] at hk)
  case neq=>
        repeat' split at hk
        all_goals first
         | (cases hk;done)
         | (simp only [bad] at hk;cases hk;done)
         | (cases cO:(P.stoodInHeld t||P.eqGuardType P.depth t)<;>rw [cO] at hk<;>simp [bad] at hk)
  all_goals cases hk
 | buildSlice t n parts=>
  simp only [bl,ho] at hk
  repeat' split at hk
  all_goals first
   | (cases hk;done)
   | (simp only [bad] at hk;cases hk;done)
   | (revert hk;generalize yB _ _=bb;intro hk;cases bb<;>simp [bad] at hk)
 | makeMap t r=>
  cases r<;>simp only [bl,ho] at hk
  ·repeat' split at hk
   all_goals first
    | (cases hk;done)
    | (simp only [bad] at hk;cases hk;done)
  ·simp only [bad] at hk;cases hk
 | next x' b=>
  cases b<;>simp only [bl,ho] at hk
  ·simp only [bad] at hk;cases hk
  ·cases hk
 | _=>
  simp only [bl,ho] at hk
  (repeat' split at hk)
  all_goals first
   | contradiction
   | (cases hk;done)
   | (simp only [bad] at hk;cases hk;done)
def aqR {P:y9} {H:Hint} {o:y5} {sz:Nat} {x y:X} (hq:su P H (.st sz x y) o):∃t x' y',o.op= .store t x' y'/\cL P t=some sz/\x=aS H x'/\y=aS H y':=by
 obtain ⟨k,hk⟩:∃k,Op.st sz x y=bl P H k o:=by
  rcases hq with h | ⟨_,_,_,_,_,h⟩ | ⟨_,_,_,_,_,_,_,h⟩
  ·grind
  ·grind
  ·cases h
 cases ho:o.op with
 | call c=>
  obtain ⟨callee,args,ts⟩:=c;simp only [bl,ho] at hk
  split at hk
  ·grind
  ·repeat' split at hk
   all_goals first
    | (cases hk;done)
    | (simp only [bad] at hk;cases hk;done)
    | (revert hk;generalize yt _ _=bb;intro hk;cases bb<;>simp [bad] at hk)
  ·simp only [bad] at hk;cases hk
 | binOp op t x' y ty=>
  cases op<;>simp only [bl,ho,pQ,rL] at hk
  case eql=>
        repeat' split at hk
        all_goals first
         | (cases hk;done)
         | (simp only [bad] at hk;cases hk;done)
         | (cases cO:(P.stoodInHeld t||P.eqGuardType P.depth t)<;>rw [cO] at hk<;>simp [bad] at hk)
  case neq=>
        repeat' split at hk
        all_goals first
         | (cases hk;done)
         | (simp only [bad] at hk;cases hk;done)
         | (cases cO:(P.stoodInHeld t||P.eqGuardType P.depth t)<;>rw [cO] at hk<;>simp [bad] at hk)
  all_goals cases hk
 | buildSlice t n parts=>
  simp only [bl,ho] at hk
  repeat' split at hk
  all_goals first
   | (cases hk;done)
   | (simp only [bad] at hk;cases hk;done)
   | (revert hk;generalize yB _ _=bb;intro hk;cases bb<;>simp [bad] at hk)
 | makeMap t r=>
  cases r<;>simp only [bl,ho] at hk
  ·repeat' split at hk
   all_goals first
    | (cases hk;done)
    | (simp only [bad] at hk;cases hk;done)
  ·simp only [bad] at hk;cases hk
 | next x' b=>
  cases b<;>simp only [bl,ho] at hk
  ·simp only [bad] at hk;cases hk
  ·cases hk
 | store t x' y'=>
  simp only [bl,ho] at hk
  split at hk
  ·rename_i s hs;simp only [Op.st.injEq] at hk;obtain ⟨rfl,rfl,rfl⟩:=hk;exact ⟨t,x',y',rfl,hs,rfl,rfl⟩
  ·simp only [bad] at hk;cases hk
 | _=>
  simp only [bl,ho] at hk
  (repeat' split at hk)
  all_goals first
   | contradiction
   | (cases hk;done)
   | (simp only [bad] at hk;cases hk;done)
def ZY {P:y9} {H:Hint} {o:y5} {rs:List (Nat×Bool×Nat)} {sz:Nat} {x y:X} (hq:su P H (.jl rs sz x y) o):∃t x' y',o.op= .store t x' y'/\cL P t=some sz/\x=aS H x'/\y=aS H y':=by
 rcases hq with ⟨k,hk⟩ | ⟨_,_,_,_,_,h3⟩ | ⟨t,x',y',TW,rs',h1,h2,h3⟩
 ·exact (ag0 hk).elim
 ·grind
 ·grind
def ag1 {P:y9} {H:Hint} {q:Op} {o:y5} (hq:su P H q o):su P H (mh q) o:=by
 cases h:q with
 | iB rs f xs=>
  subst h;obtain ⟨c,f',g1,g2,g3,g4⟩:=PS hq;exact .inr (.inl ⟨c,f',[],g1,g2,by rw [g3,g4];rfl⟩)
 | jl rs sz x y=>
  subst h;obtain ⟨t,x',y',g1,g2,g3,g4⟩:=ZY hq;refine .inl ⟨0,?_⟩;simp only [mh,bl,g1,g2,g3,g4]
 | _=>subst h;exact hq
def Yj (hC:mE O self) (hH:fp O H) {o:y5} {q:Op} {v:AV} (hq:su O.P H q o) (hd:∀c,o.op≠.defer c) (hv:bn O.prog O.aT self tm hp ct q=some (v,an,a7))
  (ht:cf O m S w tm a.tmps) (hh:aV O m S w hp ct)
  (hn:∀u m' S' w',aV O m' S' w' an a7->ct<=a7->ai O.ah m' S' w' v u->cm m S w hp m' S' w' an ct->next (a.put o.dst u) w'):o.wpIn (WF ro) 0 O.P a w next Q:=by
 have quiet:bB q<=1->o.wpIn (WF ro) 0 O.P a w next Q:=by
  intro hk;have hg:=Wk hk hv hh.a6;obtain ⟨S1,g1,g2,g3,g4⟩:=K4 hh hg;refine quiet_step hC hH hk hq hd hv da.refl (yv _) hh.a6 (fun id h1 h2=>?_) (zC (fun _ _ h=>h) g2 (fun _ _=>rfl) ht) g1 (fun u m' S' w' k1 k2 k3 k4 k5=>hn u m' S' w' k1 hg.ot k4 ((g4 ct).trans (k5.qg hg.ot)))
  cases hm:m id with
  | none=>rfl
  | some p=>have:=hh.lt id p hm;omega
 have ZZ:∀{q':Op},(∃k,q'=bl O.P H k o)->cW tm hp ct q'=some (v,an,a7)->o.wpIn (WF ro) 0 O.P a w next Q:=by
  intro q' jn hw;obtain ⟨k,rfl⟩:=jn;obtain ⟨n,u,w',m',S',h1,h2,h3,h4,h5,h6⟩:=al5 hH ht hh hw;exact LO hd h1 h2 (hn u m' S' w' h3 (ajZ hw) h4 h6)
 have write:cW tm hp ct q=some (v,an,a7)->o.wpIn (WF ro) 0 O.P a w next Q:=by
  intro hw;refine ZZ ?_ hw;rcases hq with h | ⟨c,f,rs,_,_,rfl⟩ | ⟨_,_,_,_,_,_,_,rfl⟩
  ·exact h
  ·simp [cW] at hw
  ·simp [cW] at hw
 have heap:∀{c:uG} {f:xu} {g:Nat} {first cap:List AV},o.op= .call c->c.callee= .value f->az tm (aS H f)= .fn (.f g) first cap->
   iA O.prog O.aT self hp ct g (first++(di tm (gH H c.args.toList)++cap))=some (v,an,a7)->o.wpIn (WF ro) 0 O.P a w next Q:=by
  intro c f g first cap ho im hx he;obtain ⟨fi,ca,h1,h2⟩:=K3 hH ht (args:=c.args) hx;refine KE ho im h1 (hC.heap _ _ _ _ _ _ _ he m S w _ hh h2) ?_;rintro e w' ⟨u,m',S',rfl,k1,k2,k3,k4⟩;exact ⟨u,rfl,hn u m' S' w' k1 k2 k3 k4⟩
 have round:∀{c:uG} {f:xu} {l:Nat} {x y:List AV},o.op= .call c->c.callee= .value f->az tm (aS H f)= .fn (.y l) x y->
   mD self hp ct l (di tm (gH H c.args.toList))=some (v,an,a7)->o.wpIn (WF ro) 0 O.P a w next Q:=by
  intro c f l x y ho im hx he;have rf:=cD hH ht f;rw [hx] at rf;simp only [ai] at rf;obtain ⟨p,hm,hf⟩:=rf;have gE:=BF hH ht c.args.toList;obtain ⟨g,tmps,cK,body,h1,h2⟩:=hC.round _ _ _ _ _ _ _ he m S w (c.args.map a.eval) p hh hm (by simpa using gE);refine ajX ho im hf h1 h2 ?_;rintro e w' ⟨u,m',S',rfl,k1,k2,k3,k4⟩;exact ⟨u,rfl,hn u m' S' w' k1 k2 k3 k4⟩
 have dyn:∀{c:uG} {f:xu},o.op= .call c->c.callee= .value f->eG O.prog O.aT self hp ct .dyn (az tm (aS H f)) (di tm (gH H c.args.toList))=some (v,an,a7)->o.wpIn (WF ro) 0 O.P a w next Q:=by
  intro c f ho im he;unfold eG at he
  split at he
  ·rename_i g first cap hx
   (try simp only at he)
   cases hp0:aK (first++(di tm (gH H c.args.toList)++cap)) with
   | true=>
    rw [hp0] at he;simp only [yy] at he
    cases hr:bN O.prog O.aT self g (first++(di tm (gH H c.args.toList)++cap)) with
    | none=>simp [hr] at he
    | some r=>
     simp only [hr,yc,ym] at he;obtain ⟨rfl,rfl,rfl⟩:=he;obtain ⟨fi,ca,h1,h2⟩:=K3 hH ht (args:=c.args) hx;refine KE ho im h1 (hC.pure g _ r hr w S _ (Qj hh) hh.slt (rE (fun _ h=>h) (fun _ _=>rfl) _ _ hp0 h2) hp0) ?_;rintro e w' ⟨u,S',rfl,hw,g1,g2,g3,g4⟩;obtain ⟨S2,k1,k2,k3⟩:=Xu g4 m;have hS:∀b,S b->S2 b:=fun b hb=>k1 b (g1 b hb)
     have Jx:∀b,S2 b->S b\/w.heap.size<=b:=fun b hb=>(k2 b hb).elim (g2 b) (fun h=> .inr h.1)
     have hl:∀b,S2 b->b<w'.heap.size:=fun b hb=>(k2 b hb).elim (g3 b) (fun h=>h.2)
     exact ⟨u,rfl,hn u m S2 w' (Dw hh hw hS Jx hl) (yv _) k3 (Bs hh hw hS Jx)⟩
   | false=>
    rw [hp0] at he;simp only [yM] at he;exact heap ho im hx he
  ·rename_i l x y hx;exact round ho im hx he
  ·cases he
 cases bV:q with
 | iB rs x xs=>
  subst bV;simp only [bn] at hv;have key:=PS hq;obtain ⟨c,f,ho,im,rfl,rfl⟩:=key
  cases hc:eG O.prog O.aT self hp ct .dyn (az tm (aS H f)) (di tm (gH H c.args.toList)) with
  | none=>simp [hc] at hv
  | some r=>
   obtain ⟨v1,bA,qV⟩:=r;simp only [hc] at hv
   cases hs:zL tm hp bA rs with
   | false=>rw [hs] at hv;cases hv
   | true=>
    rw [hs] at hv;simp only [yy,yc,ym] at hv;obtain ⟨rfl,rfl,rfl⟩:=hv;exact dyn ho im hc
 | call md x xs=>
  subst bV;have jn:∃k,Op.call md x xs=bl O.P H k o:=by
   rcases hq with h | ⟨c,f,rs,_,_,h⟩ | ⟨_,_,_,_,_,_,_,h⟩
   ·exact h
   ·cases h
   ·cases h
  obtain ⟨k,hk⟩:=jn
  cases md with
  | pure=>exact quiet (by simp [bB])
  | own=>exact quiet (by simp [bB])
  | heap=>
   simp only [bn] at hv;obtain ⟨c,f,ho,im,rfl,rfl⟩:=Lw hk.symm (by rintro rfl;simp [az,eG] at hv);unfold eG at hv
   split at hv
   ·rename_i g first cap hx;exact heap ho im hx hv
   ·rename_i l x y hx;exact round ho im hx hv
   ·cases hv
  | dyn=>
   simp only [bn] at hv;obtain ⟨c,f,ho,im,rfl,rfl⟩:=Lw hk.symm (by rintro rfl;simp [az,eG] at hv);exact dyn ho im hv
 | jl rs s x y=>
  subst bV;obtain ⟨t,x',y',g1,g2,g3,g4⟩:=ZY hq;simp only [bn] at hv
  split at hv
  ·rename_i id off hx
   cases hf:nL tm id rs with
   | false=>rw [hf] at hv;cases hv
   | true=>
    rw [hf] at hv;simp only [yy] at hv
    exact ZZ (q':= .st s x y) ⟨0,by simp only [bl,g1,g2,g3,g4]⟩ hv
  ·cases hv
 | st s x y=>subst bV;exact write (by simpa only [bn] using hv)
 | od kk x y z=>subst bV;exact write (by simpa only [bn] using hv)
 | og x=>subst bV;exact write (by simpa only [bn] using hv)
 | dl s b x y=>subst bV;exact write (by simpa only [bn] using hv)
 | oh s x y=>subst bV;exact write (by simpa only [bn] using hv)
 | dO k x lo hi=>subst bV;exact quiet (by cases k<;>simp [bB])
 | len k x=>subst bV;exact quiet (by rcases k with _ | _ | k<;>simp [bB])
 | _=>subst bV;exact quiet (by simp [bB])
end
end
section
open Go
def nS (tm:Env) (g:Option (Nat×Bool)):Option Bool:=
 match g with
 | none=>some true
 | some (t,b)=>match aj tm t with | .bool c=>some (c==b) | .aq []=>some false | _=>none
def eJ (P:aI) (L:Lib) (self:cF) (tm:Env) (hp:Hp) (ct:Nat) (r:bg):gh:=
 match nS tm r.guard with
 | some true=>bn P L self tm hp ct r.op
 | some false=>some (.aq [],hp,ct)
 | none=>none
def WM {P:aI} {L:Lib} {self:cF} {r:bg} {rs:List bg} {s:St}:
  dw P L self (r::rs) s=match eJ P L self s.tm s.hp s.ct r with | some (v,hp,ct)=>dw P L self rs {s with tm:=put r.dst v s.tm,hp:=hp,ct:=ct} | none=>none:=by
 obtain ⟨d,g,o⟩:=r;simp only [dw,eJ]
 cases g with
 | none=>rfl
 | some q=>
  obtain ⟨t,b⟩:=q;simp only [nS];generalize aj s.tm t=x
  cases x with
  | bool c=>
   simp only;cases (c==b)<;>rfl
  | aq vs=>cases vs<;>rfl
  | _=>rfl
def Zf (ops:Array y5) (g:Option (Nat×Bool)) (g':Option (Nat×Bool)):Prop:=
 (g=none/\g'=none)\/∃t b j,g=some (t,b)/\g'=some (j,b)/\(ops[j]?).bind (·.dst)=some t
structure L6 (P:y9) (H:Hint) (ops:Array y5) (r:bg) (o:y5):Prop where
 op:su P H r.op o
 dst:r.dst=o.dst
 ok:HV H o.dst=true
 guard:Zf ops r.guard o.guard
def mc (P:y9) (H:Hint) (ops:Array y5):List bg->List y5->Prop
 | [],[]=>True
 | r::rs,o::l=>(L6 P H ops r o\/(r.guard=none/\r.op=bad))/\mc P H ops rs l
 | _,_=>False
def WO {P:y9} {H:Hint} {ops:Array y5}:∀(l:List y5) (k:Nat),mc P H ops (Bx P H ops l k).1 l
 | [],k=>by simp [Bx,mc]
 | o::l,k=>by
  have ih:=WO (P:=P) (H:=H) (ops:=ops) l (k+(bif QH o then 1 else 0));simp only [Bx];generalize hq:Bx P H ops l (k+(bif QH o then 1 else 0))=q at ih;obtain ⟨l',k'⟩:=q;simp only;have RY:mc P H ops (⟨o.dst,none,bad⟩::l') (o::l):=⟨.inr ⟨rfl,rfl⟩,ih⟩
  cases hg:o.guard with
  | none=>
   simp only
   cases hd:HV H o.dst with
   | false=>exact RY
   | true=>exact ⟨.inl ⟨.inl ⟨k,rfl⟩,rfl,hd,.inl ⟨rfl,hg⟩⟩,ih⟩
  | some p=>
   obtain ⟨j,b⟩:=p;simp only
   cases ht:(ops[j]?).bind (·.dst) with
   | none=>exact RY
   | some t=>
    simp only
    cases hd:HV H o.dst with
    | false=>exact RY
    | true=>exact ⟨.inl ⟨.inl ⟨k,rfl⟩,rfl,hd,.inr ⟨t,b,j,rfl,hg,ht⟩⟩,ih⟩
section
variable {O:bq} {H:Hint} {m:Mp} {S:Nat->Prop} {w:yg} {tm:Env} {a:Act} {hp an:Hp} {ct a7:Nat} {self:cF} {ro:Option Nat} {Q:vR->Act->yg->Prop} {ops:Array y5}
def PT {d:Option Nat} {v:AV} {tm:Env} {t:Nat}:aj (put d v tm) t=if d=some t then v else aj tm t:=by
 cases d with
 | none=>simp [put]
 | some i=>
  simp only [put,aj];by_cases h:i=t
  ·subst h;simp
  ·have:yt i t=false:=by
    cases hq:yt i t with
    | false=>rfl
    | true=>exact absurd (yk hq) h
   simp [this,h]
def K5 (a:Act) (d:Option Nat) (u:ye):(a.put d u).tmps.size=a.tmps.size:=by
 cases d with
 | none=>rfl
 | some i=>simp [Act.put]
def Pg (a:Act) (d:Option Nat) (u:ye):(a.put d u).defers=a.defers:=by
 cases d with
 | none=>rfl
 | some i=>rfl
def PU {a:Act} {d:Option Nat} {u:ye} {t:Nat} (hd:∀i,d=some i->i<a.tmps.size):(a.put d u).tmps.getD t undef=if d=some t then u else a.tmps.getD t undef:=by
 cases d with
 | none=>simp [Act.put]
 | some i=>
  have hi:=hd i rfl;by_cases h:i=t
  ·subst h;simp [Act.put,hi]
  ·simp only [Act.put,yc,h,y8];simp [Array.getElem?_setIfInBounds_ne h]
def Yk {n:Nat} {d:Option Nat} (h:HV H d=true) (hn:H.n<=n):∀i,d=some i->i<n:=by
 rintro i rfl
 have:=rN.1 h
 omega
def PV {d:Option Nat} {v:AV} {u:ye} (ht:cf O m S w tm a.tmps) (hd:∀i,d=some i->i<a.tmps.size) (hv:ai O.ah m S w v u):cf O m S w (put d v tm) (a.put d u).tmps:=fun t=>by
 rw [PT,PU hd]
 split
 ·exact hv
 ·exact ht t
def Xz {o:y5} {g:Option (Nat×Bool)} {b:Bool} (hg:Zf ops g o.guard) (ht:∀t,t∈Rg g->ai O.ah m S w (aj tm t) (a.tmps.getD t undef)) (hw:nS tm g=some b):Region.wanted o (yielded ops a.tmps)=b:=by
 rcases hg with ⟨rfl,h2⟩ | ⟨t,c,j,rfl,h2,h3⟩
 ·simp only [nS,yc] at hw;subst hw;simp [Region.wanted,h2]
 ·simp only [nS] at hw;have h4:=ht t (by simp [Rg]);simp only [Region.wanted,h2]
  split at hw
  ·rename_i d hd;rw [hd] at h4;simp only [ai] at h4;simp only [yc] at hw
   have:yielded ops a.tmps j=some d:=by
    simp only [yielded,h3,xI];have h5:a.tmps[t]? =some (.bool d):=by
     simp only [wM] at h4
     cases hq:a.tmps[t]? with
     | none=>rw [hq] at h4;simp [undef] at h4
     | some x=>rw [hq] at h4;simp at h4;rw [h4]
    rw [h5]
   rw [this,<-hw];cases d<;>cases c<;>rfl
  ·rename_i hd;rw [hd] at h4;simp only [ai,ap] at h4;obtain ⟨xs,h4,h5⟩:=h4;simp only [yc] at hw;subst hw
   have:yielded ops a.tmps j=none:=by
    simp only [yielded,h3,xI];simp only [wM] at h4
    cases hq:a.tmps[t]? with
    | none=>rfl
    | some x=>rw [hq] at h4;simp at h4;rw [h4]
   rw [this];rfl
  ·cases hw
def Wl {o:y5} {q:Op} (hq:su O.P H q o) {r:AV×Hp×Nat} (hv:bn O.prog O.aT self tm hp ct q=some r):∀c,o.op≠.defer c:=by
 rcases hq with ⟨k,rfl⟩ | ⟨c,f,rs,h1,_,_⟩ | ⟨_,_,_,_,_,h1,_,_⟩
 ·exact agY hv
 ·intro c' h;rw [h1] at h;cases h
 ·intro c' h;rw [h1] at h;cases h
def al7 (hC:mE O self) (hH:fp O H) {i:Nat} {r:bg} {o:y5} {v:AV} (hi:ops[i]? =some o) (hr:L6 O.P H ops r o\/(r.guard=none/\r.op=bad)) (hv:eJ O.prog O.aT self tm hp ct r=some (v,an,a7))
  (ht:cf O m S w tm a.tmps) (hh:aV O m S w hp ct) (hn:H.n<=a.tmps.size) {K:Act->yg->Prop}
  (hK:∀u m' S' w',aV O m' S' w' an a7->ct<=a7->cf O m' S' w' (put r.dst v tm) (a.put o.dst u).tmps->cm m S w hp m' S' w' an ct->K (a.put o.dst u) w'):wpOpIn (WF ro) 0 O.P ops Q i K a w:=by
 rcases hr with hr | ⟨h1,h2⟩
 case inr=>
  simp only [eJ,h1,nS,h2,bad,bn,eG,az] at hv;cases hv
 unfold wpOpIn;simp only [hi];unfold eJ at hv
 cases hw:nS tm r.guard with
 | none=>simp [hw] at hv
 | some b=>
  have TX:=Xz hr.guard (fun t _=>ht t) hw;have hd:=Yk hr.ok hn;rw [TX]
  cases b with
  | true=>
   simp only [hw] at hv;simp only [xh];refine Yj hC hH hr.op (Wl hr.op hv) hv ht hh (fun u m' S' w' k1 k2 k3 k4=>hK u m' S' w' k1 k2 ?_ k4);rw [hr.dst];exact PV (zC (fun id p h=>k4.old id p (hh.lt id p h) h) k4.sub (fun b hb=>k4.still b hb) ht) hd k3
  | false=>
   simp only [hw,yc,ym] at hv;obtain ⟨rfl,rfl,rfl⟩:=hv;simp only [yC,y8];refine ⟨fun _ _=>trivial,hK undef m S w hh (yv _) ?_ cm.refl⟩;rw [hr.dst];exact PV ht hd (by simp [ai,ap,undef])
def Zg (hC:mE O self) (hH:fp O H):∀(l:List y5) (rs:List bg) (i:Nat) (s s':St) (a:Act) (m:Mp) (S:Nat->Prop) (w:yg),(∀j,l[j]? =ops[i+j]?)->mc O.P H ops rs l->
  dw O.prog O.aT self rs s=some s'->cf O m S w s.tm a.tmps->aV O m S w s.hp s.ct->H.n<=a.tmps.size->
  (∀a' m' S' w',aV O m' S' w' s'.hp s'.ct->s.ct<=s'.ct->cf O m' S' w' s'.tm a'.tmps->cm m S w s.hp m' S' w' s'.hp s.ct->a'.tmps.size=a.tmps.size->a'.defers=a.defers->s'.base=s.base->Q .normal a' w')->
  wpOpsIn (WF ro) 0 O.P ops Q (List.range' i l.length) a w
 | [],rs,i,s,s',a,m,S,w,hl,hr,hv,ht,hh,hn,hQ=>by
  cases rs with
  | cons _ _=>simp [mc] at hr
  | nil=>
   simp only [dw,yc] at hv;subst hv;simp only [yA,List.range'_zero,wpOpsIn];exact hQ a m S w hh (yv _) ht cm.refl rfl rfl rfl
 | o::l,rs,i,s,s',a,m,S,w,hl,hr,hv,ht,hh,hn,hQ=>by
  cases rs with
  | nil=>simp [mc] at hr
  | cons r rs=>
   simp only [mc] at hr;rw [WM] at hv
   cases h1:eJ O.prog O.aT self s.tm s.hp s.ct r with
   | none=>simp [h1] at hv
   | some q=>
    obtain ⟨v,bA,qV⟩:=q;simp only [h1] at hv;have hi:ops[i]? =some o:=by have:=hl 0;simpa using this.symm
    rw [yu,List.range'_succ,wpOpsIn_cons];refine al7 hC hH hi hr.1 h1 ht hh hn (fun u m1 S1 w1 k1 k2 k3 k4=>?_)
    refine Zg hC hH l rs (i+1) {s with tm:=put r.dst v s.tm,hp:=bA,ct:=qV} s' _ m1 S1 w1 (fun j=>?_) hr.2 hv k3 k1 (by rw [K5];exact hn) (fun a' m' S' w' g1 g2 g3 g4 g5 g6 g7=>?_)
    ·have:=hl (j+1)
     rw [List.getElem?_cons_succ] at this;rw [this];congr 1;omega
    ·exact hQ a' m' S' w' g1 (xj k2 g2) g3 (k4.trans (g4.qg k2)) (by rw [g5,K5]) (by rw [g6,Pg]) g7
end
end
section
open Go
section
variable {ops:Array y5}
def O4 {acc:List Nat} {i:Nat}:∀{es:List Edge},ua (zQ acc es) i=true->∃e,e∈es/\Region.binds .any e=true/\(i=e.on\/ua (acc.getD e.on 0) i=true)
 | [],h=>by simp [zQ] at h
 | e::r,h=>by
  simp only [zQ] at h
  cases hb:Region.binds .any e with
  | false=>
   rw [hb] at h;obtain ⟨e',h1,h2⟩:=O4 h
   grind
  | true=>
   rw [hb] at h;simp only [yy,Nat.testBit_or,uM] at h;rcases h with (h | h) | h
   ·grind
   ·grind
   ·obtain ⟨e',h1,h2⟩:=O4 h
    grind
def XA {l:List y5} {acc:List Nat} {j:Nat} (hj:j<acc.length):(lB acc l)[j]? =acc[j]? :=by
 induction l generalizing acc with
 | nil=>rfl
 | cons o l ih=>
  simp only [lB]
  grind
def ag2 {l:List y5} {acc:List Nat} {j:Nat} {o:y5} (h:l[j]? =some o):∃Ce:List Nat,(lB acc l)[acc.length+j]? =some (zQ Ce o.after.toList)/\Ce.length=acc.length+j/\∀k,k<Ce.length->Ce[k]? =(lB acc l)[k]? :=by
 induction l generalizing acc j with
 | nil=>simp at h
 | cons x l ih=>
  cases j with
  | zero=>
   simp only [vn,yc] at h;subst h;refine ⟨acc,?_,by simp,fun k hk=>?_⟩
   ·simp only [lB];rw [XA (by simp)]
    simp
   ·simp only [lB];rw [XA (by rw [yW];omega),List.getElem?_append_left hk]
  | succ j=>
   obtain ⟨Ce,h1,h2,h3⟩:=ih (acc:=acc++[zQ acc x.after.toList]) h;simp only [yW,yu,yA] at h1 h2;refine ⟨Ce,?_,by omega,fun k hk=>?_⟩
   ·simp only [lB]
    grind
   ·simp only [lB];exact h3 k hk
def Ord (ops:Array y5) (i j:Nat):Prop:=ua ((lB [] ops.toList).getD j 0) i=true
def QK (ops:Array y5) (D:Nat->Prop):Prop:=∀j o,ops[j]? =some o->D j->∀e,e∈o.after->Region.binds .any e=true->D e.on
def XB {D:Nat->Prop} (hc:QK ops D):∀(j:Nat) (o:y5),ops[j]? =some o->(∀e,e∈o.after->Region.binds .any e=true->D e.on)->∀i,Ord ops i j->D i:=by
 intro j
 induction j using vQ with
 | _ j ih=>
  intro o ho hr i hi;have j9:ops.toList[j]? =some o:=by simp_all
  obtain ⟨Ce,h1,h2,h3⟩:=ag2 (acc:=[]) j9;simp only [yA,yd] at h1 h2;unfold Ord at hi;rw [List.getD_eq_getElem?_getD,h1,vU] at hi;obtain ⟨e,g1,g2,g3⟩:=O4 hi;have he:D e.on:=hr e (by simpa using g1) g2;rcases g3 with rfl | g3
  ·grind
  ·rcases wV e.on j with a6 | kP
   ·have h4:=h3 e.on (by omega);have hol:e.on<ops.size:=by
     grind
    have TR:ops[e.on]? =some ops[e.on]:=by simp_all
    refine ih e.on a6 _ TR (fun e' TY cO=>hc e.on _ TR he e' TY cO) i ?_;unfold Ord
    grind
   ·grind
def aj0 {D:Nat->Prop} (hc:QK ops D) {i j:Nat} {o:y5} (ho:ops[j]? =some o) (hj:D j) (hi:Ord ops i j):D i:=
 XB hc j o ho (fun e he hb=>hc j o ho hj e he hb) i hi
def VX:∀{l:List y5} {k j:Nat} {o:y5},GK l k=true->l[j]? =some o->∀e,e∈o.after->Region.binds .any e=true->e.on<k+j
 | [],k,j,o,_,h=>by simp at h
 | x::l,k,j,o,hb,h=>by
  simp only [GK,yf] at hb
  cases j with
  | zero=>
   simp only [vn,yc] at h;subst h;intro e he qR
   have:=List.all_eq_true.1 hb.1 e (by simpa using he)
   simp_all
  | succ j=>
   intro e he qR
   have:=VX hb.2 h e he qR
   omega
end
def Mx (a b:bg) (r:List bg):Prop:=KY a b=false/\(GJ a b=false\/G6 a b r=true)
def VZ {m:Nat} {b:bg}:∀{l:List bg} {k i:Nat} {a:bg},KZ m b l k=true->l[i]? =some a->ua m (k+i)=true\/Mx a b (l.drop (i+1))
 | [],k,i,a,_,h=>by simp at h
 | x::l,k,i,a,hp,h=>by
  simp only [KZ,yf] at hp
  cases i with
  | zero=>
   simp only [vn,yc] at h;subst h;have h1:=hp.1;simp only [uM,vV,tA,Bool.and_eq_false_iff,Bool.not_eq_false'] at h1;rcases h1 with h1 | ⟨h1,h2⟩
   ·grind
   ·exact .inr ⟨h1,by simpa using h2⟩
  | succ i=>
   rcases VZ hp.2 h with h1 | h1
   ·grind
   ·grind
def V4:∀{l done:List bg} {ms:List Nat} {i j:Nat} {a b:bg},DC done l ms=true->(done++l)[i]? =some a->l[j]? =some b->i<done.length+j->
  ∃m,ms[j]? =some m/\(ua m i=true\/Mx a b (((done++l).take (done.length+j)).drop (i+1)))
 | [],done,ms,i,j,a,b,_,_,h,_=>by simp at h
 | x::l,done,[],i,j,a,b,hp,_,h,_=>by simp [DC] at hp
 | x::l,done,m::ms,i,j,a,b,hp,ha,h,TZ=>by
  simp only [DC,yf] at hp
  cases j with
  | zero=>
   have CJ:done[i]? =some a:=by grind
   have:=VZ hp.1 CJ
   grind
  | succ j=>
   have e:done++x::l=(done++[x])++l:=by simp
   obtain ⟨m',h1,h2⟩:=V4 (i:=i) (a:=a) hp.2 (by rw [<-e];exact ha) h (by simp;omega)
   grind
def Ks {a b:bg} (h:KY a b=false):(∀d,a.dst=some d->d∉BE b/\b.dst≠some d)/\(∀d,b.dst=some d->d∉BE a):=by
 have mem:∀{i:Nat} {l:List Nat},kG i l=false->i∉l:=by
  intro i l
  induction l with
  | nil=>intro _ h;cases h
  | cons j r ih=>
   intro h hm;simp only [kG] at h
   cases hb:yt j i with
   | true=>rw [hb] at h;cases h
   | false=>
    simp_all
 simp only [KY,tA] at h;obtain ⟨⟨h1,h2⟩,h3⟩:=h;refine ⟨fun d hd=>⟨mem (by simpa [hd,Ei] using h1),fun hb=>?_⟩,fun d hd=>mem (by simpa [hd,Ei] using h2)⟩;rw [hd,hb] at h3;simp [abw] at h3
def WQ {t:Nat}:∀{l:List bg},D9 t l=true->∀r,r∈l->r.dst≠some t
 | [],_,r,h=>by cases h
 | x::l,h,r,hr=>by
  simp only [D9,yf,vV] at h;rcases wg.1 hr with rfl | hr
  ·intro hd;rw [hd] at h;simp [Ei,kG] at h
  ·exact WQ h.2 r hr
def PA {sz t:Nat} {ag:Bool}:∀{l:List (Nat×Bool×Nat)},Ej sz ag t l=true->(sz,ag,t)∈l
 | [],h=>by simp [Ej] at h
 | (s,g,u)::r,h=>by
  simp only [Ej,uM,yf] at h;rcases h with ⟨h1,h2,h3⟩ | h
  ·simp_all
  ·exact wv _ (PA h)
def PW:∀{a b:List Nat},cE a b=true->a=b
 | [],[],_=>rfl
 | [],_::_,h=>by simp [cE] at h
 | _::_,[],h=>by simp [cE] at h
 | x::a,y::b,h=>by
  simp only [cE,yf] at h;rw [yk h.1,PW h.2]
def ah9 {a b:AV} (h:RP a b=true):a=b:=by
 unfold RP at h
 split at h
 ·grind
 ·grind
 ·rw [PW h]
 ·rfl
 ·rfl
 ·simp_all
 ·simp_all
 ·simp_all
 ·cases h
def V5 {tm:Env} {hp an:Hp} {sz t:Nat} {ag:Bool} {v:AV}:∀{l:List (Nat×Bool×Nat)},zL tm hp an l=true->(sz,ag,t)∈l->gG hp sz ag (aj tm t)=some v->gG an sz ag (aj tm t)=some v
 | [],_,h,_=>by cases h
 | (s,g,u)::r,h,hm,hv=>by
  simp only [zL] at h
  cases h1:gG hp s g (aj tm u) with
  | none=>simp [h1] at h
  | some x=>
   cases h2:gG an s g (aj tm u) with
   | none=>simp [h1,h2] at h
   | some y=>
    simp only [h1,h2,yf] at h;rcases wg.1 hm with e | hm
    ·simp only [ym] at e;obtain ⟨rfl,rfl,rfl⟩:=e;rw [h1] at hv;rw [h2,<-ah9 h.1,hv]
    ·exact V5 h.2 hm hv
structure My (P:aI) (L:Lib) (run:cF) (rs:List bg) (bZ:Nat->Env) (bM:Nat->Hp) (bF:Nat->Nat) (vF:Nat->AV):Prop where
 step:∀i r,rs[i]? =some r->eJ P L run (bZ i) (bM i) (bF i) r=some (vF i,bM (i+1),bF (i+1))
 tm:∀i r,rs[i]? =some r->bZ (i+1)=put r.dst (vF i) (bZ i)
def Zh {P:aI} {L:Lib} {self:cF}:∀{rs:List bg} {s s':St},dw P L self rs s=some s'->
  ∃bZ bM bF vF,My P L self rs bZ bM bF vF/\bZ 0=s.tm/\bM 0=s.hp/\bF 0=s.ct/\bZ rs.length=s'.tm/\bM rs.length=s'.hp/\bF rs.length=s'.ct/\s'.base=s.base
 | [],s,s',h=>by
  simp only [dw,yc] at h;subst h;exact ⟨fun _=>s.tm,fun _=>s.hp,fun _=>s.ct,fun _=> .undef,⟨fun i r h=>by simp at h,fun i r h=>by simp at h⟩,rfl,rfl,rfl,rfl,rfl,rfl,rfl⟩
 | r::rs,s,s',h=>by
  rw [WM] at h
  cases h1:eJ P L self s.tm s.hp s.ct r with
  | none=>simp [h1] at h
  | some q=>
   obtain ⟨v,bA,qV⟩:=q;simp only [h1] at h;obtain ⟨bZ,bM,bF,vF,g1,g2,g3,g4,g5,g6,g7,g8⟩:=Zh h;refine ⟨fun i=>match i with | 0=>s.tm | i+1=>bZ i,fun i=>match i with | 0=>s.hp | i+1=>bM i,fun i=>match i with | 0=>s.ct | i+1=>bF i,fun i=>match i with | 0=>v | i+1=>vF i,⟨?_,?_⟩,rfl,rfl,rfl,by simpa using g5,by simpa using g6,by simpa using g7,g8⟩
   ·intro i r' hi
    cases i with
    | zero=>
     grind
    | succ i=>exact g1.step i r' (by simpa using hi)
   ·intro i r' hi
    cases i with
    | zero=>
     grind
    | succ i=>exact g1.tm i r' (by simpa using hi)
section
variable {P:aI} {L:Lib} {self:cF} {rs:List bg} {bZ:Nat->Env} {bM:Nat->Hp} {bF:Nat->Nat} {vF:Nat->AV}
def GO (hR:My P L self rs bZ bM bF vF) {t i:Nat}:∀(k:Nat),i+k<=rs.length->(∀j r,i<=j->j<i+k->rs[j]? =some r->r.dst≠some t)->aj (bZ (i+k)) t=aj (bZ i) t
 | 0,_,_=>rfl
 | k+1,hk,h=>by
  have hr:rs[i+k]? =some rs[i+k]:=by simp_all
  rw [show i+(k+1)=i+k+1 by omega,hR.tm _ _ hr,PT,yF (h (i+k) _ (by omega) (by omega) hr)];exact GO hR k (by omega) (fun j r h1 h2=>h j r h1 (by omega))
def XC {r:bg} {tm:Env} {hp an:Hp} {ct a7:Nat} {v:AV} (hk:bB r.op<=1) (hv:eJ P L self tm hp ct r=some (v,an,a7)) (a6:∀id o,aw hp id=some o->id<ct):ia hp ct an a7:=by
 unfold eJ at hv
 cases hw:nS tm r.guard with
 | none=>simp [hw] at hv
 | some b=>
  cases b with
  | true=>simp only [hw] at hv;exact Wk hk hv a6
  | false=>
   simp only [hw,yc,ym] at hv;obtain ⟨rfl,rfl,rfl⟩:=hv;exact ia.refl a6
def KP (hR:My P L self rs bZ bM bF vF) {i:Nat} (a6:∀id o,aw (bM i) id=some o->id<bF i):∀(k:Nat),i+k<=rs.length->(∀j r,i<=j->j<i+k->rs[j]? =some r->bB r.op<=1)->ia (bM i) (bF i) (bM (i+k)) (bF (i+k))
 | 0,_,_=>ia.refl a6
 | k+1,hk,h=>by
  have ih:=KP hR a6 k (by omega) (fun j r h1 h2=>h j r h1 (by omega));have hr:rs[i+k]? =some rs[i+k]:=by simp_all
  exact ih.trans (XC (h (i+k) _ (by omega) (by omega) hr) (hR.step _ _ hr) ih.lt)
end
end
section
open Go
def K6 {tm:Env} {t:Nat}:∀{l:List Nat},t∈l->aj (dN tm l) t=aj tm t
 | [],h=>by cases h
 | i::r,h=>by
  simp only [dN,aj]
  cases hb:yt i t with
  | true=>rw [yk hb];rfl
  | false=>
   rcases wg.1 h with e | h
   ·simp_all
   ·exact K6 h
def aia {P:aI} {L:Lib} {self:cF} {tm cu:Env} {hp:Hp} {ct:Nat} {o:Op} {r:AV×Hp×Nat} (h:∀t,t∈jL o->aj cu t=aj tm t) (hv:bn P L self tm hp ct o=some r):bn P L self cu hp ct (mh o)=some r:=by
 cases o with
 | iB rs f xs=>
  simp only [jL,wD] at h;simp only [mh,bn] at hv ⊢
  rw [dI (x:=f) fun t ht=>h t (.inl ht),Bp (xs:=xs) fun t ht=>h t (.inr ht)]
  cases hc:eG P L self hp ct .dyn (az tm f) (di tm xs) with
  | none=>simp [hc] at hv
  | some q=>
   obtain ⟨v1,bA,qV⟩:=q;simp only [hc] at hv
   cases hs:zL tm hp bA rs with
   | false=>rw [hs] at hv;cases hv
   | true=>
    rw [hs] at hv;simpa only [zL,yy] using hv
 | jl rs sz x v=>
  simp only [mh,bn] at hv ⊢
  rw [Dm (o:= .st sz x v) (tm:=tm) h]
  grind
 | call md f xs=>
  rw [<-hv];simp only [jL,wD] at h;simp only [mh,bn]
  rw [dI (x:=f) fun t ht=>h t (.inl ht),Bp (xs:=xs) fun t ht=>h t (.inr ht)]
 | st s x y=>rw [<-hv];exact Dm h
 | od kk x y z=>rw [<-hv];exact Dm h
 | og x=>rw [<-hv];exact Dm h
 | dl s b x y=>rw [<-hv];exact Dm h
 | oh s x y=>rw [<-hv];exact Dm h
 | box s x=>rw [<-hv];simp only [mh,bn];rw [GA (hp:=hp) h]
 | bH n s z ps=>rw [<-hv];simp only [mh,bn];rw [GA (hp:=hp) h]
 | fZ s b z x y=>rw [<-hv];simp only [mh,bn];rw [GA (hp:=hp) h]
 | sO=>exact hv
 | oe x=>rw [<-hv];simp only [mh,bn];rw [GA (hp:=hp) h]
 | _=>rw [<-hv];simp only [mh,bn];rw [agv h]
def Yl {P:aI} {L:Lib} {self:cF} {tm:Env} {hp an:Hp} {ct a7:Nat} {q:Op} {v:AV} (hk:bB q=0\/∃sz ag x,q= .ld sz ag x) (hv:bn P L self tm hp ct q=some (v,an,a7)):bw tm hp q=some v/\an=hp/\a7=ct:=by
 have lT:∀{q:Op},(match bw tm hp q with | some v=>some (v,hp,ct) | none=>(none:gh))=some (v,an,a7)->bw tm hp q=some v/\an=hp/\a7=ct:=by grind
 rcases hk with hk | ⟨sz,ag,x,rfl⟩
 ·cases bV:q with
  | call md f xs=>subst bV;cases md<;>simp [bB] at hk
  | iB rs f xs=>subst bV;simp [bB] at hk
  | jl rs s x y=>subst bV;simp [bB] at hk
  | st s x y=>subst bV;simp [bB] at hk
  | od kk x y z=>subst bV;simp [bB] at hk
  | og x=>subst bV;simp [bB] at hk
  | dl s b x y=>subst bV;simp [bB] at hk
  | oh s x y=>subst bV;simp [bB] at hk
  | box s x=>subst bV;simp [bB] at hk
  | bH n s z ps=>subst bV;simp [bB] at hk
  | fZ s b z x y=>subst bV;simp [bB] at hk
  | sO=>subst bV;simp [bB] at hk
  | oe x=>subst bV;simp [bB] at hk
  | _=>exact bV▸lT (q:=q) (by rw [bV] at hv ⊢;exact hv)
 ·exact lT (q:= .ld sz ag x) (by simp only [bn] at hv;exact hv)
section
variable {O:bq} {H:Hint} {ops:Array y5} {rs:List bg} {bZ:Nat->Env} {bM:Nat->Hp} {bF:Nat->Nat} {vF:Nat->AV} {self:cF} {ro:Option Nat} {Q:vR->Act->yg->Prop}
structure p0 (O:bq) (H:Hint) (slf:cF) (ops:Array y5) (rs:List bg) (bZ:Nat->Env) (bM:Nat->Hp) (bF:Nat->Nat) (vF:Nat->AV):Prop where
 run:My O.prog O.aT slf rs bZ bM bF vF
 len:rs.length=ops.size
 of:∀(i:Nat) (r:bg) (o:y5),rs[i]? =some r->ops[i]? =some o->L6 O.P H ops r o
 pair:∀(i j:Nat) (a b:bg),i<j->rs[i]? =some a->rs[j]? =some b->Ord ops i j\/Mx a b ((rs.take j).drop (i+1))
 back:∀(i:Nat) (o:y5),ops[i]? =some o->∀e,e∈o.after->Region.binds .any e=true->e.on<i
def jq (rs:List bg) (i:Nat):Prop:=∃r,rs[i]? =some r/\bB r.op=2
def QM (rs:List bg):∀(k i:Nat),i+k=rs.length->∃c,i<=c/\c<=rs.length/\(∀j,i<=j->j<c->¬jq rs j)/\(c=rs.length\/jq rs c)
 | 0,i,h=>⟨i,yv _,by omega,fun j h1 h2=>by omega,.inl (by omega)⟩
 | k+1,i,h=>by
  rcases vM (jq rs i) with hw | hw
  ·grind
  ·obtain ⟨c,h1,h2,h3,h4⟩:=QM rs k (i+1) (by omega)
   grind
def G8 {rs:List bg} {i:Nat} {r:bg} (hr:rs[i]? =some r) (hw:¬jq rs i):bB r.op<=1:=by
 have h:bB r.op≠2:=fun e=>hw ⟨r,hr,e⟩
 have:bB r.op<=2:=by
  cases r.op with
  | dO k x lo hi=>cases k<;>simp [bB]
  | len k x=>rcases k with _ | _ | k<;>simp [bB]
  | call md f xs=>cases md<;>simp [bB]
  | _=>simp [bB]
 omega
def NY (O:bq) (rs:List bg) (bZ:Nat->Env) (D:Nat->Prop) (m:Mp) (S:Nat->Prop) (w:yg) (a:Act):Prop:=
 ∀t,∃j,j<=rs.length/\(∀(i:Nat) (r:bg),rs[i]? =some r->r.dst=some t->(D i↔i<j))/\ai O.ah m S w (aj (bZ j) t) (a.tmps.getD t undef)
def al8 {D:Nat->Prop} {m:Mp} {S:Nat->Prop} {w:yg} {a:Act} {i:Nat} {r:bg} (hG:p0 O H self ops rs bZ bM bF vF) (hT:NY O rs bZ D m S w a) (hr:rs[i]? =some r) (hi:¬D i)
  (eL:∀j,Ord ops j i->D j) (fT:∀j,Ord ops i j->¬D j):∀t,t∈BE r->ai O.ah m S w (aj (bZ i) t) (a.tmps.getD t undef):=by
 intro t ht;obtain ⟨j,h1,h2,h3⟩:=hT t;have EZ:i<rs.length:=(wa.1 hr).1;have e:aj (bZ j) t=aj (bZ i) t:=by
  rcases Nat.le_total j i with hji | TZ
  ·obtain ⟨k,rfl⟩:∃k,i=j+k:=⟨i-j,by omega⟩;refine (GO hG.run k (by omega) (fun l rl g1 g2 hl hd=>?_)).symm;rcases hG.pair l (j+k) rl r (by omega) hl hr with ho | hf
   ·grind
   ·exact ((Ks hf.1).1 t hd).1 ht
  ·obtain ⟨k,rfl⟩:∃k,j=i+k:=⟨j-i,by omega⟩;refine GO hG.run k h1 (fun l rl g1 g2 hl hd=>?_);rcases wJ g1 with rfl | g1
   ·grind
   ·rcases hG.pair i l r rl g1 hr hl with ho | hf
    ·grind
    ·exact (Ks hf.1).2 t hd ht
 grind
def Zi {D D':Nat->Prop} {m m':Mp} {S S':Nat->Prop} {w w':yg} {a:Act} {i:Nat} {r:bg} {u:ye} (hG:p0 O H self ops rs bZ bM bF vF) (hT:NY O rs bZ D m S w a) (hr:rs[i]? =some r) (hi:¬D i)
  (eL:∀j,Ord ops j i->D j) (fT:∀j,Ord ops i j->¬D j) (hD:∀j,D' j↔D j\/j=i) (hm:dn m m') (hS:∀b,S b->S' b) (hw:fE S w w') (hd:∀d,r.dst=some d->d<a.tmps.size)
  (hv:ai O.ah m' S' w' (vF i) u):NY O rs bZ D' m' S' w' (a.put r.dst u):=by
 intro t;have EZ:i<rs.length:=(wa.1 hr).1;by_cases Jy:r.dst=some t
 ·refine ⟨i+1,EZ,fun l rl hl Ua=>?_,?_⟩
  ·rw [hD];constructor
   ·rintro (h | h)
    ·rcases wV l (i+1) with g | g
     ·grind
     ·rcases hG.pair i l r rl (by omega) hr hl with ho | hf
      ·grind
      ·exact (((Ks hf.1).1 t Jy).2 Ua).elim
    ·omega
   ·intro h;rcases wJ (uU h) with h | h
    ·grind
    ·rcases hG.pair l i rl r h hl hr with ho | hf
     ·grind
     ·exact (((Ks hf.1).1 t Ua).2 Jy).elim
  ·rw [hG.run.tm i r hr,PT,PU hd,yL Jy,yL Jy];exact hv
 ·obtain ⟨j,h1,h2,h3⟩:=hT t;refine ⟨j,h1,fun l rl hl Ua=>?_,?_⟩
  ·grind
  ·rw [PU hd,yF Jy];exact lf hm hS hw _ _ h3
def Wm {tm:Env} {hp an:Hp} {ct a7 id off sz TW t:Nat} {ag:Bool} {x y:X} {v v':AV}:∀{l:List (Nat×Bool×Nat)},nL tm id l=true->(sz,ag,t)∈l->az tm x= .ptr id off->
  cW tm hp ct (.st TW x y)=some (v',an,a7)->gG hp sz ag (aj tm t)=some v->gG an sz ag (aj tm t)=some v
 | [],_,h,_,_,_=>by cases h
 | (s,g,u)::r,h,hm,hx,hw,hv=>by
  simp only [nL,yf] at h;rcases wg.1 hm with e | hm
  ·simp only [ym] at e;obtain ⟨rfl,rfl,rfl⟩:=e;have h1:=h.1
   split at h1
   ·rename_i j o hj;have fC:j≠id:=by
     intro e
     simp_all
    rw [hj] at hv ⊢;simp only [cW,hx] at hw;have key:∀ob,aw (bh hp id ob) j=aw hp j:=fun ob=>by rw [pJ,yF (ybq fC)]
    split at hw
    ·rename_i pu ex z cs E0;generalize (yt _ _&&yB _ _&&bL _)=bb at hw
     cases bb with
     | false=>cases hw
     | true=>
      obtain ⟨_,rfl,_⟩:=hw;simp only [gG,key] at hv ⊢;exact hv
    ·cases hw
   ·rename_i cs hj;rw [hj] at hv ⊢;simpa only [gG] using hv
   ·cases h1
  ·exact Wm h.2 hm hx hw hv
def V6 {D:Nat->Prop} {i c:Nat} {r:bg} {sz t:Nat} {ag:Bool} (hG:p0 O H self ops rs bZ bM bF vF) (hr:rs[i]? =some r) (hi:¬D i) (AX:r.guard=none/\r.op= .ld sz ag (.t t)) (hc:c<=rs.length)
  (hW:∀j,j<c->jq rs j->D j) (fT:∀j,Ord ops i j->¬D j) (a6:∀j,j<=c->∀id o,aw (bM j) id=some o->id<bF j):∀k,i+1+k<=c->gG (bM (i+1+k)) sz ag (aj (bZ i) t)=some (vF i)
 | 0,hk=>by
  have h1:=hG.run.step i r hr;simp only [eJ,AX.1,nS,AX.2] at h1;obtain ⟨h2,h3,h4⟩:=Yl (.inr ⟨_,_,_,rfl⟩) h1;simp only [bw,az] at h2
  grind
 | k+1,hk=>by
  have ih:=V6 hG hr hi AX hc hW fT a6 k (by omega);have hl:i+1+k<rs.length:=by omega
  have hj:rs[i+1+k]? =some rs[i+1+k]:=by simp [hl]
  have aR:=hG.run.step _ _ hj;rw [show i+1+(k+1)=i+1+k+1 by omega];rcases vM (jq rs (i+1+k)) with hw | hw
  ·have hD:=hW _ (by omega) hw;rcases hG.pair i (i+1+k) r _ (by omega) hr hj with ho | hf
   ·grind
   ·obtain ⟨AY,gM⟩:=hf;obtain ⟨eH,h5,h6⟩:=hw;rw [hj] at h5;injection h5 with h5
    subst h5;rcases gM with gM | gM
    ·have h1k:bB r.op=1:=by rw [AX.2];rfl
     simp only [GJ,h1k,h6] at gM;cases gM
    ·unfold G6 at gM;simp only [AX.1,AX.2] at gM;generalize jn:(rs[i+1+k]).op=q at gM;have abC:D9 t (r::(rs.take (i+1+k)).drop (i+1))=true->aj (bZ (i+1+k)) t=aj (bZ i) t:=by
      intro asy;have kQ:=WQ asy;rw [show i+1+k=i+(1+k) by omega];refine GO hG.run (1+k) (by omega) (fun l rl g1 g2 hl'=>kQ rl ?_);rcases wJ g1 with rfl | g1
      ·grind
      ·refine wv _ ?_
       have:((rs.take (i+1+k)).drop (i+1))[l-(i+1)]? =some rl:=by
        rw [List.getElem?_drop,List.getElem?_take_of_lt (by omega),show i+1+(l-(i+1))=l by omega];exact hl'
       exact List.mem_of_getElem? this
     unfold eJ at aR
     cases hg:nS (bZ (i+1+k)) (rs[i+1+k]).guard with
     | none=>simp [hg] at aR
     | some b=>
      cases b with
      | false=>
       simp only [hg,yc,ym] at aR;rw [<-aR.2.1];exact ih
      | true=>
       simp only [hg,jn] at aR;cases q<;>simp only [yC] at gM
       case iB NZ fx xs=>
        simp only [yf] at gM;have RZ:=PA gM.1;have Jz:=abC gM.2;simp only [bn] at aR
        cases ki:eG O.prog O.aT self (bM (i+1+k)) (bF (i+1+k)) .dyn (az (bZ (i+1+k)) fx) (di (bZ (i+1+k)) xs) with
        | none=>simp [ki] at aR
        | some z=>
         obtain ⟨v1,bA,qV⟩:=z;simp only [ki] at aR
         cases hs:zL (bZ (i+1+k)) (bM (i+1+k)) bA NZ with
         | false=>rw [hs] at aR;cases aR
         | true=>
          rw [hs] at aR;simp only [yy,yc,ym] at aR;obtain ⟨_,h8,_⟩:=aR;rw [<-h8,<-Jz];exact V5 hs RZ (by rw [Jz];exact ih)
       case jl NZ TW x v=>
        simp only [yf] at gM;have RZ:=PA gM.1;have Jz:=abC gM.2;simp only [bn] at aR
        split at aR
        ·rename_i id off hx
         cases hs:nL (bZ (i+1+k)) id NZ with
         | false=>rw [hs] at aR;cases aR
         | true=>
          rw [hs] at aR;simp only [yy] at aR;rw [<-Jz];exact Wm hs RZ hx aR (by rw [Jz];exact ih)
        ·cases aR
  ·exact Za (XC (G8 hj hw) aR (a6 _ (by omega))).le ih
structure Inv (O:bq) (ops:Array y5) (rs:List bg) (bZ:Nat->Env) (bM:Nat->Hp) (bF:Nat->Nat) (D:Nat->Prop) (m0:Mp) (S0:Nat->Prop) (w0:yg) (n0:Nat) (d0:List uN) (st c:Nat) (m:Mp) (S:Nat->Prop) (w:yg) (a:Act):Prop where
 Ub:st<=c
 cn:c<=rs.length
 before:∀i,i<st->jq rs i->D i
 E1:∀i,st<=i->i<c->¬jq rs i
 cut:c=rs.length\/(jq rs c/\¬D c)
 behind:∀(i:Nat) (r:bg),c<=i->rs[i]? =some r->1<=bB r.op->¬D i
 hp:aV O m S w (bM c) (bF c)
 Uc:∀id p,m id=some p->id<bF st\/∃i,st<=i/\i<c/\D i/\bF i<=id/\id<bF (i+1)
 tm:NY O rs bZ D m S w a
 N1:cm m0 S0 w0 (bM 0) m S w (bM c) (bF 0)
 ge:bF 0<=bF c
 size:a.tmps.size=n0
 defers:a.defers=d0
 E2:st=0\/jq rs (st-1)
 E3:∀j,j<=c->∀id o,aw (bM j) id=some o->id<bF j
end
end
section
open Go
section
variable {O:bq} {H:Hint} {ops:Array y5} {rs:List bg} {bZ:Nat->Env} {bM:Nat->Hp} {bF:Nat->Nat} {vF:Nat->AV} {self:cF} {ro:Option Nat} {Q:vR->Act->yg->Prop}
variable {D D':Nat->Prop} {m0:Mp} {S0:Nat->Prop} {w0:yg} {n0:Nat} {d0:List uN} {st c i:Nat} {m:Mp} {S:Nat->Prop} {w:yg} {a:Act} {r:bg} {o:y5}
def KQ (hG:p0 O H self ops rs bZ bM bF vF) (hI:Inv O ops rs bZ bM bF D m0 S0 w0 n0 d0 st c m S w a) {x y:Nat} (hx:st<=x) (hxy:x<=y) (hy:y<=c):ia (bM x) (bF x) (bM y) (bF y):=by
 obtain ⟨k,rfl⟩:∃k,y=x+k:=⟨y-x,by omega⟩
 have:=hI.cn
 exact KP hG.run (hI.E3 x (by omega)) k (by omega) (fun j r h1 h2 hr=>G8 hr (hI.E1 j (by omega) (by omega)))
def PX (hG:p0 O H self ops rs bZ bM bF vF) (hI:Inv O ops rs bZ bM bF D m0 S0 w0 n0 d0 st c m S w a) (hr:rs[i]? =some r) (hi:¬D i) (eL:∀j,Ord ops j i->D j) (fT:∀j,Ord ops i j->¬D j) (hD:∀j,D' j↔D j\/j=i)
  (hd:∀d,r.dst=some d->d<a.tmps.size) (hw:¬jq rs i) (za:bB r.op=0\/i<c) {m':Mp} {S':Nat->Prop} {w':yg} {u:ye} (k1:aV O m' S' w' (bM c) (bF c)) (k2:dn m m')
  (k3:∀id p,m' id=some p->m id=some p\/(st<=i/\i<c/\bF i<=id/\id<bF (i+1))) (k4:ai O.ah m' S' w' (vF i) u) (k5:cm m S w (bM c) m' S' w' (bM c) (bF c)):
  Inv O ops rs bZ bM bF D' m0 S0 w0 n0 d0 st c m' S' w' (a.put r.dst u) where
 Ub:=hI.Ub
 cn:=hI.cn
 before j hj CK:=(hD j).2 (.inl (hI.before j hj CK))
 E1:=hI.E1
 cut:=hI.cut.imp (fun h=>h) (fun h=>⟨h.1,fun hc=>((hD c).1 hc).elim h.2 (fun e=>hw (e▸h.1))⟩)
 behind j rj hj CL hk JA:=((hD j).1 JA).elim (hI.behind j rj hj CL hk) (fun e=>by
  subst e;rw [hr] at CL;injection CL with CL
  subst CL
  rcases za with h | h<;>omega)
 hp:=k1
 Uc id p hp:=by
  rcases k3 id p hp with h | ⟨h1,h2,h3,h4⟩
  ·rcases hI.Uc id p h with h | ⟨j,g1,g2,g3,g4,g5⟩
   ·exact .inl h
   ·exact .inr ⟨j,g1,g2,(hD j).2 (.inl g3),g4,g5⟩
  ·exact .inr ⟨i,h1,h2,(hD i).2 (.inr rfl),h3,h4⟩
 tm:=Zi hG hI.tm hr hi eL fT hD k2 k5.sub (fun b hb=>k5.still b hb) hd k4
 N1:=hI.N1.trans (k5.qg hI.ge)
 ge:=hI.ge
 size:=by rw [K5];exact hI.size
 defers:=by rw [Pg];exact hI.defers
 E2:=hI.E2
 E3:=hI.E3
def Zj (hG:p0 O H self ops rs bZ bM bF vF) (hI:Inv O ops rs bZ bM bF D m0 S0 w0 n0 d0 st c m S w a) (hr:rs[c]? =some r) (hi:¬D c) (eL:∀j,Ord ops j c->D j) (fT:∀j,Ord ops c j->¬D j) (hD:∀j,D' j↔D j\/j=c)
  (hd:∀d,r.dst=some d->d<a.tmps.size) (hw:jq rs c) {m':Mp} {S':Nat->Prop} {w':yg} {u:ye} (k1:aV O m' S' w' (bM (c+1)) (bF (c+1))) (k2:bF c<=bF (c+1))
  (k4:ai O.ah m' S' w' (vF c) u) (k5:cm m S w (bM c) m' S' w' (bM (c+1)) (bF c)):
  ∃c' AQ,Inv O ops rs bZ bM bF D' m0 S0 w0 n0 d0 (c+1) c' m' AQ w' (a.put r.dst u):=by
 have ki:c<rs.length:=(wa.1 hr).1;obtain ⟨c',h1,h2,h3,h4⟩:=QM rs (rs.length-(c+1)) (c+1) (by omega);obtain ⟨k,rfl⟩:∃k,c'=c+1+k:=⟨c'-(c+1),by omega⟩;have hg:∀k',k'<=k->ia (bM (c+1)) (bF (c+1)) (bM (c+1+k')) (bF (c+1+k')):=fun k' sS=>
  KP hG.run k1.a6 k' (by omega) (fun j r g1 g2 hr=>G8 hr (h3 j g1 (by omega)))
 obtain ⟨AQ,g1,g2,g3,g4⟩:=K4 k1 (hg k (yv _));have hml:dn m m':=fun id p h=>k5.old id p (hI.hp.lt id p h) h
 refine ⟨c+1+k,AQ,⟨by omega,h2,?_,h3,?_,?_,g1,fun id p h=> .inl (k1.lt id p h),?_,?_,?_,by rw [K5];exact hI.size,by rw [Pg];exact hI.defers,.inr (by simpa using hw),?_⟩⟩
 ·intro j hj CK;rcases wJ (uU hj) with e | hj
  ·exact (hD j).2 (.inr e)
  ·rcases wV j st with g | g
   ·exact (hD j).2 (.inl (hI.before j g CK))
   ·exact (hI.E1 j g hj CK).elim
 ·refine h4.imp (fun h=>h) (fun h=>⟨h,fun hc=>?_⟩);obtain ⟨rc,Ud,za⟩:=h;rcases (hD _).1 hc with g | g
  ·exact hI.behind _ rc (by omega) Ud (by omega) g
  ·omega
 ·intro j rj hj CL hk JA;rcases (hD j).1 JA with g | g
  ·exact hI.behind j rj (by omega) CL hk g
  ·omega
 ·exact Zi hG hI.tm hr hi eL fT hD hml (fun b hb=>g2 b (k5.sub b hb)) (fun b hb=>k5.still b hb) hd (lf (fun _ _ h=>h) g2 (fun _ _=>rfl) _ _ k4)
 ·exact (hI.N1.trans (k5.qg hI.ge)).trans (g4 (bF 0))
 ·have:=(hg k (yv _)).ot
  have:=hI.ge
  omega
 ·intro j hj;rcases wV c j with g | g
  ·obtain ⟨k',rfl⟩:∃k',j=c+1+k':=⟨j-(c+1),by omega⟩;exact (hg k' (by omega)).lt
  ·exact hI.E3 j g
def aj1 {q:Op} (h:bB q≠2):mh q=q:=by
 cases q<;>first
  | rfl
  | exact absurd rfl h
def WR {x y:bg} {l:List bg} (h:Mx x y l):¬(bB x.op=2/\1<=bB y.op)/\(1<=bB x.op->bB y.op=2->x.guard=none/\∃sz ag t,x.op= .ld sz ag (.t t)):=by
 obtain ⟨_,h⟩:=h;have ex:G6 x y l=true->x.guard=none/\∃sz ag t,x.op= .ld sz ag (.t t):=by
  intro he;unfold G6 at he
  grind
 have k2:∀q:Op,bB q<=2:=fun q=>by
  cases q with
  | dO k x lo hi=>cases k<;>simp [bB]
  | len k x=>rcases k with _ | _ | k<;>simp [bB]
  | call md f xs=>cases md<;>simp [bB]
  | _=>simp [bB]
 constructor
 ·rintro ⟨h1,h2⟩;rcases h with h | h
  ·have:bB y.op=1\/bB y.op=2:=by grind
   rcases this with e | e<;>(simp only [GJ,h1,e] at h;cases h)
  ·obtain ⟨_,sz,ag,t,e⟩:=ex h;rw [e] at h1;cases h1
 ·intro h1 h2;rcases h with h | h
  ·have:bB x.op=1\/bB x.op=2:=by grind
   rcases this with e | e<;>(simp only [GJ,h2,e] at h;cases h)
  ·exact ex h
def aj2 (hC:mE O self) (hH:fp O H) (hG:p0 O H self ops rs bZ bM bF vF) (hn:H.n<=n0) (hI:Inv O ops rs bZ bM bF D m0 S0 w0 n0 d0 st c m S w a) (hr:rs[i]? =some r) (ho:ops[i]? =some o) (hi:¬D i)
  (eL:∀j,Ord ops j i->D j) (fT:∀j,Ord ops i j->¬D j) (hD:∀j,D' j↔D j\/j=i) {K:Act->yg->Prop}
  (hK:∀st' c' m' S' w' a',Inv O ops rs bZ bM bF D' m0 S0 w0 n0 d0 st' c' m' S' w' a'->K a' w'):wpOpIn (WF ro) 0 O.P ops Q i K a w:=by
 have cU:=hG.of i r o hr ho;have R0:=al8 hG hI.tm hr hi eL fT;have aR:=hG.run.step i r hr;have hd:∀d,r.dst=some d->d<a.tmps.size:=by
  rw [cU.dst];exact Yk cU.ok (by rw [hI.size];exact hn)
 have kj:=hI.Ub;have kP:1<=bB r.op->i<=c:=by
  intro hk;rcases wV c i with Ue | Ue
  ·have EZ:i<rs.length:=(wa.1 hr).1;rcases hI.cut with h | ⟨⟨rc,Ud,za⟩,Jq⟩
   ·omega
   ·rcases hG.pair c i rc r Ue Ud hr with h | h
    ·exact (Jq (eL c h)).elim
    ·exact ((WR h).1 ⟨za,hk⟩).elim
  ·exact Ue
 have hwc:jq rs i->i=c:=by
  intro hw;obtain ⟨eH,h1,h2⟩:=hw;rw [hr] at h1;injection h1 with h1
  subst h1;have h3:=kP (by omega);rcases wJ h3 with e | h3
  ·exact e
  ·rcases wV i st with g | g
   ·exact (hi (hI.before i g ⟨r,hr,h2⟩)).elim
   ·exact (hI.E1 i g h3 ⟨r,hr,h2⟩).elim
 have a6:1<=bB r.op->¬jq rs i->i<c:=by
  intro hk hw;rcases wJ (kP hk) with e | h
  ·subst e;rcases hI.cut with h | h
   ·have EZ:i<rs.length:=(wa.1 hr).1;omega
   ·exact (hw h.1).elim
  ·exact h
 have za:¬jq rs i->bB r.op=0\/i<c:=fun hw=>by
  rcases xm (bB r.op) with h | h
  ·exact .inl h
  ·exact .inr (a6 h hw)
 unfold wpOpIn;simp only [ho];unfold eJ at aR
 cases N2:nS (bZ i) r.guard with
 | none=>simp [N2] at aR
 | some b=>
  have TX:=Xz cU.guard (fun t ht=>R0 t (by simp [BE,ht])) N2;rw [TX]
  cases b with
  | false=>
   simp only [N2,yc,ym] at aR;obtain ⟨hv,hh,hc⟩:=aR;simp only [yC,y8];refine ⟨fun _ _=>trivial,?_⟩;have eD:∀m S w,ai O.ah m S w (vF i) undef:=fun m S w=>by rw [<-hv];simp [ai,ap,undef]
   rw [<-cU.dst];rcases vM (jq rs i) with hw | hw
   ·have e:=hwc hw;subst e;obtain ⟨c',AQ,h⟩:=Zj hG hI hr hi eL fT hD hd hw (m':=m) (S':=S) (w':=w) (u:=undef) (by rw [<-hh,<-hc];exact hI.hp) (by omega) (eD _ _ _) (by rw [<-hh];exact cm.refl)
    exact hK _ _ _ _ _ _ h
   ·exact hK _ _ _ _ _ _ (PX hG hI hr hi eL fT hD hd hw (za hw) (m':=m) (S':=S) (w':=w) (u:=undef) hI.hp dn.refl (fun _ _ h=> .inl h) (eD _ _ _) cm.refl)
  | true=>
   simp only [N2] at aR;simp only [xh];have kQ:=Wl cU.op aR;have N3:cf O m S w (dN (bZ i) (jL r.op)) a.tmps:=fun t=>by
    rcases vM (t∈jL r.op) with h | h
    ·rw [K6 h];exact R0 t (by simp [BE,h])
    ·have:aj (dN (bZ i) (jL r.op)) t= .undef:=by
      clear R0 aR;revert h;generalize jL r.op=l;intro h
      induction l with
      | nil=>rfl
      | cons x l ih=>
       simp only [dN,aj];have hx:yt x t=false:=by
        cases hq:yt x t with
        | false=>rfl
        | true=>exact absurd (by rw [yk hq];exact List.mem_cons_self) h
       rw [hx];exact ih (fun h'=>h (wv _ h'))
     rw [this];simp only [ai]
   have CM:bn O.prog O.aT self (dN (bZ i) (jL r.op)) (bM i) (bF i) (mh r.op)=some (vF i,bM (i+1),bF (i+1)):=
    aia (fun t ht=>K6 ht) aR
   have Z0:¬jq rs i->mh r.op=r.op:=fun hw=>aj1 (fun h=>hw ⟨r,hr,h⟩)
   have now:¬jq rs i->bw (dN (bZ i) (jL r.op)) (bM c) r.op=some (vF i)->Oper.wpIn (WF ro) 0 O.P o a w K Q:=by
    intro hw lT;have jn:∃k,r.op=bl O.P H k o:=by
     rcases cU.op with h | ⟨cc,f,rr,_,_,h⟩ | ⟨_,_,_,_,_,_,_,h⟩
     ·exact h
     ·rw [h] at lT;simp [bw] at lT
     ·rw [h] at lT;simp [bw] at lT
    obtain ⟨k,hk⟩:=jn;rw [hk] at lT;rw [hk] at N3;obtain ⟨u,h1,h2⟩:=Y4 hH N3 hI.hp lT;refine LO kQ h1 (.inl rfl) ?_;rw [<-cU.dst];exact hK _ _ _ _ _ _ (PX hG hI hr hi eL fT hD hd hw (za hw) hI.hp dn.refl (fun _ _ h=> .inl h) h2 cm.refl)
   rcases vM (jq rs i) with hw | hw
   ·have e:=hwc hw;subst e;refine Yj hC hH (ag1 cU.op) kQ CM N3 hI.hp (fun u m' S' w' k1 k2 k3 k4=>?_);rw [<-cU.dst];obtain ⟨c',AQ,h⟩:=Zj hG hI hr hi eL fT hD hd hw k1 k2 k3 k4;exact hK _ _ _ _ _ _ h
   ·rcases xm (bB r.op) with hk | hk
    ·have CM:=Z0 hw▸CM;obtain ⟨h1,_,_⟩:=Yl (.inl hk) CM;exact now hw (by rw [ah1 hk (bM c) (bM i)];exact h1)
    ·have EW:=a6 hk hw;rcases wV i st with R1 | R1
     ·
      rcases hI.E2 with h0 | h0
      ·omega
      ·have bA:D (st-1):=hI.before _ (by omega) h0;have fC:i≠st-1:=fun e=>hi (e▸bA)
       obtain ⟨rp,hrp,hkp⟩:=h0;rcases hG.pair i (st-1) r rp (by omega) hr hrp with h | h
       ·exact (fT _ h bA).elim
       ·obtain ⟨hg,sz,ag,t,jn⟩:=(WR h).2 hk hkp;have hl:=V6 (c:=c) hG hr hi ⟨hg,jn⟩ hI.cn (fun j hj CK=>by
         rcases wV j st with g | g
         ·exact hI.before j g CK
         ·exact (hI.E1 j g hj CK).elim) fT hI.E3 (c-(i+1)) (by omega)
        rw [show i+1+(c-(i+1))=c by omega] at hl;refine now hw ?_;rw [jn];simp only [bw,az];rw [K6 (by simp [jL,jd])];exact hl
     ·have gY:=KQ hG hI (x:=i+1) (y:=c) (by omega) EW (yv _);have JB:=KQ hG hI (x:=st) (y:=i) (yv _) R1 (by omega)
      refine quiet_step (Hq:=bM c) (cH:=bF c) hC hH (G8 hr hw) cU.op kQ (Z0 hw▸CM) gY.le gY.ot (hI.E3 i (by omega)) ?_ N3 hI.hp (fun u m' S' w' k1 k2 k3 k4 k5=>?_)
      ·intro id h1 h2
       cases hm:m id with
       | none=>rfl
       | some p=>
        rcases hI.Uc id p hm with h | ⟨j,q1,q2,q3,q4,q5⟩
        ·have:=JB.ot;omega
        ·rcases Nat.lt_trichotomy j i with g | g | g
         ·have:=(KQ hG hI (x:=j+1) (y:=i) (by omega) g (by omega)).ot;omega
         ·subst g;exact (hi q3).elim
         ·have:=(KQ hG hI (x:=i+1) (y:=j) (by omega) g (by omega)).ot;omega
      ·rw [<-cU.dst];exact hK _ _ _ _ _ _ (PX hG hI hr hi eL fT hD hd hw (.inr EW) k1 k2 (fun id p h=>(k3 id p h).imp (fun h=>h) (fun h=>⟨R1,EW,h.1,h.2⟩)) k4 k5)
def left (n:Nat) (listed:Array Bool):Nat:=(List.range n).countP fun i=> !listed.getD i false
def aj3 {n:Nat} {listed:Array Bool} {i:Nat} (hi:i<n) (hs:listed.size=n) (hl:listed.getD i true=false):left n (listed.setIfInBounds i true)+1=left n listed:=by
 have key:∀(l:List Nat),l.Nodup->(i∈l->(l.countP fun j=> !(listed.setIfInBounds i true).getD j false)+1=l.countP fun j=> !listed.getD j false)/\(i∉l->(l.countP fun j=> !(listed.setIfInBounds i true).getD j false)=l.countP fun j=> !listed.getD j false):=by
  intro l
  induction l with
  | nil=>intro _;exact ⟨fun h=>(by cases h),fun _=>rfl⟩
  | cons x l ih=>
   intro kQ;have hx:x≠i->(listed.setIfInBounds i true).getD x false=listed.getD x false:=fun h=>getD_set_ne false (ybq h)
   refine ⟨fun hm=>?_,fun hm=>?_⟩
   ·rw [yab,yab];by_cases e:x=i
    ·simp_all
    ·grind
   ·grind
 exact (key _ List.nodup_range).1 (List.mem_range.2 hi)
def aib {n:Nat} {listed:Array Bool} (h:left n listed=0):∀i,i<n->listed.getD i false=true:=by
 unfold left at h
 simp_all
def aic {listed:Array Bool} (hs:listed.size=ops.size) (hb:∀(i:Nat) (o:y5),ops[i]? =some o->∀e,e∈o.after->Region.binds .any e=true->e.on<i) (h:Region.ready .any ops listed=[]):∀i,i<ops.size->listed.getD i false=true:=by
 intro i
 induction i using vQ with
 | _ i ih=>
  intro hi
  cases hq:listed.getD i false with
  | true=>rfl
  | false=>
   have:i∈Region.ready .any ops listed:=by
    refine mem_ready.2 ⟨?_,ops[i],by simp [hi],fun e he qR=>?_⟩
    ·have a6:i<listed.size:=by omega
     simp only [wM,a6,Array.getElem?_eq_getElem,vU] at hq ⊢;exact hq
    ·have:=hb i ops[i] (by simp [hi]) e he qR
     exact ih e.on this (by omega)
   rw [h] at this;cases this
def al9 (hG:p0 O H self ops rs bZ bM bF vF) (hI:Inv O ops rs bZ bM bF D m0 S0 w0 n0 d0 st c m S w a) (lH:∀i,i<rs.length->D i):
  aV O m S w (bM rs.length) (bF rs.length)/\cf O m S w (bZ rs.length) a.tmps/\cm m0 S0 w0 (bM 0) m S w (bM rs.length) (bF 0)/\bF 0<=bF rs.length:=by
 have hc:c=rs.length:=by
  rcases hI.cut with h | ⟨⟨r,h1,_⟩,h2⟩
  ·grind
  ·grind
 subst hc;refine ⟨hI.hp,fun t=>?_,hI.N1,hI.ge⟩;obtain ⟨j,h1,h2,h3⟩:=hI.tm t;obtain ⟨k,hk⟩:∃k,rs.length=j+k:=⟨rs.length-j,by omega⟩
 have:=GO (t:=t) (i:=j) hG.run k (by omega) (fun l r g1 g2 hl hd=>by
  have:=(h2 l r hl hd).1 (lH l (wa.1 hl).1)
  omega)
 grind
def aop (hC:mE O self) (hH:fp O H) (hG:p0 O H self ops rs bZ bM bF vF) (hn:H.n<=n0)
  (hQ:∀a' m' S' w',aV O m' S' w' (bM rs.length) (bF rs.length)->bF 0<=bF rs.length->cf O m' S' w' (bZ rs.length) a'.tmps->cm m0 S0 w0 (bM 0) m' S' w' (bM rs.length) (bF 0)->a'.tmps.size=n0->a'.defers=d0->Q .normal a' w'):
  ∀(bt:Nat) (listed:Array Bool) (st c:Nat) (m:Mp) (S:Nat->Prop) (w:yg) (a:Act),listed.size=ops.size->left ops.size listed=bt->QK ops (fun i=>listed.getD i false=true)->
   Inv O ops rs bZ bM bF (fun i=>listed.getD i false=true) m0 S0 w0 n0 d0 st c m S w a->wpAnyIn (WF ro) 0 O.P .any ops Q bt listed a w:=by
 have fin:∀(listed:Array Bool) (st c:Nat) (m:Mp) (S:Nat->Prop) (w:yg) (a:Act),Inv O ops rs bZ bM bF (fun i=>listed.getD i false=true) m0 S0 w0 n0 d0 st c m S w a->(∀i,i<ops.size->listed.getD i false=true)->Q .normal a w:=by
  intro listed st c m S w a hI lH;obtain ⟨h1,h2,h3,h4⟩:=al9 hG hI (fun i hi=>lH i (by rw [<-hG.len];exact hi))
  exact hQ a m S w h1 h4 h2 h3 hI.size hI.defers
 intro bt
 induction bt with
 | zero=>
  intro listed st c m S w a hs hl hc hI;have lH:=aib hl;refine ⟨?_,fin listed st c m S w a hI lH⟩;rw [List.eq_nil_iff_forall_not_mem];intro i hm;obtain ⟨h1,o,ho,_⟩:=mem_ready.1 hm
  grind
 | succ bt ih=>
  intro listed st c m S w a hs hl hc hI;refine ⟨fun h=>fin listed st c m S w a hI (aic hs hG.back h),fun i hm=>?_⟩;obtain ⟨h1,o,ho,h2⟩:=mem_ready.1 hm;have hi:i<ops.size:=(xp.1 ho).1;have hr:rs[i]? =some (rs[i]'(by rw [hG.len];exact hi)):=by simp [hG.len,hi]
  have a6:i<listed.size:=by omega
  have hni:¬listed.getD i false=true:=by
   grind
  have hD:∀j,(listed.setIfInBounds i true).getD j false=true↔listed.getD j false=true\/j=i:=by
   intro j;by_cases e:j=i
   ·simp_all
   ·rw [getD_set_ne false (ybq e)];simp [e]
  refine aj2 hC hH hG hn hI hr ho hni (XB hc i o ho h2) (fun j hj JA=>?_) hD (fun st' c' m' S' w' a' Uf=>ih (listed.setIfInBounds i true) st' c' m' S' w' a' (by simp [hs]) ?_ ?_ Uf)
  ·have hjl:j<ops.size:=by
    grind
   exact hni (aj0 hc (show ops[j]? =some ops[j] by simp [hjl]) JA hj)
  ·have:=aj3 hi hs h1
   omega
  ·intro j oj hoj hj e he hb;rw [hD];rcases (hD j).1 hj with g | g
   ·exact .inl (hc j oj hoj g e he hb)
   ·grind
end
end
section
open Go
def ag3 {F:Fence} {n:Nat} {P:y9} {Q:vR->Act->yg->Prop} {a:Act} {w:yg} {c:wL} (h:c.wpIn F n P Q a w) (hg:∀l a w,¬Q (.goto l) a w):(Code.scope c).wpIn F n P Q a w:=by
 intro b k cs cU hb hr;have h0:(lone (b.atR a (.code (.scope c)::k)) cs w).fenced P F:=fenced_calm hb hr rfl;have s0:step P (lone (b.atR a (.code (.scope c)::k)) cs w)= .next (lone (b.atR a (.code c:: .inScope c::k)) cs w):=step_lone_go (by simp [stepG,stepG.exec,Frame.atR]);obtain ⟨e,a₁,w₁,hq,Ca⟩:=h b (.inScope c::k) cs cU hb hr;have hx:∀id,exitTo id (.inScope c::k)=exitTo id k:=fun id=>by simp [exitTo]
 cases e with
 | normal=>
  have s1:step P (lone (b.atR a₁ (.inScope c::k)) cs w₁)= .next (lone (b.atR a₁ k) cs w₁):=step_lone_go (by simp [stepG,stepG.exec,Frame.atR]);exact ⟨.normal,a₁,w₁,hq,.head h0 s0 (StepsIn.trans Ca (.one (fenced_calm hb hr rfl) s1))⟩
 | exit id=>
  exact ⟨.exit id,a₁,w₁,hq,fun k' hk=> .head h0 s0 (Ca.1 k' (by rw [hx];exact hk)),fun bY hk=>let ⟨k₁,h1,h2⟩:=Ca.2 bY (by rw [hx];exact hk);⟨k₁,h1,.head h0 s0 h2⟩⟩
 | goto l=>exact (hg _ _ _ hq).elim
 | ret=>exact ⟨_,a₁,w₁,hq,.of_steps (.one h0 s0) Ca⟩
 | panic ch=>exact ⟨_,a₁,w₁,hq,.of_steps (.one h0 s0) Ca⟩
 | outgrown=>exact ⟨_,a₁,w₁,hq,.of_steps (.one h0 s0) Ca⟩
def oY:Ex->vR
 | .normal=> .normal
 | .ret=> .ret
 | .exit id=> .exit id
def Marks (lo:Nat) (S:Nat->Prop) (w:yg) (ds:List uN):Prop:=∃rs:List Nat,ds=rs.map (fun r=>{target:= .collected r,args:=#[]})/\rs.Nodup/\
 ∀r,r∈rs->w.heap[r]? =some (.deferred (some []))/\¬S r/\lo<=r
def rT (ro:Option Nat) (w:yg):Prop:=∀l,ro=some l->∃r:Loop,w.heap[l]? =some (.loop r)
section
variable {O:bq} {m:Mp} {S:Nat->Prop} {w:yg} {hp:Hp} {ct:Nat}
def Ym (hh:aV O m S w hp ct) {b:Nat} (h:dR m hp b):∀x,w.heap[b]?≠some (.deferred x):=by
 intro x hx;obtain ⟨id,o,p,h1,h2,rfl⟩:=h;have h3:=hh.obj id o p h1 h2
 cases o with
 | cells rw pu ex sz cs=>obtain ⟨q,arr,t,g1,g2,_⟩:=h3;rw [h2] at g1;injection g1 with g1;subst g1;rw [hx] at g2;cases g2
 | mp rw ks vs=>obtain ⟨q,es,clock,g1,g2,_⟩:=h3;rw [h2] at g1;injection g1 with g1;subst g1;rw [hx] at g2;cases g2
 | si s pos=>obtain ⟨q,t,g1,g2,_⟩:=h3;rw [h2] at g1;injection g1 with g1;subst g1;rw [hx] at g2;cases g2
 | lp tm ps cK body st pe=>obtain ⟨q,l,hi,g1,g2,_⟩:=h3;rw [h2] at g1;injection g1 with g1;subst g1;rw [hx] at g2;cases g2
def zD (hh:aV O m S w hp ct) {m':Mp} {S':Nat->Prop} {w':yg} {an:Hp} {base lo:Nat} (hf:cm m S w hp m' S' w' an base) {ds:List uN} (h:Marks lo S w ds):Marks lo S' w' ds:=by
 obtain ⟨rs,h1,h2,h3⟩:=h;refine ⟨rs,h1,h2,fun r hr=>?_⟩;obtain ⟨this,h4,h5⟩:=h3 r hr;have a6:=(xp.1 this).1;have nf:¬dR m hp r:=fun ho=>Ym hh ho _ this
 refine ⟨(hf.same r a6 nf).trans this,fun hs=>?_,h5⟩;rcases hf.new r hs with h | h | h
 ·grind
 ·grind
 ·omega
def KR {m':Mp} {S':Nat->Prop} {w':yg} {an:Hp} {base:Nat} {ro:Option Nat} (hf:cm m S w hp m' S' w' an base) (h:rT ro w):rT ro w':=fun l hl=>
 let ⟨r,hr⟩:=h l hl
 hf.loops l r hr
def eE (O:bq) (m:Mp) (S:Nat->Prop) (w:yg) (s:St) (ex:Ex) (s':St) (n lo:Nat) (e:vR) (a':Act) (w':yg):Prop:=
 e=oY ex/\∃m' S',cf O m' S' w' s'.tm a'.tmps/\aV O m' S' w' s'.hp s'.ct/\s'.base=s.base/\s.base<=s'.ct/\cm m S w s.hp m' S' w' s'.hp s.base/\a'.tmps.size=n/\Marks lo S' w' a'.defers
def Ab (O:bq) (h:Nat) (c:wL) (s:St) (ex:Ex) (s':St):Prop:=
 ∀(ro:Option Nat) (lo:Nat) (m:Mp) (S:Nat->Prop) (w:yg) (a:Act),rT ro w->cf O m S w s.tm a.tmps->aV O m S w s.hp s.ct->s.base<=s.ct->(O.hint h).n<=a.tmps.size->O.w0.heap.size<=lo->lo<=w.heap.size->Marks lo S w a.defers->
  c.wpIn (WF ro) 0 O.P (eE O m S w s ex s' a.tmps.size lo) a w
structure ej (O:bq):Prop where
 hint:∀h,fp O (O.hint h)
 mixed:O.P.follows .mixedOrders=true
 prog:∀n F,O.prog n=some F->∃fn,O.P.funcs[O.ah n]? =some fn/\DL O.P (O.hint n) fn=some F/\fn.name≠ "runtime.NumGoroutine"
 aT:∀n sp ak r,O.aT.pure n=some sp->sp ak=some r->ez O n ak r
 Ek:∀n sp hp ct ak v an a7,O.aT.heap n=some sp->sp hp ct ak=some (v,an,a7)->Aa O n hp ct ak v an a7
def K7 {P:y9} {H:Hint} {ops:Array y5}:∀(rs:List bg) (l:List y5) (done:List bg) (ms:List Nat),mc P H ops rs l->mc P H ops (rX done rs ms) l
 | [],l,done,ms,h=>by
  cases ms<;>simpa only [rX] using h
 | r::rs,[],done,ms,h=>by simp [mc] at h
 | r::rs,o::l,done,[],h=>by
  obtain ⟨d,g,op⟩:=r;cases op<;>simpa only [rX] using h
 | r::rs,o::l,done,m::ms,h=>by
  obtain ⟨h1,h2⟩:=h;obtain ⟨d,g,op⟩:=r
  cases op with
  | iB NZ f xs=>
   refine ⟨?_,K7 rs l _ ms h2⟩;rcases h1 with h1 | ⟨_,h1⟩
   ·refine .inl ⟨?_,h1.dst,h1.ok,h1.guard⟩;obtain ⟨c,f',g1,g2,g3,g4⟩:=PS h1.op;rw [g3,g4];exact .inr (.inl ⟨c,f',_,g1,g2,rfl⟩)
   ·simp [bad] at h1
  | st sz x y=>
   refine ⟨?_,K7 rs l _ ms h2⟩;rcases h1 with h1 | ⟨_,h1⟩
   ·refine .inl ⟨?_,h1.dst,h1.ok,h1.guard⟩;unfold stOp
    split
    ·exact h1.op
    ·obtain ⟨t,x',y',g1,g2,g3,g4⟩:=aqR h1.op;exact .inr (.inr ⟨t,x',y',sz,_,g1,g2,by rw [g3,g4]⟩)
   ·simp [bad] at h1
  | _=>
   exact ⟨h1,K7 rs l _ ms h2⟩
end
section
variable {O:bq} {self:cF}
def Yn {P:y9} {H:Hint} {ops:Array y5}:∀{rs:List bg} {l:List y5},mc P H ops rs l->rs.length=l.length/\∀(i:Nat) (r:bg) (o:y5),rs[i]? =some r->l[i]? =some o->L6 P H ops r o\/(r.guard=none/\r.op=bad)
 | [],[],_=>⟨rfl,fun i r o h=>by simp at h⟩
 | [],_::_,h=>by simp [mc] at h
 | _::_,[],h=>by simp [mc] at h
 | r::rs,o::l,h=>by
  obtain ⟨h1,h2⟩:=Yn h.2;refine ⟨by simp [h1],fun i r' o' hr ho=>?_⟩
  cases i with
  | zero=>simp at hr ho;subst hr;subst ho;exact h.1
  | succ i=>exact h2 i r' o' (by simpa using hr) (by simpa using ho)
def aid {m:Mp} {S:Nat->Prop} {w:yg} {hp:Hp} {ct:Nat} (hh:aV O m S w hp ct):Calm w {w with drawn:=w.drawn+1}:=⟨rfl,rfl,rfl,yv _,fun _ _=>rfl⟩
def aoq (hO:ej O) (hC:mE O self) (h:Nat) (id:Nat) (ops:Array y5) (draw:Bool) (k:Nat) {s s':St} (hv:dw O.prog O.aT self (Ln O.P (O.hint h) ops draw k).1 s=some s'):Ab O h (.region id ops draw) s .normal s':=by
 intro ro lo m S w a cU ht hh hb hn bi eQ cM;unfold Ln at hv;have N4:=WO (P:=O.P) (H:=O.hint h) (ops:=ops) ops.toList k;generalize hq:Bx O.P (O.hint h) ops ops.toList k=q at hv N4;obtain ⟨l,k'⟩:=q;simp only at hv N4;have post:∀{a':Act} {m':Mp} {S':Nat->Prop} {w':yg},aV O m' S' w' s'.hp s'.ct->s.ct<=s'.ct->cf O m' S' w' s'.tm a'.tmps->cm m S w s.hp m' S' w' s'.hp s.ct->a'.tmps.size=a.tmps.size->a'.defers=a.defers->s'.base=s.base->eE O m S w s .normal s' a.tmps.size lo .normal a' w':=by
  intro a' m' S' w' h1 h2 h3 h4 h5 h6 h7;exact ⟨rfl,m',S',h3,h1,h7,by omega,h4.qg hb,h5,by rw [h6];exact zD hh h4 cM⟩
 cases draw with
 | false=>
  simp only [yM] at hv;refine wpIn_region ?_;rw [List.range_eq_range'];have hl:ops.size=ops.toList.length:=by simp
  rw [hl];exact Zg hC (hO.hint h) ops.toList l 0 s s' a m S w (fun j=>by simp) N4 hv ht hh hn (fun a' m' S' w' h1 h2 h3 h4 h5 h6 h7=>post h1 h2 h3 h4 h5 h6 h7)
 | true=>
  simp only [yy] at hv
  cases pq:(GK ops.toList 0&&DC [] (rX [] l (lB [] ops.toList)) (lB [] ops.toList)) with
  | false=>
   rw [pq] at hv;simp [dw,bad,bn,eG,az] at hv
  | true=>
   rw [pq] at hv;simp only [yy] at hv;simp only [yf] at pq;have adg:=K7 l ops.toList [] (lB [] ops.toList) N4;generalize rX [] l (lB [] ops.toList)=rs at hv pq adg;obtain ⟨hlen,aw⟩:=Yn adg;obtain ⟨bZ,bM,bF,vF,hR,e1,e2,e3,e4,e5,e6,e7⟩:=Zh hv;have hG:p0 O (O.hint h) self ops rs bZ bM bF vF:=by
    refine ⟨hR,by rw [hlen];simp,fun i r o hr ho=>?_,fun i j x y TZ hx hy=>?_,fun i o ho e he hbd=>?_⟩
    ·rcases aw i r o hr (by simpa using ho) with g | ⟨g1,g2⟩
     ·grind
     ·have:=hR.step i r hr
      simp [eJ,g1,nS,g2,bad,bn,eG,az] at this
    ·obtain ⟨mm,g1,g2⟩:=V4 (done:=[]) (i:=i) (j:=j) (a:=x) (b:=y) pq.2 (by simpa using hx) hy (by simpa using TZ);refine g2.imp (fun g=>?_) (fun g=>by simpa using g);unfold Ord
     grind
    ·have:=VX pq.1 (j:=i) (o:=o) (by simpa using ho) e he hbd
     omega
   refine wpIn_region_any hO.mixed ?_;have HX:=aid hh;have iG:=Dw hh HX (S':=S) (fun _ h=>h) (fun _ h=> .inl h) hh.slt
   have AY:cm m S w s.hp m S {w with drawn:=w.drawn+1} s.hp (bF 0):=Bs hh HX (fun _ h=>h) (fun _ h=> .inl h);obtain ⟨c,c1,c2,c3,c4⟩:=QM rs rs.length 0 (by omega);have hg:∀k',k'<=c->ia (bM 0) (bF 0) (bM (0+k')) (bF (0+k')):=fun k' sS=>
    KP hR (by rw [e2,e3];exact hh.a6) k' (by omega) (fun j r g1 g2 hr=>G8 hr (c3 j g1 (by omega)))
   have gY:=hg c (yv _);rw [yd] at gY;obtain ⟨S1,g1,g2,g3,g4⟩:=K4 (by rw [e2,e3];exact iG:aV O m S {w with drawn:=w.drawn+1} (bM 0) (bF 0)) gY
   have pZ:∀i,(uj ops.size false).getD i false=true->False:=fun i hi=>by
    simp only [wM] at hi
    grind
   refine aop (m0:=m) (S0:=S) (w0:=w) (n0:=a.tmps.size) (d0:=a.defers) hC (hO.hint h) hG hn (fun a' m' S' w' h1 h2 h3 h4 h5 h6=>?_) ops.size _ 0 c m S1 _ a (by simp) ?_ (fun j o _ hj=>(pZ j hj).elim) ?_
   ·rw [e5,e6] at h1;rw [e3,e6] at h2;rw [e4] at h3;rw [e2,e3,e5] at h4;exact post h1 h2 h3 h4 h5 h6 e7
   ·unfold left;rw [List.countP_eq_length.2]
    ·simp
    ·intro i hi;simp only [vV]
     cases hq:(uj ops.size false).getD i false with
     | false=>rfl
     | true=>exact (pZ i hq).elim
   ·refine ⟨ta _,c2,fun i hi=>by omega,c3,c4.imp (fun h=>h) (fun h=>⟨h,fun hd=>pZ c hd⟩),fun i r _ _ _ hd=>pZ i hd,g1,fun id p hp=> .inl (by rw [e3];exact hh.lt id p hp),fun t=>⟨0,ta _,fun i r _ _=>⟨fun hd=>(pZ i hd).elim,fun h=>by omega⟩,?_⟩,?_,gY.ot,rfl,rfl,.inl rfl,fun j hj=>?_⟩
    ·rw [e1];exact lf (fun _ _ h=>h) (fun b hb=>g2 b hb) (fun b hb=>HX.same b (hh.slt b hb)) _ _ (ht t)
    ·rw [e2];have g5:=g4 (bF 0);rw [e2] at g5;exact AY.trans g5
    ·have:=(hg j hj).lt
     rw [yd] at this;exact this
end
end
end VE
