import Derived.RangeFuncLeaves
import Derived.OrdersIn
import Derived.LoopNIn
import Derived.RangeFuncIn
import Derived.Test.YtjemkccfpkgopaaGreatDoorXab
set_option linter.all false
set_option maxRecDepth 100000
open Array renaming getD_eq_getD_getElem?→vl,getElem?_eq_some_iff→xt,replicate→uP
open Bool renaming and_eq_true→ye,false_eq_true→yN,not_eq_true'→uB,or_eq_false_iff→yac,or_eq_true→tq
open Classical renaming em→uh
open Go renaming Call→td,Code→wX,Deferred→tr,Exit→um,FuncId→tU,Loop→uN,Next→yau,Obj→tp,Oper→yX,Operand→xp,Program→y5,RoundIn→yaD,TypeId→yC,Value→yg,World→yi
open List renaming countP_cons→yaF,getD_eq_getElem?_getD→y7,getElem?_cons_zero→vM,getElem?_eq_some_iff→wh,length_append→yL,length_cons→yz,length_drop→xP,length_nil→yO,length_take→yI,mem_append→wj,mem_cons→wE,mem_cons_of_mem→xW,mem_cons_self→wN,size_toArray→uC
open Nat renaming add_mul→wL,beq→yu,ble→yE,blt→yR,eq_of_beq_eq_true→yj,eq_of_mul_eq_mul_right→tE,eq_or_lt_of_le→ve,eq_zero_or_pos→xk,le_of_ble_eq_true→yv,le_of_lt_succ→tJ,le_refl→yr,le_trans→xi,lt_of_lt_of_le→yT,lt_or_ge→vC,lt_succ_self→tk,mul_le_mul_right→yV,strongRecOn→vN,testBit→uI,zero_add→yf,zero_le→ud
open Ne renaming symm→ybD
open Option renaming bind_some→xN,getD_some→ua
open Option.some renaming injEq→yd
open Prod.mk renaming injEq→yk
namespace VE
section
open Go
section
variable {O:bk} {m:Mp} {S:Nat->Prop} {w:yi} {hp:Hp} {ct:Nat}
def acC (hh:aU O m S w hp ct) (id:Nat):aU O m S w (dP hp id) ct:=by
 have sub:∀i o,aq (dP hp id) i=some o->aq hp i=some o:=fun i o h=>by
  rw [HL] at h
  grind
 exact ⟨fun i o p h hm=>hh.obj i o p (sub i o h) hm,hh.lt,fun i j oi oj pi pj hi hj=>hh.inj i j oi oj pi pj (sub i oi hi) (sub j oj hj),hh.slt,hh.blt,hh.low,hh.lJ,hh.fF,fun i o h=>hh.aX i o (sub i o h)⟩
def adR {id b:Nat} (h:eb m (dP hp id) b):eb m hp b:=by
 obtain ⟨i,o,p,h1,h2,h3⟩:=h;rw [HL] at h1;by_cases hc:id=i
 ·grind
 ·simp only [hc,xf] at h1;exact ⟨i,o,p,h1,h2,h3⟩
def aaw (hh:aU O m S w hp ct) {id:Nat} {o:Obj} {p:Pl} (hg:aq hp id=some o) (hm:m id=some p):¬eb m (dP hp id) p.b:=by
 rintro ⟨i,o',q,h1,h2,h3⟩;rw [HL] at h1;by_cases hc:id=i
 ·grind
 ·simp only [hc,xf] at h1;exact hc (hh.inj i id o' o q p h1 hg h2 hm h3).symm
def as6 {ap:Hp} (hd:jV hp ap) {b:Nat} (h:eb m ap b):eb m hp b:=by
 obtain ⟨i,o,p,h1,h2,h3⟩:=h
 have:=hd i
 rw [h1] at this
 cases hq:aq hp i with
 | none=>rw [hq] at this;cases this
 | some q=>exact ⟨i,q,p,hq,h2,h3⟩
def aaV {lo:Nat} {v v':AV} {ap:Hp} {n:Nat} (hh:aU O m S w hp ct) (hf:freeze n hp v=some (v',ap)) {u:yg} (hv:ah O.af m S w v u):
  ∃S',aU O m S' w ap ct/\(∀b,S b->S' b)/\(∀b,S' b->S b\/eb m hp b)/\a6 v'=true/\ah O.af eM S' w v' u/\ia O.af S' w lo v' u []:=by
 obtain ⟨h1,h2,h3⟩:=QI (O:=O) hf;obtain ⟨S',g1,g2,g3⟩:=adH hh h1 (fun id o p ho hm=>by
  have:=h2 id
  rw [ho] at this
  cases hq:aq hp id with
  | none=>rw [hq] at this;cases this
  | some q=>exact ⟨q,rfl⟩) (yr _) (fun id o ho=>(by
  have:=h2 id
  rw [ho] at this
  cases hq:aq hp id with
  | none=>rw [hq] at this;cases this
  | some q=>exact hh.aX id q hq))
 obtain ⟨k1,k2⟩:=h3 ap m S' w ct cU.refl g1;have hr:=k1 u (lz (fun _ _ h=>h) g2 (fun _ _=>rfl) v u hv);have bn:ah O.af eM S' w v' u:=qg (fun _ h=>h) (fun _ _=>rfl) v' u k2 hr;refine ⟨S',g1,g2,g3,k2,bn,?_⟩
 cases v' with
 | bD _ _ _ _=>simp [a6] at k2
 | _=>exact ⟨rfl,bn,k2⟩
def aph {S':Nat->Prop} {lo:Nat} {v:AV} {u:yg} {bs:List Nat} (hS:∀b,S b->S' b) (hn:∀b,b∈bs->¬S' b) (h:ia O.af S w lo v u bs):ia O.af S' w lo v u bs:=by
 cases v with
 | bD ex sz n cs=>
  obtain ⟨b,o,c,arr,t,rfl,rfl,g1,g2,g3,g4,g5,g6,g7,g8,g9⟩:=h;exact ⟨b,o,c,arr,t,rfl,rfl,g1,g2,g3,hn b (by simp),g5,g6,g7,Cf hS (fun _ _=>rfl) cs b o g9 rfl g8,g9⟩
 | _=>simp only [ia] at h ⊢;exact ⟨h.1,qg hS (fun _ _=>rfl) _ _ h.2.2 h.2.1,h.2.2⟩
def abI {lo:Nat} {v v':AV} {ap:Hp} {n:Nat} (hh:aU O m S w hp ct) (hf:pc n hp v=some (v',ap)) {u:yg} (hv:ah O.af m S w v u) (bi:∀b,eb m hp b->lo<=b):
  ∃S' bs,aU O m S' w ap ct/\(∀b,S b->S' b)/\(∀b,S' b->S b\/eb m hp b)/\ia O.af S' w lo v' u bs/\bs.Nodup/\(∀b,b∈bs->eb m hp b/\¬eb m ap b)/\(∀b,eb m ap b->eb m hp b):=by
 have frozen:freeze n hp v=some (v',ap)->∃S' bs,aU O m S' w ap ct/\(∀b,S b->S' b)/\(∀b,S' b->S b\/eb m hp b)/\ia O.af S' w lo v' u bs/\bs.Nodup/\(∀b,b∈bs->eb m hp b/\¬eb m ap b)/\(∀b,eb m ap b->eb m hp b):=by
  intro hz;obtain ⟨S',g1,g2,g3,g4,g5,g6⟩:=aaV (lo:=lo) hh hz hv
  exact ⟨S',[],g1,g2,g3,g6,by simp,by simp,fun b hb=>as6 (QI (O:=O) hz).2.1 hb⟩
 unfold pc at hf
 split at hf
 ·rename_i id o k
  split at hf
  ·rename_i ex sz cs hg
   cases hc:yE (o+k*sz) cs.length with
   | false=>rw [hc] at hf;cases hf
   | true=>
    rw [hc] at hf;obtain ⟨rfl,rfl⟩:=hf;have hle:=yv hc;obtain ⟨p,c,hm,rfl,h1,h2⟩:=hv;obtain ⟨p',arr,t,g1,g2,g3,g4,g5,g6,g7,g8,g9,g10⟩:=hh.obj id _ _ hg hm;rw [hm] at g1;injection g1 with g1
    subst g1;rw [g3] at h2;refine ⟨S,[p.b],acC hh id,fun _ h=>h,fun _ h=> .inl h,?_,by simp,?_,fun b hb=>adR hb⟩
    ·refine ⟨p.b,p.o+o,c,arr,t,rfl,rfl,h1,?_,bi _ (Io hg hm),g9 rfl,g2,?_,by omega,?_,As _ (sO _ _ (g8 rfl))⟩
     ·intro hx;simp only [ye] at hx;have e1:=yj hx.2;have e2:=zc.1 hx.1.2;have e3:=g6 hx.1.1
      have:c*sz=k*sz:=by omega
      exact tE e2 this
     ·simp only [slice,yI,xP];omega
     ·exact Cf (fun _ h=>h) (fun _ _=>rfl) _ _ _ (As _ (sO _ _ (g8 rfl))) rfl (Av _ _ _ _ (p8 _ _ _ _ g7))
    ·intro b hb;simp only [List.mem_singleton] at hb;subst hb;exact ⟨Io hg hm,aaw hh hg hm⟩
  ·grind
 ·grind
def aaW {lo n:Nat}:∀{vs dZ:List AV} {us:List yg} {hp ap:Hp} {S:Nat->Prop},aU O m S w hp ct->sY n hp vs=some (dZ,ap)->az O.af m S w vs us->(∀b,eb m hp b->lo<=b)->
  ∃S' bs,(∀b,S b->S' b)/\(∀b,S' b->S b\/eb m hp b)/\kO O.af S' w lo dZ us bs/\bs.Nodup/\(∀b,b∈bs->eb m hp b)/\(∀b,S' b->b<w.heap.size)
 | [],dZ,us,hp,ap,S,hh,hf,hv,bi=>by
  obtain ⟨rfl,rfl⟩:=hf;exact ⟨S,[],fun _ h=>h,fun _ h=> .inl h,by simp only [kO];exact ⟨hv,by trivial⟩,by simp,by simp,hh.slt⟩
 | v::r,dZ,us,hp,ap,S,hh,hf,hv,bi=>by
  simp only [sY] at hf
  cases h1:pc n hp v with
  | none=>simp [h1] at hf
  | some q=>
   obtain ⟨v1,bj⟩:=q;simp only [h1] at hf
   cases h2:sY n bj r with
   | none=>simp [h2] at hf
   | some q2=>
    simp only [h2,yd,yk] at hf;obtain ⟨rfl,rfl⟩:=hf;obtain ⟨u,t,rfl,eN,dB⟩:=hv;obtain ⟨S1,b1,k1,k2,k3,k4,k5,k6,k7⟩:=abI (lo:=lo) hh h1 eN bi;obtain ⟨S2,b2,g1,g2,g3,g4,g5,g6⟩:=aaW (us:=t) k1 h2 (gB (fun _ _ h=>h) k2 (fun _ _=>rfl) _ _ dB) (fun b hb=>bi b (k7 b hb));have Ta:∀b,b∈b1->¬S2 b:=by
     intro b hb hs;rcases g2 b hs with h | h
     ·cases v1 with
      | bD ex sz n cs=>
       simp only [ia] at k4
       grind
      | _=>simp only [ia] at k4;rw [k4.1] at hb;cases hb
     ·grind
    refine ⟨S2,b1++b2,fun b hb=>g1 b (k2 b hb),fun b hb=>?_,?_,?_,?_,g6⟩
    ·grind
    ·simp only [kO];exact ⟨u,t,b1,b2,rfl,rfl,aph g1 Ta k4,g3⟩
    ·grind
    ·grind
def QO {lo:Nat}:∀{cs:List AV} {us:List yg},aG cs=true->az O.af eM S w cs us->kO O.af S w lo cs us []
 | [],us,_,h=>by simp only [az] at h;exact ⟨h,by trivial⟩
 | c::r,us,hp,h=>by
  obtain ⟨u,t,rfl,h1,h2⟩:=h;simp only [aG,ye] at hp;refine ⟨u,t,[],[],rfl,rfl,?_,QO hp.2 h2⟩
  cases c with
  | bD _ _ _ _=>simp [a6] at hp
  | _=>exact ⟨rfl,h1,hp.1⟩
def api {lo:Nat} {v r:AV} {u:yg} (hh:aU O m S w hp ct) (hr:result hp v=some r) (hv:ah O.af m S w v u) (bi:∀b,eb m hp b->lo<=b):
  ∃S',(∀b,S b->S' b)/\(∀b,S' b->S b\/eb m hp b)/\(∀b,S' b->b<w.heap.size)/\nj O.af S' w lo r u:=by
 unfold result at hr
 split at hr
 ·rename_i vs
  split at hr
  ·cases h1:sY deep hp vs with
   | none=>simp [h1] at hr
   | some q=>
    simp only [h1,yd] at hr;subst hr;obtain ⟨us,rfl,hv⟩:=hv;obtain ⟨S',bs,g1,g2,g3,g4,g5,g6⟩:=aaW (lo:=lo) hh h1 hv bi;exact ⟨S',g1,g2,g6,us,bs,rfl,g3,g4⟩
  ·cases h1:freeze deep hp (.ae vs) with
   | none=>simp [h1] at hr
   | some q=>
    obtain ⟨v',ap⟩:=q;simp only [h1,yd] at hr;subst hr;obtain ⟨S',g1,g2,g3,g4,g5,g6⟩:=aaV (lo:=lo) hh h1 hv;refine ⟨S',g2,g3,g1.slt,?_⟩
    cases v' with
    | ae cs=>
     obtain ⟨xs,rfl,g5⟩:=g5;exact ⟨xs,[],rfl,QO (by simpa [a6] using g4) g5,by simp⟩
    | _=>exact ⟨[],g6⟩
 ·rename_i Pn
  cases h1:pc deep hp v with
  | none=>simp [h1] at hr
  | some q=>
   obtain ⟨v',ap⟩:=q;simp only [h1,yd] at hr;subst hr;obtain ⟨S',bs,g1,g2,g3,g4,_⟩:=abI (lo:=lo) hh h1 hv bi;refine ⟨S',g2,g3,g1.slt,?_⟩
   cases v' with
   | ae cs=>
    obtain ⟨rfl,h2,h3⟩:=g4;obtain ⟨xs,rfl,h2⟩:=h2;exact ⟨xs,[],rfl,QO (by simpa [a6] using h3) h2,by simp⟩
   | _=>exact ⟨bs,g4⟩
end
end
section
open Go
def WF (ro:Option Nat):Fence:={Fence.wide with round:=ro}
section
variable {O:bk}
def aha (O:bk) (hp:Hp) (ct:Nat) (l:Nat) (xs:List AV) (v:AV) (ap:Hp) (a7:Nat):Prop:=
 ∀(m:Mp) (S:Nat->Prop) (w:yi) (args:Array yg) (p:Pl),aU O m S w hp ct->m l=some p->az O.af m S w xs args.toList->
  ∃f tmps assign body,(Instr.yield p.b args).run O.P w= .ok (.round p.b f tmps assign body) w/\yaD Fence.wide 0 O.P p.b f tmps assign body w (sU O m S w hp ct v ap a7)
structure nK (O:bk) (run:cA):Prop where
 pure:∀n av r,bO O.prog O.aE run n av=some r->ep O n av r
 heap:∀hp ct n av v ap a7,iL O.prog O.aE run hp ct n av=some (v,ap,a7)->A4 O n hp ct av v ap a7
 round:∀hp ct l xs v ap a7,nJ run hp ct l xs=some (v,ap,a7)->aha O hp ct l xs v ap a7
end
section
variable {P:y5} {o:yX} {a:Act} {w:yi} {ro:Option Nat} {next:Act->yi->Prop} {Q:um->Act->yi->Prop}
def Lx {c:td} {f:xp} (ho:o.op= .call c) (hc:c.callee= .value f) {g:tU} {fi ca:Array yg} (hf:a.eval f= .func (.func g) fi ca) {R:Ending->yi->Prop}
  (h:AL P g (fi++c.args.map a.eval++ca) w R) (hn:∀e w',R e w'->∃u,e= .returned u/\next (a.put o.dst u) w'):o.wpIn (WF ro) 0 P a w next Q:=by
 have fo:(o.semAt ro a.eval).run P w=(callFunc g (fi++c.args.map a.eval++ca)).run P w:=by
  rw [Oper.semAt_eq _ _ _ (fun c' h'=>by rw [ho] at h';cases h')];simp only [execOp,ho,resolve,hc,Deferred.ofValue,hf,Sem.run_bind,Sem.run_pure,Result.andThen_ok,invoke]
 refine ⟨fun _ _=>trivial,?_⟩;show o.uponIn (WF ro) 0 P a next Q ((o.semAt ro a.eval).run P w)
 rw [fo];rcases h with ⟨h1,h2⟩ | ⟨u,w',h1,h2⟩
 ·rw [h1,Oper.uponIn_enter];refine ⟨fun h=>by simp [WF,Fence.wide] at h,?_⟩;have h3:CallsIn (WF ro) 0 P g (fi++c.args.map a.eval++ca) w R:=h2;refine CallsIn.mono h3 (fun e w' he=>?_);obtain ⟨u,rfl,hq⟩:=hn e w' he;exact hq
 ·rw [h1];obtain ⟨u',e,hq⟩:=hn _ _ h2;injection e with e
  subst e;exact hq
def aq5 {c:td} {f:xp} (ho:o.op= .call c) (hc:c.callee= .value f) {l:Nat} (hf:a.eval f= .func (.yield l) #[] #[]) {R:Ending->yi->Prop} {g:tU} {tmps:Array yg} {assign body:wX}
  (hy:(Instr.yield l (c.args.map a.eval)).run P w= .ok (.round l g tmps assign body) w) (h:yaD Fence.wide 0 P l g tmps assign body w R) (hn:∀e w',R e w'->∃u,e= .returned u/\next (a.put o.dst u) w'):o.wpIn (WF ro) 0 P a w next Q:=by
 have fo:(o.semAt ro a.eval).run P w= .ok (.round l g tmps assign body) w:=by
  rw [Oper.semAt_eq _ _ _ (fun c' h'=>by rw [ho] at h';cases h')];simp only [execOp,ho,resolve,hc,Deferred.ofValue,hf,Sem.run_bind,Sem.run_pure,Result.andThen_ok,invoke,Array.empty_append];exact hy
 refine ⟨fun _ _=>trivial,?_⟩;show o.uponIn (WF ro) 0 P a next Q ((o.semAt ro a.eval).run P w)
 rw [fo,Oper.uponIn_round];refine ⟨fun h=>by simp [WF,Fence.wide] at h,?_⟩;have h3:yaD (WF ro) 0 P l g tmps assign body w R:=h;refine RoundIn.mono h3 (fun e w' he=>?_);obtain ⟨u,rfl,hq⟩:=hn e w' he;exact hq
def Ip {n:yau} {u:yg} {w':yi} (hd:∀c,o.op≠.defer c) (h:(execOp a.eval o).run P w= .ok n w') (hn:n= .value u\/(n= .skip/\u=undef)) (hq:next (a.put o.dst u) w'):o.wpIn (WF ro) 0 P a w next Q:=by
 refine ⟨fun _ _=>trivial,?_⟩;show o.uponIn (WF ro) 0 P a next Q ((o.semAt ro a.eval).run P w)
 rw [Oper.semAt_eq _ _ _ hd,h];rcases hn with rfl | ⟨rfl,rfl⟩
 ·exact hq
 ·exact hq
end
def py (P:y5) (H:Hint) (q:Op) (o:yX):Prop:=
 (∃k,q=aW P H k o)\/(∃c f rs,o.op= .call c/\c.callee= .value f/\q= .iM rs (aK H f) (gL H c.args.toList))\/
  (∃t x y sz rs,o.op= .store t x y/\cE P t=some sz/\q= .jA rs sz (aK H x) (aK H y))\/
  (∃k rs sz b x y,Op.aO sz b x y=aW P H k o/\q= .kU rs sz b x y)\/∃k sz b x y,Op.aO sz b x y=aW P H k o/\q= .pN sz b x y
def iP:Op->Op
 | .iM _ f xs=> .iM [] f xs
 | .jA _ s x v=> .st s x v
 | .kU _ s b x v=> .aO s b x v
 | o=>o
section
variable {O:bk} {H:Hint} {m:Mp} {S:Nat->Prop} {w:yi} {tm:Env} {a:Act} {hp:Hp} {ct:Nat} {self:cA} {ro:Option Nat} {next:Act->yi->Prop} {Q:um->Act->yi->Prop}
def My {o:yX} {k:Nat} {md:Md} {x:X} {xs:List X} (h:aW O.P H k o= .call md x xs) (hb:x≠.c .undef):∃c f,o.op= .call c/\c.callee= .value f/\x=aK H f/\xs=gL H c.args.toList:=by
 have nb:bad= .call md x xs->False:=fun h=>by simp only [bad,Op.call.injEq] at h;exact hb h.2.1.symm
 cases ho:o.op with
 | call c=>
  obtain ⟨callee,args,ts⟩:=c;simp only [aW,ho] at h
  split at h
  ·rename_i f;cases hm:H.mode k<;>simp only [hm,Op.call.injEq,reduceCtorEq] at h
   all_goals exact ⟨_,f,rfl,rfl,h.2.1.symm,h.2.2.symm⟩
  ·repeat' split at h
   all_goals first
    | exact (nb h).elim
    | (cases h;done)
    | (revert h;generalize yu _ _=bb;intro h;cases bb<;>first | exact (nb h).elim | (cases h;done))
  ·exact (nb h).elim
 | binOp op t x' y ty=>
  cases op<;>simp only [aW,ho,nM,oU] at h
  case eql=>
        repeat' split at h
        all_goals first
         | exact (nb h).elim
         | (cases h;done)
         | (cases cw:(O.P.stoodInHeld t||O.P.eqGuardType O.P.depth t)<;>rw [cw] at h<;>first | exact (nb h).elim | (cases h;done))
  case neq=>
        repeat' split at h
        all_goals first
         | exact (nb h).elim
         | (cases h;done)
         | (cases cw:(O.P.stoodInHeld t||O.P.eqGuardType O.P.depth t)<;>rw [cw] at h<;>first | exact (nb h).elim | (cases h;done))
  all_goals cases h
 | buildSlice t n parts=>
  simp only [aW,ho] at h
  repeat' split at h
  all_goals first
   | exact (nb h).elim
   | (cases h;done)
   | (revert h;generalize yE _ _=bb;intro h;cases bb<;>first | exact (nb h).elim | (simp only [yA] at h;cases h;done))
 | makeMap t r=>
  cases r<;>simp only [aW,ho] at h
  ·repeat' split at h
   all_goals first
    | exact (nb h).elim
    | (cases h;done)
  ·exact (nb h).elim
 | next x' b=>
  cases b<;>simp only [aW,ho] at h
  ·exact (nb h).elim
  ·cases h
 | _=>
  simp only [aW,ho] at h
  (repeat' split at h)
  all_goals first
   | contradiction
   | exact (nb h).elim
   | (cases h;done)
def aoj {o:yX} {k:Nat} {r:AV×Hp×Nat} (hv:bf O.prog O.aE self tm hp ct (aW O.P H k o)=some r):∀c,o.op≠.defer c:=by
 intro c ho;simp [aW,ho,bad,bf,eJ,aD] at hv
end
end
section
open Go
section
variable {O:bk} {H:Hint} {m:Mp} {S:Nat->Prop} {w:yi} {tm:Env} {a:Act} {hp:Hp} {ct cq:Nat}
def gZ (tm:Env) (hp:Hp) (ct:Nat):Op->Option (AV×Obj)
 | .aO sz b x y=>rK hp ct sz b (aD tm x) (jt hp sz (aD tm y))
 | _=>none
def Sf (O:bk) (m:Mp) (S:Nat->Prop) (w:yi) (a:Act) (ct:Nat) (o:yX) (v:AV) (b:Obj):Prop:=
 ∃u g p,(execOp a.eval o).run O.P w= .ok (.value u) (w.drew.alloc g)/\p.b=w.heap.size/\¬iq b/\
  ∀m',de m m'->m' ct=some p->eW O m' S (w.drew.alloc g) ct b/\ah O.af m' S (w.drew.alloc g) v u
def aq6 {e:yC} {z:yg} {sz need cap:Nat} {cs:List AV} {us:List yg} (hh:aU O m S w hp cq) (hr:az O.af m S w cs us) (hl:us.length=need*sz) (hz:z.cells.size=sz)
  (CT:Bool) (YM:CT=true->aG cs=true) (hc:need<=cap):
  let w':=w.drew.alloc (.cells (us.toArray++Builtin.zeroCells z.cells (cap-need)) e)
  let p:Pl:=⟨w.heap.size,0,cap*sz,sz⟩
  ∀m',de m m'->m' ct=some p->eW O m' S w' ct (.cells true CT false sz cs):=by
 intro w' p m' hm hi;have aR:fA S w w':=fun b hb=>by
  have:=hh.slt b hb
  exact RowKit.Below.heap_alloc w.drew _ b (by simpa using this)
 have iV:w'.heap[w.heap.size]? =some (.cells (us.toArray++Builtin.zeroCells z.cells (cap-need)) e (0,0)):=heap_alloc_new w.drew _;have gP:=gC _ _ hr;refine ⟨p,_,e,hi,iV,rfl,?_,?_,by simp,?_,YM,?_,by simp⟩
 ·show cs.length<=cap*sz
  rw [<-gP,hl];exact yV _ hc
 ·show 0+cap*sz<=_
  rw [Array.size_append,uC,size_zeroCells,hz,hl,<-wL];rw [yf];exact yV _ (by omega)
 ·refine LL iV cs us 0 (gB hm (fun _ h=>h) aR _ _ hr) (fun j u hj=>?_);rw [yf,Array.getElem?_append_left (by rw [uC];exact (wh.1 hj).1),List.getElem?_toArray]
  exact hj
 ·intro _ hS
  have:=hh.slt _ hS
  simp [p] at this
def ml {a b:Nat} (h:yR a b=true):a<b:=yv h
def aq7 {o:yX} {b':yC} {t u e:yC} {sz by':Nat} {z:AV} {x y:xp} {v:AV} {aF:Obj} (hH:fc O H) (ht:b9 O m S w tm a.tmps) (hh:aU O m S w hp cq)
  (fo:(execOp a.eval o).run O.P w=((do pure (.value (<-Builtin.append_ #[t,u] b' #[a.eval x,a.eval y])):Sem yau)).run O.P w)
  (ss:O.P.underlying t=some (.slice e)) (hu:(∃e',O.P.underlying u=some (.slice e'))\/O.P.underlying u=some .string) (hs:cE O.P e=some sz) (hb:se O.P e=some by') (hz:lH O.P e=some z) (qR:(cellsOf z).length=sz)
  (hv:gZ tm hp ct (.aO sz by' (aK H x) (aK H y))=some (v,aF)):Sf O m S w a ct o v aF:=by
 simp only [gZ] at hv;obtain ⟨ti,zv,nt,rfl,rfl,Kz,rfl⟩:=adK hs hb hz;have aP:∀u' w',(Builtin.append_ #[t,u] b' #[a.eval x,a.eval y]).run O.P w= .ok u' w'->(execOp a.eval o).run O.P w= .ok (.value u') w':=fun u' w' h=>by
  rw [fo,Sem.run_bind,h];rfl
 have Dp:zv.cells.size=ti.size:=by
  have:=gC _ _ (Cc (af:=O.af) (m:=m) (S:=S) (w:=w) zv)
  rw [<-qR,<-this];simp
 cases mz:jt hp ti.size (aD tm (aK H y)) with
 | none=>simp [mz,rK] at hv
 | some q=>
  obtain ⟨n,new⟩:=q;rw [mz] at hv;obtain ⟨news,ij,dK⟩:=abC hh (cz hH ht y) mz;have BK:=gC _ _ ij;have rx:=cz hH ht x;cases hx:aD tm (aK H x)<;>rw [hx] at hv rx<;>simp only [rK,reduceCtorEq] at hv
  rename_i id o0 k;simp only [ah] at rx;obtain ⟨p,c,hm,ex,h1,h2⟩:=rx
  split at hv
  case h_2=>cases hv
  rename_i rw' pu zz cs hg
  cases hc:(yu zz ti.size&&(yR 0 n&&(yE (k+n) room&&(yE ((k+n)*ti.bytes) room&&(yu (o0+k*ti.size) cs.length&&yR 0 ti.size))))) with
  | false=>rw [hc] at hv;cases hv
  | true=>
   rw [hc] at hv;simp only [yA,yd,yk] at hv;obtain ⟨rfl,rfl⟩:=hv;simp only [ye] at hc;have c0:=yj hc.1;have c5:=ml hc.2.1;have c1:=yv hc.2.2.1;have c2:=yv hc.2.2.2.1;have c3:=yj hc.2.2.2.2.1;have c4:=ml hc.2.2.2.2.2;simp only [room] at c1 c2;obtain ⟨p',arr,t',g1,g2,g3,g4,g5,g6,g7,g8,g9,g10⟩:=hh.obj id _ _ hg hm;rw [hm] at g1;injection g1 with g1
   subst g1;subst c0;rw [g3] at h2;have hce:=g6 rfl;have nv:c=k:=by
    have:c*ti.size=k*ti.size:=by omega
    exact tE c4 this
   subst nv;have FZ:bT O.af m S w (slice o0 (c*ti.size) cs) p.b (p.o+o0):=Av _ _ _ _ (p8 _ _ _ _ g7);obtain ⟨lK,f1,f2,f3⟩:=rh _ _ _ FZ;have Ny:(slice o0 (c*ti.size) cs).length=c*ti.size:=by simp only [slice,yI,xP];omega
   have gQ:(pu&&aG new)=true->aG (slice o0 (c*ti.size) cs++new)=true:=fun h=>by
    simp only [ye] at h;exact Cd (As _ (sO _ _ (g8 h.1))) h.2
   have KA:Src O.P w ti.size c lK (.slice (some ⟨p.b,p.o+o0,none⟩) c c):=D5 (by omega) (fun j u hj=>by rw [nN];exact f3 j u hj)
   have hr:=Lp (P:=O.P) (ty:=b') (w:=w) ss hu nt Kz rfl KA dK (by omega) c1 c2;have jO:=grownCap_ge w (c+n) c e;have iV:=aq6 (ct:=ct) (e:=e) (z:=zv) (cap:=grownCap w (c+n) c e) hh (lj f1 ij) (need:=c+n) (sz:=ti.size) (by rw [yL,f2,Ny,dK.2.1,wL]) Dp (pu&&aG new) gQ jO;exact ⟨_,_,⟨w.heap.size,0,grownCap w (c+n) c e*ti.size,ti.size⟩,aP _ _ (by rw [ex];exact hr),rfl,by simp [iq],fun m' hle hi=>⟨iV m' hle hi,by simp only [ah];exact ⟨_,_,hi,rfl,jO,by simp⟩⟩⟩
def aok {Hq:Hp} (hl:cU hp Hq) {sz:Nat} {v:AV} {q:Nat×List AV} (h:jD hp sz v=some q):jD Hq sz v=some q:=by
 cases v<;>simp only [jD,reduceCtorEq] at h ⊢
 ·exact h
 ·exact h
 ·rename_i id o n
  cases hg:aq hp id with
  | none=>simp [hg] at h
  | some ob=>
   cases ob<;>simp only [hg,reduceCtorEq] at h
   obtain ⟨o',h1,r,rfl,_⟩:=hl id _ hg;simp only [h1];exact h
def apj {Hq:Hp} (hl:cU hp Hq) {sz:Nat} {v:AV} {q:Nat×List AV} (h:jt hp sz v=some q):jt Hq sz v=some q:=by
 by_cases hs:∃b,v= .str b
 ·obtain ⟨b,rfl⟩:=hs;exact h
 ·have e:∀hp:Hp,jt hp sz v=jD hp sz v:=fun hp=>by
   cases v<;>first
    | rfl
    | exact absurd ⟨_,rfl⟩ hs
  rw [e] at h ⊢;exact aok hl h
def aq8 {Hq:Hp} (hl:cU hp Hq) {sz b:Nat} {x y v:AV} {aF:Obj} (h:rK hp ct sz b x (jt hp sz y)=some (v,aF)):rK Hq ct sz b x (jt Hq sz y)=some (v,aF):=by
 cases hs:jt hp sz y with
 | none=>rw [hs] at h;simp [rK] at h
 | some q=>
  rw [apj hl hs];rw [hs] at h;obtain ⟨n,new⟩:=q;cases x<;>simp only [rK,reduceCtorEq] at h ⊢
  rename_i id o k
  cases hg:aq hp id with
  | none=>simp [hg] at h
  | some ob=>
   cases ob with
   | cells rw' pu ex z cs=>
    cases ex with
    | false=>simp [hg] at h
    | true=>
     obtain ⟨o',h1,r,rfl,_⟩:=hl id _ hg;simp only [hg] at h;simp only [h1];exact h
   | _=>simp [hg] at h
def avn {o:yX} {k:Nat} {v:AV} {aF:Obj} (hH:fc O H) (ht:b9 O m S w tm a.tmps) (hh:aU O m S w hp cq)
  (hv:gZ tm hp ct (aW O.P H k o)=some (v,aF)):Sf O m S w a ct o v aF:=by
 have hZ:∀{r:AV×Obj},gZ tm hp ct bad=some r->False:=fun h=>by simp [bad,gZ] at h
 cases ho:o.op with
 | call c=>
  obtain ⟨callee,args,ts⟩:=c;simp only [aW,ho] at hv
  split at hv
  ·cases Kt:H.mode k<;>simp [Kt,gZ] at hv
  ·rename_i _ b
   split at hv
   ·rename_i x y t u fG mL;obtain ⟨al⟩:=args;obtain ⟨tl⟩:=ts;simp only at fG mL;subst fG;subst mL;obtain ⟨cs,fo⟩:=DX (O:=O) (w:=w) (a:=a) ho;have I2:(execOp a.eval o).run O.P w=((do pure (.value (<-Builtin.append_ #[t,u] o.type #[a.eval x,a.eval y])):Sem yau)).run O.P w:=by
     rw [fo];simp [builtin]
    have key:∀{z:AV} {sz by':Nat} {e:yC},O.P.underlying t=some (.slice e)->((∃e',O.P.underlying u=some (.slice e'))\/O.P.underlying u=some .string)->cE O.P e=some sz->se O.P e=some by'->lH O.P e=some z->
      gZ tm hp ct (bif yu (cellsOf z).length sz then .aO sz by' (aK H x) (aK H y) else bad)=some (v,aF)->Sf O m S w a ct o v aF:=by
     intro z sz by' e h1 h2 h3 h4 h5 h
     cases hb:yu (cellsOf z).length sz with
     | false=>rw [hb] at h;exact (hZ h).elim
     | true=>
      rw [hb] at h;exact aq7 hH ht hh I2 h1 h2 h3 h4 h5 (yj hb) h
    split at hv
    ·rename_i e e' h1 h2
     split at hv
     ·rename_i sz by' z h3 h4 h5
      exact key h1 (.inl ⟨_,h2⟩) h3 h4 h5 hv
     ·exact (hZ hv).elim
    ·rename_i e h1 h2
     split at hv
     ·rename_i sz by' z h3 h4 h5
      exact key h1 (.inr h2) h3 h4 h5 hv
     ·exact (hZ hv).elim
    ·exact (hZ hv).elim
   ·repeat' split at hv
    all_goals simp [gZ,bad] at hv
   ·repeat' split at hv
    all_goals simp [gZ,bad] at hv
   ·simp [gZ] at hv
   ·simp [gZ] at hv
   ·exact (hZ hv).elim
  ·exact (hZ hv).elim
 | next x b=>
  cases b<;>simp [aW,ho,gZ,bad] at hv
 | binOp op t x y ty=>
  cases op<;>simp only [aW,ho,nM,oU] at hv
  case eql=>
        repeat' split at hv
        all_goals first
         | (simp [gZ,bad] at hv;done)
         | (cases hb:(O.P.stoodInHeld t||O.P.eqGuardType O.P.depth t)<;>rw [hb] at hv<;>simp [gZ,bad] at hv)
  case neq=>
        repeat' split at hv
        all_goals first
         | (simp [gZ,bad] at hv;done)
         | (cases hb:(O.P.stoodInHeld t||O.P.eqGuardType O.P.depth t)<;>rw [hb] at hv<;>simp [gZ,bad] at hv)
  all_goals simp [gZ] at hv
 | buildSlice t n parts=>
  simp only [aW,ho] at hv
  repeat' split at hv
  all_goals first
   | (simp [gZ,bad] at hv;done)
   | (
     revert hv;generalize yE _ _=bb;intro hv;cases bb<;>simp [gZ,bad] at hv
     try (split at hv<;>simp [gZ,bad] at hv))
 | makeMap t r=>
  cases r<;>simp only [aW,ho] at hv
  ·repeat' split at hv
   all_goals simp [gZ,bad] at hv
  ·exact (hZ hv).elim
 | _=>
  simp only [aW,ho] at hv
  (repeat' split at hv)
  all_goals first
   | contradiction
   | (simp [gZ,bad] at hv;done)
end
end
section
open Go
section
variable {O:bk} {H:Hint} {m:Mp} {S:Nat->Prop} {w:yi} {tm:Env} {a:Act} {hp ap Hq:Hp} {ct a7 cH:Nat} {self:cA} {ro:Option Nat} {next:Act->yi->Prop} {Q:um->Act->yi->Prop}
def abJ {g:tp} {p:Pl} {S':Nat->Prop} {base:Nat} (hh:aU O m S w Hq cH) (hi:m ct=none) (hb:p.b=w.heap.size) (h1:∀b,S b->S' b) (h2:∀b,S' b->S b\/b=w.heap.size):
  ck m S w Hq (fp m ct p) S' (w.alloc g) Hq base where
 os:=rfl
 tape:=rfl
 output:=rfl
 size:=by simp
 same b hb _:=alloc_old hb
 sub:=h1
 still b hb:=alloc_old (hh.slt b hb)
 new b hb:=(h2 b hb).imp (fun h=>h) (fun h=> .inr (by omega))
 own b hb:=by
  obtain ⟨i,o,q,g1,g2,g3⟩:=hb;by_cases hc:i=ct
  ·subst hc;rw [dN] at g2
   grind
  ·rw [ed hc] at g2;exact .inl ⟨i,o,q,g1,g2,g3⟩
 old i q _ h:=jr hi i q h
 loops b r hb:=⟨r,(alloc_old (xt.1 hb).1).trans hb⟩
def aax {M4 av:List AV} {us:List yg} {bj:Hp} (hz:cI deep hp M4=some (av,bj)) (hl:cU bj Hq) (hh:aU O m S w Hq cH) (hr:az O.af m S w M4 us):az O.af eM S w av us/\aG av=true:=by
 obtain ⟨_,_,h3⟩:=Qr (O:=O) hz;obtain ⟨k1,k2⟩:=h3 Hq m S w cH hl hh;exact ⟨sQ (fun _ h=>h) (fun _ _=>rfl) _ _ k2 (k1 us hr),k2⟩
def RP (hh:aU O m S w Hq cH):A3 O w:=⟨hh.lJ,hh.fF⟩
def L8 (hH:fc O H) (ht:b9 O m S w tm a.tmps) {f:xp} {g:Nat} {first cap:List AV} {args:Array xp} (hf:aD tm (aK H f)= .fn (.f g) first cap):
  ∃fi ca:Array yg,a.eval f= .func (.func (O.af g)) fi ca/\az O.af m S w (first++(dw tm (gL H args.toList)++cap)) (fi++args.map a.eval++ca).toList:=by
 have rf:=cz hH ht f;rw [hf] at rf;obtain ⟨fi,ca,h1,h2,h3⟩:=rf;refine ⟨fi,ca,h1,?_⟩
 have:=lj h2 (lj (Cv hH ht args.toList) h3)
 simp_all
def aol (hC:nK O self) (hH:fc O H) {o:yX} {c:td} {f:xp} (ho:o.op= .call c) (iF:c.callee= .value f) {g:Nat} {first cap av:List AV} {bj:Hp} {r:AV}
  (hf:aD tm (aK H f)= .fn (.f g) first cap) (hz:cI deep hp (first++(dw tm (gL H c.args.toList)++cap))=some (av,bj)) (hr:bO O.prog O.aE self g av=some r)
  (hl:cU bj Hq) (ht:b9 O m S w tm a.tmps) (hh:aU O m S w Hq cH)
  (hn:∀u S' w',aU O m S' w' Hq cH->ah O.af m S' w' (shut r) u->ck m S w Hq m S' w' Hq cH->next (a.put o.dst u) w'):o.wpIn (WF ro) 0 O.P a w next Q:=by
 obtain ⟨fi,ca,h1,h2⟩:=L8 hH ht (args:=c.args) hf;obtain ⟨h3,h4⟩:=aax hz hl hh h2;refine Lx ho iF h1 (hC.pure g av r hr w S _ (RP hh) hh.slt h3 h4) ?_;rintro e w' ⟨u,S',rfl,hw,g1,g2,g3,g4⟩;refine ⟨u,rfl,?_⟩;obtain ⟨S2,k1,k2,k3⟩:=abF g4 m;have hS:∀b,S b->S2 b:=fun b hb=>k1 b (g1 b hb)
 have KB:∀b,S2 b->S b\/w.heap.size<=b:=fun b hb=>(k2 b hb).elim (g2 b) (fun h=> .inr h.1)
 have hl:∀b,S2 b->b<w'.heap.size:=fun b hb=>(k2 b hb).elim (g3 b) (fun h=>h.2)
 exact hn u S2 w' (Ci hh hw hS KB hl) k3 (AB hh hw hS KB)
def apk (hC:nK O self) (hH:fc O H) {o:yX} {c:td} {f:xp} (ho:o.op= .call c) (iF:c.callee= .value f) {g:Nat} {first cap av:List AV} {bj:Hp} {r:AV}
  (hf:aD tm (aK H f)= .fn (.f g) first cap) (hz:cI deep hp (first++(dw tm (gL H c.args.toList)++cap))=some (av,bj)) (hr:bO O.prog O.aE self g av=some r)
  (hl:cU (own bj ct r).2.1 Hq) (fT:(own bj ct r).2.2<=cH) (aX:∀id o,aq hp id=some o->id<ct) (sA:∀id,ct<=id->id<(own bj ct r).2.2->m id=none)
  (ht:b9 O m S w tm a.tmps) (hh:aU O m S w Hq cH)
  (hn:∀u m' S' w',aU O m' S' w' Hq cH->de m m'->(∀id p,m' id=some p->m id=some p\/(ct<=id/\id<(own bj ct r).2.2))->ah O.af m' S' w' (own bj ct r).1 u->ck m S w Hq m' S' w' Hq cH->next (a.put o.dst u) w'):
  o.wpIn (WF ro) 0 O.P a w next Q:=by
 obtain ⟨fi,ca,h1,h2⟩:=L8 hH ht (args:=c.args) hf;obtain ⟨z1,z2,z3⟩:=Qr (O:=O) hz;have Tb:∀id o,aq bj id=some o->id<ct:=fun id o h=>by
  have:=z2 id
  rw [h] at this
  cases hq:aq hp id with
  | none=>rw [hq] at this;cases this
  | some q=>exact aX id q hq
 have avo:∀id o,aq bj id=some o->aq (own bj ct r).2.1 id=some o:=fun id o h=>by
  cases r with
  | ae vs=>exact Mw Tb id o h
  | _=>exact RO Tb id o h
 have nn:cU bj Hq:=fun id o h=>hl id o (avo id o h)
 obtain ⟨h3,h4⟩:=aax hz nn hh h2;refine Lx ho iF h1 (hC.pure g av r hr w S _ (RP hh) hh.slt h3 h4) ?_;rintro e w' ⟨u,S',rfl,hw,g1,g2,g3,g4⟩;refine ⟨u,rfl,?_⟩;have BM:=Ci hh hw g1 g2 g3;have BI:=AB (base:=cH) hh hw g1 g2;obtain ⟨m',S2,k1,k2,k3,k4,k5,k6⟩:=avm (lo:=w.heap.size) BM hl fT Tb sA g4 hh.fF (fun j q hq=>hh.blt j q hq);refine hn u m' S2 w' k1 k2 (fun id p h=>(k3 id p h).imp (fun h=>h) (fun h=>⟨h.1,h.2.1⟩)) k4 ⟨hw.os,hw.tape,hw.output,hw.size,fun b hb _=>hw.same b hb,fun b hb=>k5 b (g1 b hb),fun b hb=>hw.same b (hh.slt b hb),?_,?_,fun i q _ h=>k2 i q h,BI.loops⟩
 ·grind
 ·rintro b ⟨i,ob,q,q1,q2,q3⟩;rcases k3 i q q2 with h | h
  ·exact .inl ⟨i,ob,q,q1,h,q3⟩
  ·grind
def aom {P:y5} {H:Hint} {o:yX} {k:Nat} {sz b:Nat} {x y:X} (hk:Op.pN sz b x y=aW P H k o):False:=by
 cases ho:o.op with
 | call c=>
  obtain ⟨callee,args,ts⟩:=c;simp only [aW,ho] at hk
  split at hk
  ·rename_i f;cases hm:H.mode k<;>simp only [hm,reduceCtorEq] at hk
  ·repeat' split at hk
   all_goals first
    | (cases hk;done)
    | (simp only [bad] at hk;cases hk;done)
    | (revert hk;generalize yu _ _=bb;intro hk;cases bb<;>simp [bad] at hk)
  ·simp only [bad] at hk;cases hk
 | binOp op t x' y ty=>
  cases op<;>simp only [aW,ho,nM,oU] at hk
  case eql=>
        repeat' split at hk
        all_goals first
         | (cases hk;done)
         | (simp only [bad] at hk;cases hk;done)
         | (cases cw:(P.stoodInHeld t||P.eqGuardType P.depth t)<;>rw [cw] at hk<;>simp [bad] at hk)
  case neq=>
        repeat' split at hk
        all_goals first
         | (cases hk;done)
         | (simp only [bad] at hk;cases hk;done)
         | (cases cw:(P.stoodInHeld t||P.eqGuardType P.depth t)<;>rw [cw] at hk<;>simp [bad] at hk)
  all_goals cases hk
 | buildSlice t n parts=>
  simp only [aW,ho] at hk
  repeat' split at hk
  all_goals first
   | (cases hk;done)
   | (simp only [bad] at hk;cases hk;done)
   | (revert hk;generalize yE _ _=bb;intro hk;cases bb<;>simp [bad] at hk)
 | makeMap t r=>
  cases r<;>simp only [aW,ho] at hk
  ·repeat' split at hk
   all_goals first
    | (cases hk;done)
    | (simp only [bad] at hk;cases hk;done)
  ·simp only [bad] at hk;cases hk
 | next x' b=>
  cases b<;>simp only [aW,ho] at hk
  ·simp only [bad] at hk;cases hk
  ·cases hk
 | _=>
  simp only [aW,ho] at hk
  (repeat' split at hk)
  all_goals first
   | contradiction
   | (cases hk;done)
   | (simp only [bad] at hk;cases hk;done)
def avp {P:y5} {H:Hint} {o:yX} {sz b:Nat} {x y:X} (hq:py P H (.pN sz b x y) o):∃k,Op.aO sz b x y=aW P H k o:=by
 rcases hq with ⟨k,hk⟩ | ⟨_,_,_,_,_,h3⟩ | ⟨_,_,_,_,_,_,_,h3⟩ | ⟨_,_,_,_,_,_,_,h3⟩ | ⟨k,Dr,b',x',y',h1,h3⟩
 ·exact (aom hk).elim
 ·cases h3
 ·cases h3
 ·cases h3
 ·simp only [Op.pN.injEq] at h3;obtain ⟨rfl,rfl,rfl,rfl⟩:=h3;exact ⟨k,h1⟩
def quiet_step (hC:nK O self) (hH:fc O H) {o:yX} {q:Op} {v:AV} (hk:bA q<=1) (hq:py O.P H q o) (hd:∀c,o.op≠.defer c) (hv:bf O.prog O.aE self tm hp ct q=some (v,ap,a7)) (hl:cU ap Hq) (fT:a7<=cH)
  (aX:∀id o,aq hp id=some o->id<ct) (sA:∀id,ct<=id->id<a7->m id=none) (ht:b9 O m S w tm a.tmps) (hh:aU O m S w Hq cH)
  (hn:∀u m' S' w',aU O m' S' w' Hq cH->de m m'->(∀id p,m' id=some p->m id=some p\/(ct<=id/\id<a7))->ah O.af m' S' w' v u->ck m S w Hq m' S' w' Hq cH->next (a.put o.dst u) w'):
  o.wpIn (WF ro) 0 O.P a w next Q:=by
 by_cases Ds:∃sz b x y,q= .pN sz b x y
 ·obtain ⟨sz,b,x,y,rfl⟩:=Ds;obtain ⟨k,ja⟩:=avp hq;simp only [bf] at hv
  cases hm:rK hp ct sz b (aD tm x) (jt hp sz (aD tm y)) with
  | none=>simp [hm] at hv
  | some r=>
   obtain ⟨v1,aF⟩:=r;simp only [hm,yd,yk] at hv;obtain ⟨rfl,rfl,rfl⟩:=hv;have j9:cU hp Hq:=fun id o' jL=>hl id o' (by
    rw [fy,yB (by have:=aX id o' jL;omega)];exact jL)
   have bn:gZ tm Hq ct (aW O.P H k o)=some (v1,aF):=by rw [<-ja];exact aq8 j9 hm
   have hi:=sA ct (yr _) (tk _);obtain ⟨u,g,p,h1,h2,h3,h4⟩:=avn hH ht hh bn;have qS:Calm w w.drew:=⟨rfl,rfl,rfl,yr _,fun _ _=>rfl⟩;have gS:=Ci hh qS (S':=S) (fun _ h=>h) (fun _ h=> .inl h) hh.slt;have F0:ck m S w Hq m S w.drew Hq cH:=AB hh qS (fun _ h=>h) (fun _ h=> .inl h);obtain ⟨S',k1,k2,k3⟩:=Q5 (i:=ct) (g:=g) (p:=p) gS hi fT h2 (fun o' jL=>by
    obtain ⟨YG,g1,g2⟩:=hl ct aF (by rw [fy];simp)
    rw [jL] at g1;injection g1 with g1
    subst g1
    have:=Qi g2 dN (h4 _ (jr hi) dN).1 h3
    rwa [h2] at this)
   refine Ip hd h1 (.inl rfl) (hn u _ S' _ k1 (jr hi) (fun id q hq=>?_) (lz (fun _ _ h=>h) k2 (fun _ _=>rfl) _ _ (h4 _ (jr hi) dN).2) (F0.trans (abJ gS hi h2 k2 k3)));by_cases hc:id=ct
   ·exact .inr (by omega)
   ·rw [ed hc] at hq;exact .inl hq
 have ja:∃k,q=aW O.P H k o:=by
  rcases hq with h | ⟨c,f,rs,_,_,rfl⟩ | ⟨_,_,_,_,_,_,_,rfl⟩ | ⟨_,_,_,_,_,_,_,rfl⟩ | ⟨_,_,_,_,_,_,h⟩
  ·exact h
  ·simp [bA] at hk
  ·simp [bA] at hk
  ·simp [bA] at hk
  ·exact (Ds ⟨_,_,_,_,h⟩).elim
 obtain ⟨k,hq⟩:=ja;have read:∀{v:AV},bw tm hp q=some v->cU hp Hq->(∀u m' S' w',aU O m' S' w' Hq cH->de m m'->(∀id p,m' id=some p->m id=some p\/(ct<=id/\id<a7))->ah O.af m' S' w' v u->ck m S w Hq m' S' w' Hq cH->next (a.put o.dst u) w')->o.wpIn (WF ro) 0 O.P a w next Q:=by
  intro v hr hl hn;have bn:=apc hl hr;rw [hq] at bn;obtain ⟨u,h1,h2⟩:=adG hH ht hh bn;exact Ip hd h1 (.inl rfl) (hn u m S w hh de.refl (fun _ _ h=> .inl h) h2 ck.refl)
 have makes:∀{v:AV} {b:Obj},cP tm hp ct q=some (v,b)->cU ((ct,b)::hp) Hq->ct+1<=cH->m ct=none->(∀u m' S' w',aU O m' S' w' Hq cH->de m m'->(∀id p,m' id=some p->m id=some p\/(ct<=id/\id<ct+1))->ah O.af m' S' w' v u->ck m S w Hq m' S' w' Hq cH->next (a.put o.dst u) w')->o.wpIn (WF ro) 0 O.P a w next Q:=by
  intro v b hr hl hc hi hn;rw [hq] at hr;have bn:cP tm Hq ct (aW O.P H k o)=some (v,b):=by rw [<-hr];exact Hv (fun _ _=>rfl)
  obtain ⟨u,g,p,h1,h2,h3,h4⟩:=asY hH ht hh bn;obtain ⟨S',k1,k2,k3⟩:=Q5 (i:=ct) (g:=g) (p:=p) hh hi hc h2 (fun o' jL=>by
   obtain ⟨YG,g1,g2⟩:=hl ct b (by rw [fy];simp)
   rw [jL] at g1;injection g1 with g1
   subst g1
   have:=Qi g2 dN (h4 _ (jr hi) dN).1 h3
   rwa [h2] at this)
  refine Ip hd h1 (.inl rfl) (hn u _ S' _ k1 (jr hi) (fun id q hq=>?_) (lz (fun _ _ h=>h) k2 (fun _ _=>rfl) _ _ (h4 _ (jr hi) dN).2) (abJ hh hi h2 k2 k3));by_cases hc:id=ct
  ·exact .inr (by omega)
  ·rw [ed hc] at hq;exact .inl hq
 have cL:∀{q:Op},(match cP tm hp ct q with | some (v,b)=>some (v,(ct,b)::hp,ct+1) | none=>(none:fS))=some (v,ap,a7)->∃b,cP tm hp ct q=some (v,b)/\ap=(ct,b)::hp/\a7=ct+1:=by
  intro q h
  cases hm:cP tm hp ct q with
  | none=>simp [hm] at h
  | some r=>
   obtain ⟨v1,b⟩:=r;simp only [hm,yd,yk] at h;obtain ⟨rfl,rfl,rfl⟩:=h;exact ⟨b,rfl,rfl,rfl⟩
 have jP:∀{q:Op},(match bw tm hp q with | some v=>some (v,hp,ct) | none=>(none:fS))=some (v,ap,a7)->bw tm hp q=some v/\ap=hp/\a7=ct:=by
  intro q h
  cases hm:bw tm hp q with
  | none=>simp [hm] at h
  | some r=>
   simp only [hm,yd,yk] at h;obtain ⟨rfl,rfl,rfl⟩:=h;exact ⟨rfl,rfl,rfl⟩
 have Iq:(∃b,cP tm hp ct q=some (v,b)/\ap=(ct,b)::hp/\a7=ct+1)->o.wpIn (WF ro) 0 O.P a w next Q:=by
  rintro ⟨b,h1,rfl,rfl⟩;exact makes h1 hl fT (sA ct (yr _) (tk _)) hn
 have avq:(bw tm hp q=some v/\ap=hp/\a7=ct)->o.wpIn (WF ro) 0 O.P a w next Q:=by
  rintro ⟨h1,rfl,rfl⟩;exact read h1 hl hn
 cases q with
 | st _ _ _=>simp [bA] at hk
 | pK _ _ _ _=>simp [bA] at hk
 | pM _=>simp [bA] at hk
 | aO _ _ _ _=>simp [bA] at hk
 | mJ _ _ _=>simp [bA] at hk
 | iM _ _ _=>simp [bA] at hk
 | jA _ _ _ _=>simp [bA] at hk
 | kU _ _ _ _ _=>simp [bA] at hk
 | pN sz b x y=>exact (Ds ⟨sz,b,x,y,rfl⟩).elim
 | box s x=>exact Iq (cL (by simp only [bf] at hv;exact hv))
 | cZ n s z ps=>exact Iq (cL (by simp only [bf] at hv;exact hv))
 | gj s b z x y=>exact Iq (cL (by simp only [bf] at hv;exact hv))
 | zY=>exact Iq (cL (by simp only [bf] at hv;exact hv))
 | pL x=>exact Iq (cL (by simp only [bf] at hv;exact hv))
 | call md x xs=>
  cases md with
  | heap=>simp [bA] at hk
  | dyn=>simp [bA] at hk
  | pure=>
   simp only [bf,eJ] at hv
   split at hv
   ·rename_i g first cap hx
    (try simp only at hv)
    cases hz:cI deep hp (first++(dw tm xs++cap)) with
    | none=>simp [hz] at hv
    | some z=>
     obtain ⟨av,bj⟩:=z;simp only [hz] at hv
     cases hr:bO O.prog O.aE self g av with
     | none=>simp [hr] at hv
     | some r=>
      simp only [hr,yd,yk] at hv;obtain ⟨rfl,rfl,rfl⟩:=hv;obtain ⟨c,f,ho,iF,rfl,rfl⟩:=My hq.symm (by rintro rfl;simp [aD] at hx);exact aol hC hH ho iF hx hz hr hl ht hh (fun u S' w' h1 h2 h3=>hn u m S' w' h1 de.refl (fun _ _ h=> .inl h) h2 h3)
   ·simp at hv
   ·cases hv
  | own=>
   simp only [bf,eJ] at hv
   split at hv
   ·rename_i g first cap hx
    (try simp only at hv)
    cases hz:cI deep hp (first++(dw tm xs++cap)) with
    | none=>simp [hz] at hv
    | some z=>
     obtain ⟨av,bj⟩:=z;simp only [hz] at hv
     cases hr:bO O.prog O.aE self g av with
     | none=>simp [hr] at hv
     | some r=>
      simp only [hr,yd] at hv;obtain ⟨c,f,ho,iF,rfl,rfl⟩:=My hq.symm (by rintro rfl;simp [aD] at hx);have e1:v=(own bj ct r).1:=by rw [hv]
      have e2:ap=(own bj ct r).2.1:=by rw [hv]
      have e3:a7=(own bj ct r).2.2:=by rw [hv]
      subst e1;subst e2;subst e3;exact apk hC hH ho iF hx hz hr hl fT aX sA ht hh hn
   ·simp at hv
   ·cases hv
 | _=>exact avq (jP (by simp only [bf] at hv;exact hv))
end
end
section
open Go
section
variable {O:bk} {H:Hint} {m:Mp} {S:Nat->Prop} {w:yi} {tm:Env} {a:Act} {hp ap:Hp} {ct a7:Nat} {self:cA} {ro:Option Nat} {next:Act->yi->Prop} {Q:um->Act->yi->Prop}
def ck.rR {m':Mp} {S':Nat->Prop} {w':yi} {b b':Nat} (h:ck m S w hp m' S' w' ap b) (hb:b'<=b):ck m S w hp m' S' w' ap b':=
 ⟨h.os,h.tape,h.output,h.size,h.same,h.sub,h.still,h.new,h.own,fun i q hi hq=>h.old i q (by omega) hq,h.loops⟩
def avr {hp:Hp} {ct:Nat} {r:AV} (aX:∀id o,aq hp id=some o->id<ct):∀id o,aq (own hp ct r).2.1 id=some o->id<(own hp ct r).2.2:=by
 have hL:∀(vs:List AV) (hp:Hp) (ct:Nat),(∀id o,aq hp id=some o->id<ct)->∀id o,aq (jH hp ct vs).2.1 id=some o->id<(jH hp ct vs).2.2:=by
  intro vs
  induction vs with
  | nil=>intro hp ct h id o ho;exact h id o ho
  | cons v r ih=>intro hp ct h id o ho;exact ih _ _ (H9 h) id o ho
 cases r with
 | ae vs=>exact hL vs hp ct aX
 | _=>exact H9 aX
def avt {hp:Hp} {ct:Nat} {r:AV} (aX:∀id o,aq hp id=some o->id<ct):∀id o,aq hp id=some o->aq (own hp ct r).2.1 id=some o:=by
 cases r with
 | ae vs=>exact Mw aX
 | _=>exact RO aX
def avu {hp:Hp} {ct:Nat} {r:AV}:ct<=(own hp ct r).2.2:=by
 cases r with
 | ae vs=>exact Mv
 | _=>exact Mu
def aq9 {hp:Hp} {ct:Nat} {r:AV}:∀id o,aq (own hp ct r).2.1 id=some o->id<ct->aq hp id=some o:=by
 have h1:∀(hp:Hp) (ct:Nat) (r:AV) id o,aq (fe hp ct r).2.1 id=some o->id<ct->aq hp id=some o:=by
  intro hp ct r id o h hc;cases r<;>simp only [fe] at h<;>try exact h
  rw [fy,yB (by omega)] at h;exact h
 have hL:∀(vs:List AV) (hp:Hp) (ct:Nat) id o,aq (jH hp ct vs).2.1 id=some o->id<ct->aq hp id=some o:=by
  intro vs
  induction vs with
  | nil=>intro hp ct id o ho _;exact ho
  | cons v r ih=>intro hp ct id o ho hc;exact h1 hp ct v id o (ih _ _ id o ho (by have:=Mu (hp:=hp) (ct:=ct) (r:=v);omega)) hc
 cases r with
 | ae vs=>exact hL vs hp ct
 | _=>exact h1 hp ct _
structure iw (hp:Hp) (ct:Nat) (ap:Hp) (a7:Nat):Prop where
 le:cU hp ap
 pO:ct<=a7
 lt:∀id o,aq ap id=some o->id<a7
 back:∀id o,aq ap id=some o->id<ct->∃o',aq hp id=some o'
def iw.refl (aX:∀id o,aq hp id=some o->id<ct):iw hp ct hp ct:=⟨cU.refl,yr _,aX,fun _ o h _=>⟨o,h⟩⟩
def iw.trans {Jh:Hp} {ajm:Nat} (h:iw hp ct ap a7) (k:iw ap a7 Jh ajm):iw hp ct Jh ajm:=
 ⟨h.le.trans k.le,xi h.pO k.pO,k.lt,fun id o ho hi=>let ⟨o1,h1⟩:=k.back id o ho (yT hi h.pO);h.back id o1 h1 hi⟩
def abK {M4 av:List AV} {bj:Hp} (hz:cI deep hp M4=some (av,bj)) (aX:∀id o,aq hp id=some o->id<ct):iw hp ct bj ct:=by
 obtain ⟨z1,z2,_⟩:=Qr (O:=⟨default,⟨fun _=>none,fun _=>none⟩,fun _=>0,fun _=>none,fun _=>⟨0,fun _=>none,fun _=>[],fun _=>none,fun _=> .pure,fun _=>[]⟩,default⟩) hz;have hb:∀id o,aq bj id=some o->∃o',aq hp id=some o':=fun id o h=>by
  have:=z2 id
  rw [h] at this
  cases hq:aq hp id with
  | none=>rw [hq] at this;cases this
  | some q=>exact ⟨q,rfl⟩
 exact ⟨z1,yr _,fun id o h=>let ⟨o',h'⟩:=hb id o h;aX id o' h',fun id o h _=>hb id o h⟩
def apl {r:AV} (aX:∀id o,aq hp id=some o->id<ct):iw hp ct (own hp ct r).2.1 (own hp ct r).2.2:=
 ⟨fun id o h=>⟨o,avt aX id o h,jc.refl o⟩,avu,avr aX,fun id o h hi=>⟨o,aq9 id o h hi⟩⟩
def aay {P:aI} {L:Lib} {q:Op} {v:AV} (hk:bA q<=1) (hv:bf P L self tm hp ct q=some (v,ap,a7)) (aX:∀id o,aq hp id=some o->id<ct):iw hp ct ap a7:=by
 have cL:∀{q:Op},(match cP tm hp ct q with | some (v,b)=>some (v,(ct,b)::hp,ct+1) | none=>(none:fS))=some (v,ap,a7)->iw hp ct ap a7:=by
  intro q h
  cases hm:cP tm hp ct q with
  | none=>simp [hm] at h
  | some r=>
   obtain ⟨v1,b⟩:=r;simp only [hm,yd,yk] at h;obtain ⟨rfl,rfl,rfl⟩:=h;refine ⟨fun id o ho=>⟨o,?_,jc.refl o⟩,by omega,fun id o ho=>?_,fun id o ho hi=>?_⟩
   ·rw [fy,yB (by have:=aX id o ho;omega)];exact ho
   ·rw [fy] at ho;by_cases hc:ct=id
    ·omega
    ·simp only [hc,xf] at ho;have:=aX id o ho;omega
   ·rw [fy,yB (by omega)] at ho;exact ⟨o,ho⟩
 have jP:∀{q:Op},(match bw tm hp q with | some v=>some (v,hp,ct) | none=>(none:fS))=some (v,ap,a7)->iw hp ct ap a7:=by
  intro q h
  cases hm:bw tm hp q with
  | none=>simp [hm] at h
  | some r=>
   simp only [hm,yd,yk] at h;obtain ⟨rfl,rfl,rfl⟩:=h;exact iw.refl aX
 cases bL:q with
 | st _ _ _=>simp [bL,bA] at hk
 | pK _ _ _ _=>simp [bL,bA] at hk
 | pM _=>simp [bL,bA] at hk
 | aO _ _ _ _=>simp [bL,bA] at hk
 | mJ _ _ _=>simp [bL,bA] at hk
 | iM _ _ _=>simp [bL,bA] at hk
 | jA _ _ _ _=>simp [bL,bA] at hk
 | kU _ _ _ _ _=>simp [bL,bA] at hk
 | pN sz b x y=>
  rw [bL] at hv;simp only [bf] at hv
  cases hm:rK hp ct sz b (aD tm x) (jt hp sz (aD tm y)) with
  | none=>simp [hm] at hv
  | some r=>
   obtain ⟨v1,b⟩:=r;simp only [hm,yd,yk] at hv;obtain ⟨rfl,rfl,rfl⟩:=hv;refine ⟨fun id o ho=>⟨o,?_,jc.refl o⟩,by omega,fun id o ho=>?_,fun id o ho hi=>?_⟩
   ·rw [fy,yB (by have:=aX id o ho;omega)];exact ho
   ·rw [fy] at ho;by_cases hc:ct=id
    ·omega
    ·simp only [hc,xf] at ho;have:=aX id o ho;omega
   ·rw [fy,yB (by omega)] at ho;exact ⟨o,ho⟩
 | box s x=>exact cL (q:=q) (by rw [bL] at hv ⊢;simp only [bf] at hv;exact hv)
 | cZ n s z ps=>exact cL (q:=q) (by rw [bL] at hv ⊢;simp only [bf] at hv;exact hv)
 | gj s b z x y=>exact cL (q:=q) (by rw [bL] at hv ⊢;simp only [bf] at hv;exact hv)
 | zY=>exact cL (q:=q) (by rw [bL] at hv ⊢;simp only [bf] at hv;exact hv)
 | pL x=>exact cL (q:=q) (by rw [bL] at hv ⊢;simp only [bf] at hv;exact hv)
 | call md x xs=>
  subst bL;simp only [bf,eJ] at hv
  split at hv
  ·rename_i g first cap hx
   cases md with
   | heap=>simp [bA] at hk
   | dyn=>simp [bA] at hk
   | pure=>
    simp only at hv
    cases hz:cI deep hp (first++(dw tm xs++cap)) with
    | none=>simp [hz] at hv
    | some z=>
     obtain ⟨av,bj⟩:=z;simp only [hz] at hv
     cases hr:bO P L self g av with
     | none=>simp [hr] at hv
     | some r=>
      simp only [hr,yd,yk] at hv;obtain ⟨rfl,rfl,rfl⟩:=hv;exact abK hz aX
   | own=>
    simp only at hv
    cases hz:cI deep hp (first++(dw tm xs++cap)) with
    | none=>simp [hz] at hv
    | some z=>
     obtain ⟨av,bj⟩:=z;simp only [hz] at hv
     cases hr:bO P L self g av with
     | none=>simp [hr] at hv
     | some r=>
      simp only [hr,yd] at hv;have e2:ap=(own bj ct r).2.1:=by rw [hv]
      have e3:a7=(own bj ct r).2.2:=by rw [hv]
      subst e2;subst e3;have g1:=abK hz aX;exact g1.trans (apl g1.lt)
  ·cases md with
   | heap=>simp [bA] at hk
   | dyn=>simp [bA] at hk
   | _=>simp at hv
  ·cases hv
 | _=>exact jP (q:=q) (by rw [bL] at hv ⊢;simp only [bf] at hv;exact hv)
def L9 (hh:aU O m S w hp ct) (hg:iw hp ct ap a7):∃S',aU O m S' w ap a7/\(∀b,S b->S' b)/\(∀b,S' b->S b\/eb m hp b)/\∀base,ck m S w hp m S' w ap base:=by
 have hd:∀id o p,aq ap id=some o->m id=some p->∃o',aq hp id=some o':=fun id o p h hm=>hg.back id o h (hh.lt id p hm)
 obtain ⟨S',g1,g2,g3⟩:=adH hh hg.le hd hg.pO hg.lt;refine ⟨S',g1,g2,g3,fun base=>⟨rfl,rfl,rfl,yr _,fun _ _ _=>rfl,g2,fun _ _=>rfl,fun b hb=>(g3 b hb).imp (fun h=>h) .inl,?_,fun _ _ _ h=>h,fun _ r h=>⟨r,h⟩⟩⟩;rintro b ⟨i,o,p,h1,h2,h3⟩;obtain ⟨o',h4⟩:=hd i o p h1 h2;exact .inl ⟨i,o',p,h4,h2,h3⟩
def ara {q:Op} {v:AV} (hv:cJ tm hp ct q=some (v,ap,a7)):ct<=a7:=by
 cases q<;>simp only [cJ,reduceCtorEq] at hv
 all_goals
  grind
def Q8 {P:y5} {H:Hint} {o:yX} {rs:List (Nat×Bool×Nat)} {x:X} {xs:List X} (hq:py P H (.iM rs x xs) o):∃c f,o.op= .call c/\c.callee= .value f/\x=aK H f/\xs=gL H c.args.toList:=by
 rcases hq with ⟨k,hk⟩ | ⟨c,f,rs',h1,h2,h3⟩ | ⟨_,_,_,_,_,_,_,h3⟩ | ⟨_,_,_,_,_,_,_,h3⟩ | ⟨_,_,_,_,_,_,h3⟩
 ·cases ho:o.op with
  | call c=>
   obtain ⟨callee,args,ts⟩:=c;simp only [aW,ho] at hk
   split at hk
   ·rename_i f;cases hm:H.mode k<;>simp only [hm,Op.iM.injEq,reduceCtorEq] at hk
    exact ⟨_,f,rfl,rfl,hk.2.1,hk.2.2⟩
   ·repeat' split at hk
    all_goals first
     | (cases hk;done)
     | (simp only [bad] at hk;cases hk;done)
     | (revert hk;generalize yu _ _=bb;intro hk;cases bb<;>simp [bad] at hk)
   ·simp only [bad] at hk;cases hk
  | binOp op t x' y ty=>
   cases op<;>simp only [aW,ho,nM,oU] at hk
   case eql=>
         repeat' split at hk
         all_goals first
          | (cases hk;done)
          | (simp only [bad] at hk;cases hk;done)
          | (cases cw:(P.stoodInHeld t||P.eqGuardType P.depth t)<;>rw [cw] at hk<;>simp [bad] at hk)
   case neq=>
         repeat' split at hk
         all_goals first
          | (cases hk;done)
          | (simp only [bad] at hk;cases hk;done)
          | (cases cw:(P.stoodInHeld t||P.eqGuardType P.depth t)<;>rw [cw] at hk<;>simp [bad] at hk)
   all_goals cases hk
  | buildSlice t n parts=>
   simp only [aW,ho] at hk
   repeat' split at hk
   all_goals first
    | (cases hk;done)
    | (simp only [bad] at hk;cases hk;done)
    | (revert hk;generalize yE _ _=bb;intro hk;cases bb<;>simp [bad] at hk)
  | makeMap t r=>
   cases r<;>simp only [aW,ho] at hk
   ·repeat' split at hk
    all_goals first
     | (cases hk;done)
     | (simp only [bad] at hk;cases hk;done)
   ·simp only [bad] at hk;cases hk
  | next x' b=>
   cases b<;>simp only [aW,ho] at hk
   ·simp only [bad] at hk;cases hk
   ·cases hk
  | _=>
   simp only [aW,ho] at hk
   (repeat' split at hk)
   all_goals first
    | contradiction
    | (cases hk;done)
    | (simp only [bad] at hk;cases hk;done)
 ·simp only [Op.iM.injEq] at h3;exact ⟨c,f,h1,h2,h3.2.1,h3.2.2⟩
 ·cases h3
 ·cases h3
 ·cases h3
def aon {P:y5} {H:Hint} {o:yX} {k:Nat} {rs:List (Nat×Bool×Nat)} {sz:Nat} {x y:X} (hk:Op.jA rs sz x y=aW P H k o):False:=by
 cases ho:o.op with
 | call c=>
  obtain ⟨callee,args,ts⟩:=c;simp only [aW,ho] at hk
  split at hk
  ·grind
  ·repeat' split at hk
   all_goals first
    | (cases hk;done)
    | (simp only [bad] at hk;cases hk;done)
    | (revert hk;generalize yu _ _=bb;intro hk;cases bb<;>simp [bad] at hk)
  ·simp only [bad] at hk;cases hk
 | binOp op t x' y ty=>
  cases op<;>simp only [aW,ho,nM,oU] at hk
  case eql=>
        repeat' split at hk
        all_goals first
         | (cases hk;done)
         | (simp only [bad] at hk;cases hk;done)
         | (cases cw:(P.stoodInHeld t||P.eqGuardType P.depth t)<;>rw [cw] at hk<;>simp [bad] at hk)
  case neq=>
        repeat' split at hk
        all_goals first
         | (cases hk;done)
         | (simp only [bad] at hk;cases hk;done)
         | (cases cw:(P.stoodInHeld t||P.eqGuardType P.depth t)<;>rw [cw] at hk<;>simp [bad] at hk)
  all_goals cases hk
 | buildSlice t n parts=>
  simp only [aW,ho] at hk
  repeat' split at hk
  all_goals first
   | (cases hk;done)
   | (simp only [bad] at hk;cases hk;done)
   | (revert hk;generalize yE _ _=bb;intro hk;cases bb<;>simp [bad] at hk)
 | makeMap t r=>
  cases r<;>simp only [aW,ho] at hk
  ·repeat' split at hk
   all_goals first
    | (cases hk;done)
    | (simp only [bad] at hk;cases hk;done)
  ·simp only [bad] at hk;cases hk
 | next x' b=>
  cases b<;>simp only [aW,ho] at hk
  ·simp only [bad] at hk;cases hk
  ·cases hk
 | _=>
  simp only [aW,ho] at hk
  (repeat' split at hk)
  all_goals first
   | contradiction
   | (cases hk;done)
   | (simp only [bad] at hk;cases hk;done)
def aoo {P:y5} {H:Hint} {o:yX} {k:Nat} {rs:List (Nat×Bool×Nat)} {sz b:Nat} {x y:X} (hk:Op.kU rs sz b x y=aW P H k o):False:=by
 cases ho:o.op with
 | call c=>
  obtain ⟨callee,args,ts⟩:=c;simp only [aW,ho] at hk
  split at hk
  ·rename_i f;cases hm:H.mode k<;>simp only [hm,reduceCtorEq] at hk
  ·repeat' split at hk
   all_goals first
    | (cases hk;done)
    | (simp only [bad] at hk;cases hk;done)
    | (revert hk;generalize yu _ _=bb;intro hk;cases bb<;>simp [bad] at hk)
  ·simp only [bad] at hk;cases hk
 | binOp op t x' y ty=>
  cases op<;>simp only [aW,ho,nM,oU] at hk
  case eql=>
        repeat' split at hk
        all_goals first
         | (cases hk;done)
         | (simp only [bad] at hk;cases hk;done)
         | (cases cw:(P.stoodInHeld t||P.eqGuardType P.depth t)<;>rw [cw] at hk<;>simp [bad] at hk)
  case neq=>
        repeat' split at hk
        all_goals first
         | (cases hk;done)
         | (simp only [bad] at hk;cases hk;done)
         | (cases cw:(P.stoodInHeld t||P.eqGuardType P.depth t)<;>rw [cw] at hk<;>simp [bad] at hk)
  all_goals cases hk
 | buildSlice t n parts=>
  simp only [aW,ho] at hk
  repeat' split at hk
  all_goals first
   | (cases hk;done)
   | (simp only [bad] at hk;cases hk;done)
   | (revert hk;generalize yE _ _=bb;intro hk;cases bb<;>simp [bad] at hk)
 | makeMap t r=>
  cases r<;>simp only [aW,ho] at hk
  ·repeat' split at hk
   all_goals first
    | (cases hk;done)
    | (simp only [bad] at hk;cases hk;done)
  ·simp only [bad] at hk;cases hk
 | next x' b=>
  cases b<;>simp only [aW,ho] at hk
  ·simp only [bad] at hk;cases hk
  ·cases hk
 | _=>
  simp only [aW,ho] at hk
  (repeat' split at hk)
  all_goals first
   | contradiction
   | (cases hk;done)
   | (simp only [bad] at hk;cases hk;done)
def azd {P:y5} {H:Hint} {o:yX} {sz:Nat} {x y:X} (hq:py P H (.st sz x y) o):∃t x' y',o.op= .store t x' y'/\cE P t=some sz/\x=aK H x'/\y=aK H y':=by
 obtain ⟨k,hk⟩:∃k,Op.st sz x y=aW P H k o:=by
  rcases hq with h | ⟨_,_,_,_,_,h⟩ | ⟨_,_,_,_,_,_,_,h⟩ | ⟨_,_,_,_,_,_,_,h⟩ | ⟨_,_,_,_,_,_,h⟩
  ·exact h
  ·cases h
  ·cases h
  ·cases h
  ·cases h
 cases ho:o.op with
 | call c=>
  obtain ⟨callee,args,ts⟩:=c;simp only [aW,ho] at hk
  split at hk
  ·rename_i f;cases hm:H.mode k<;>simp only [hm,reduceCtorEq] at hk
  ·repeat' split at hk
   all_goals first
    | (cases hk;done)
    | (simp only [bad] at hk;cases hk;done)
    | (revert hk;generalize yu _ _=bb;intro hk;cases bb<;>simp [bad] at hk)
  ·simp only [bad] at hk;cases hk
 | binOp op t x' y ty=>
  cases op<;>simp only [aW,ho,nM,oU] at hk
  case eql=>
        repeat' split at hk
        all_goals first
         | (cases hk;done)
         | (simp only [bad] at hk;cases hk;done)
         | (cases cw:(P.stoodInHeld t||P.eqGuardType P.depth t)<;>rw [cw] at hk<;>simp [bad] at hk)
  case neq=>
        repeat' split at hk
        all_goals first
         | (cases hk;done)
         | (simp only [bad] at hk;cases hk;done)
         | (cases cw:(P.stoodInHeld t||P.eqGuardType P.depth t)<;>rw [cw] at hk<;>simp [bad] at hk)
  all_goals cases hk
 | buildSlice t n parts=>
  simp only [aW,ho] at hk
  repeat' split at hk
  all_goals first
   | (cases hk;done)
   | (simp only [bad] at hk;cases hk;done)
   | (revert hk;generalize yE _ _=bb;intro hk;cases bb<;>simp [bad] at hk)
 | makeMap t r=>
  cases r<;>simp only [aW,ho] at hk
  ·repeat' split at hk
   all_goals first
    | (cases hk;done)
    | (simp only [bad] at hk;cases hk;done)
  ·simp only [bad] at hk;cases hk
 | next x' b=>
  cases b<;>simp only [aW,ho] at hk
  ·simp only [bad] at hk;cases hk
  ·cases hk
 | store t x' y'=>
  simp only [aW,ho] at hk
  split at hk
  ·rename_i s hs;simp only [Op.st.injEq] at hk;obtain ⟨rfl,rfl,rfl⟩:=hk;exact ⟨t,x',y',rfl,hs,rfl,rfl⟩
  ·simp only [bad] at hk;cases hk
 | _=>
  simp only [aW,ho] at hk
  (repeat' split at hk)
  all_goals first
   | contradiction
   | (cases hk;done)
   | (simp only [bad] at hk;cases hk;done)
def ahb {P:y5} {H:Hint} {o:yX} {rs:List (Nat×Bool×Nat)} {sz:Nat} {x y:X} (hq:py P H (.jA rs sz x y) o):∃t x' y',o.op= .store t x' y'/\cE P t=some sz/\x=aK H x'/\y=aK H y':=by
 rcases hq with ⟨k,hk⟩ | ⟨_,_,_,_,_,h3⟩ | ⟨t,x',y',Dr,rs',h1,h2,h3⟩ | ⟨_,_,_,_,_,_,_,h3⟩ | ⟨_,_,_,_,_,_,h3⟩
 ·exact (aon hk).elim
 ·cases h3
 ·simp only [Op.jA.injEq] at h3;obtain ⟨_,rfl,rfl,rfl⟩:=h3;exact ⟨t,x',y',h1,h2,rfl,rfl⟩
 ·cases h3
 ·cases h3
def ahc {P:y5} {H:Hint} {o:yX} {rs:List (Nat×Bool×Nat)} {sz b:Nat} {x y:X} (hq:py P H (.kU rs sz b x y) o):∃k,Op.aO sz b x y=aW P H k o:=by
 rcases hq with ⟨k,hk⟩ | ⟨_,_,_,_,_,h3⟩ | ⟨_,_,_,_,_,_,_,h3⟩ | ⟨k,rs',Dr,b',x',y',h1,h3⟩ | ⟨_,_,_,_,_,_,h3⟩
 ·exact (aoo hk).elim
 ·cases h3
 ·cases h3
 ·simp only [Op.kU.injEq] at h3;obtain ⟨_,rfl,rfl,rfl,rfl⟩:=h3;exact ⟨k,h1⟩
 ·cases h3
def ahd {P:y5} {H:Hint} {o:yX} {sz b:Nat} {x y:X} (hq:py P H (.aO sz b x y) o):∃k,Op.aO sz b x y=aW P H k o:=by
 rcases hq with h | ⟨_,_,_,_,_,h3⟩ | ⟨_,_,_,_,_,_,_,h3⟩ | ⟨_,_,_,_,_,_,_,h3⟩ | ⟨_,_,_,_,_,_,h3⟩
 ·exact h
 ·cases h3
 ·cases h3
 ·cases h3
 ·cases h3
def aop {P:y5} {H:Hint} {q:Op} {o:yX} (hq:py P H q o):py P H (iP q) o:=by
 cases h:q with
 | iM rs f xs=>
  subst h;obtain ⟨c,f',g1,g2,g3,g4⟩:=Q8 hq;exact .inr (.inl ⟨c,f',[],g1,g2,by rw [g3,g4];rfl⟩)
 | jA rs sz x y=>
  subst h;obtain ⟨t,x',y',g1,g2,g3,g4⟩:=ahb hq;refine .inl ⟨0,?_⟩;simp only [iP,aW,g1,g2,g3,g4]
 | kU rs sz b x y=>
  subst h;exact .inl (ahc hq)
 | _=>subst h;exact hq
def acD (hC:nK O self) (hH:fc O H) {o:yX} {q:Op} {v:AV} (hq:py O.P H q o) (hd:∀c,o.op≠.defer c) (hv:bf O.prog O.aE self tm hp ct q=some (v,ap,a7))
  (ht:b9 O m S w tm a.tmps) (hh:aU O m S w hp ct)
  (hn:∀u m' S' w',aU O m' S' w' ap a7->ct<=a7->ah O.af m' S' w' v u->ck m S w hp m' S' w' ap ct->next (a.put o.dst u) w'):o.wpIn (WF ro) 0 O.P a w next Q:=by
 have quiet:bA q<=1->o.wpIn (WF ro) 0 O.P a w next Q:=by
  intro hk;have hg:=aay hk hv hh.aX;obtain ⟨S1,g1,g2,g3,g4⟩:=L9 hh hg;refine quiet_step hC hH hk hq hd hv cU.refl (yr _) hh.aX (fun id h1 h2=>?_) (Az (fun _ _ h=>h) g2 (fun _ _=>rfl) ht) g1 (fun u m' S' w' k1 k2 k3 k4 k5=>hn u m' S' w' k1 hg.pO k4 ((g4 ct).trans (k5.rR hg.pO)))
  cases hm:m id with
  | none=>rfl
  | some p=>have:=hh.lt id p hm;omega
 have Sg:∀{q':Op},(∃k,q'=aW O.P H k o)->cJ tm hp ct q'=some (v,ap,a7)->o.wpIn (WF ro) 0 O.P a w next Q:=by
  intro q' ja hw;obtain ⟨k,rfl⟩:=ja;obtain ⟨n,u,w',m',S',h1,h2,h3,h4,h5,h6⟩:=as5 hH ht hh hw;exact Ip hd h1 h2 (hn u m' S' w' h3 (ara hw) h4 h6)
 have write:cJ tm hp ct q=some (v,ap,a7)->o.wpIn (WF ro) 0 O.P a w next Q:=by
  intro hw;refine Sg ?_ hw;rcases hq with h | ⟨c,f,rs,_,_,rfl⟩ | ⟨_,_,_,_,_,_,_,rfl⟩ | ⟨_,_,_,_,_,_,_,rfl⟩ | ⟨_,_,_,_,_,_,rfl⟩
  ·exact h
  ·simp [cJ] at hw
  ·simp [cJ] at hw
  ·simp [cJ] at hw
  ·simp [cJ] at hw
 have heap:∀{c:td} {f:xp} {g:Nat} {first cap:List AV},o.op= .call c->c.callee= .value f->aD tm (aK H f)= .fn (.f g) first cap->
   iL O.prog O.aE self hp ct g (first++(dw tm (gL H c.args.toList)++cap))=some (v,ap,a7)->o.wpIn (WF ro) 0 O.P a w next Q:=by
  intro c f g first cap ho iF hx he;obtain ⟨fi,ca,h1,h2⟩:=L8 hH ht (args:=c.args) hx;refine Lx ho iF h1 (hC.heap _ _ _ _ _ _ _ he m S w _ hh h2) ?_;rintro e w' ⟨u,m',S',rfl,k1,k2,k3,k4⟩;exact ⟨u,rfl,hn u m' S' w' k1 k2 k3 k4⟩
 have round:∀{c:td} {f:xp} {l:Nat} {x y:List AV},o.op= .call c->c.callee= .value f->aD tm (aK H f)= .fn (.y l) x y->
   nJ self hp ct l (dw tm (gL H c.args.toList))=some (v,ap,a7)->o.wpIn (WF ro) 0 O.P a w next Q:=by
  intro c f l x y ho iF hx he;have rf:=cz hH ht f;rw [hx] at rf;simp only [ah] at rf;obtain ⟨p,hm,hf⟩:=rf;have fG:=Cv hH ht c.args.toList;obtain ⟨g,tmps,cK,body,h1,h2⟩:=hC.round _ _ _ _ _ _ _ he m S w (c.args.map a.eval) p hh hm (by simpa using fG);refine aq5 ho iF hf h1 h2 ?_;rintro e w' ⟨u,m',S',rfl,k1,k2,k3,k4⟩;exact ⟨u,rfl,hn u m' S' w' k1 k2 k3 k4⟩
 have dyn:∀{c:td} {f:xp},o.op= .call c->c.callee= .value f->eJ O.prog O.aE self hp ct .dyn (aD tm (aK H f)) (dw tm (gL H c.args.toList))=some (v,ap,a7)->o.wpIn (WF ro) 0 O.P a w next Q:=by
  intro c f ho iF he;unfold eJ at he
  split at he
  ·rename_i g first cap hx
   (try simp only at he)
   cases hp0:aG (first++(dw tm (gL H c.args.toList)++cap)) with
   | true=>
    rw [hp0] at he;simp only [yA] at he
    cases hr:bO O.prog O.aE self g (first++(dw tm (gL H c.args.toList)++cap)) with
    | none=>simp [hr] at he
    | some r=>
     simp only [hr,yd,yk] at he;obtain ⟨rfl,rfl,rfl⟩:=he;obtain ⟨fi,ca,h1,h2⟩:=L8 hH ht (args:=c.args) hx;refine Lx ho iF h1 (hC.pure g _ r hr w S _ (RP hh) hh.slt (sQ (fun _ h=>h) (fun _ _=>rfl) _ _ hp0 h2) hp0) ?_;rintro e w' ⟨u,S',rfl,hw,g1,g2,g3,g4⟩;obtain ⟨S2,k1,k2,k3⟩:=abF g4 m;have hS:∀b,S b->S2 b:=fun b hb=>k1 b (g1 b hb)
     have KB:∀b,S2 b->S b\/w.heap.size<=b:=fun b hb=>(k2 b hb).elim (g2 b) (fun h=> .inr h.1)
     have hl:∀b,S2 b->b<w'.heap.size:=fun b hb=>(k2 b hb).elim (g3 b) (fun h=>h.2)
     exact ⟨u,rfl,hn u m S2 w' (Ci hh hw hS KB hl) (yr _) k3 (AB hh hw hS KB)⟩
   | false=>
    rw [hp0] at he;simp only [yS] at he;exact heap ho iF hx he
  ·rename_i l x y hx;exact round ho iF hx he
  ·cases he
 cases bL:q with
 | iM rs x xs=>
  subst bL;simp only [bf] at hv;have key:=Q8 hq;obtain ⟨c,f,ho,iF,rfl,rfl⟩:=key
  cases hc:eJ O.prog O.aE self hp ct .dyn (aD tm (aK H f)) (dw tm (gL H c.args.toList)) with
  | none=>simp [hc] at hv
  | some r=>
   obtain ⟨v1,bj,ow⟩:=r;simp only [hc] at hv
   cases hs:oT tm hp bj rs with
   | false=>rw [hs] at hv;cases hv
   | true=>
    rw [hs] at hv;simp only [yA,yd,yk] at hv;obtain ⟨rfl,rfl,rfl⟩:=hv;exact dyn ho iF hc
 | call md x xs=>
  subst bL;have ja:∃k,Op.call md x xs=aW O.P H k o:=by
   rcases hq with h | ⟨c,f,rs,_,_,h⟩ | ⟨_,_,_,_,_,_,_,h⟩ | ⟨_,_,_,_,_,_,_,h⟩ | ⟨_,_,_,_,_,_,h⟩
   ·exact h
   ·cases h
   ·cases h
   ·cases h
   ·cases h
  obtain ⟨k,hk⟩:=ja
  cases md with
  | pure=>exact quiet (by simp [bA])
  | own=>exact quiet (by simp [bA])
  | heap=>
   simp only [bf] at hv;obtain ⟨c,f,ho,iF,rfl,rfl⟩:=My hk.symm (by rintro rfl;simp [aD,eJ] at hv);unfold eJ at hv
   split at hv
   ·rename_i g first cap hx;exact heap ho iF hx hv
   ·rename_i l x y hx;exact round ho iF hx hv
   ·cases hv
  | dyn=>
   simp only [bf] at hv;obtain ⟨c,f,ho,iF,rfl,rfl⟩:=My hk.symm (by rintro rfl;simp [aD,eJ] at hv);exact dyn ho iF hv
 | jA rs s x y=>
  subst bL;obtain ⟨t,x',y',g1,g2,g3,g4⟩:=ahb hq;simp only [bf] at hv
  split at hv
  ·rename_i id off hx
   cases hf:nL tm id rs with
   | false=>rw [hf] at hv;cases hv
   | true=>
    rw [hf] at hv;simp only [yA] at hv
    exact Sg (q':= .st s x y) ⟨0,by simp only [aW,g1,g2,g3,g4]⟩ hv
  ·cases hv
 | kU rs s b x y=>
  subst bL;simp only [bf] at hv
  cases hc:cJ tm hp ct (.aO s b x y) with
  | none=>simp [hc] at hv
  | some r=>
   obtain ⟨v1,bj,ow⟩:=r;simp only [hc] at hv
   cases hs:oT tm hp bj rs with
   | false=>rw [hs] at hv;cases hv
   | true=>
    rw [hs] at hv;simp only [yA,yd,yk] at hv;obtain ⟨rfl,rfl,rfl⟩:=hv
    exact Sg (q':= .aO s b x y) (ahc hq) hc
 | st s x y=>subst bL;exact write (by simpa only [bf] using hv)
 | pK kk x y z=>subst bL;exact write (by simpa only [bf] using hv)
 | pM x=>subst bL;exact write (by simpa only [bf] using hv)
 | aO s b x y=>subst bL;exact write (by simpa only [bf] using hv)
 | mJ s x y=>subst bL;exact write (by simpa only [bf] using hv)
 | dS k x lo hi=>subst bL;exact quiet (by cases k<;>simp [bA])
 | len k x=>subst bL;exact quiet (by rcases k with _ | _ | k<;>simp [bA])
 | _=>subst bL;exact quiet (by simp [bA])
end
end
section
open Go
def pn (tm:Env) (g:Option (Nat×Bool)):Option Bool:=
 match g with
 | none=>some true
 | some (t,b)=>match ai tm t with | .bool c=>some (c==b) | .ae []=>some false | _=>none
def eO (P:aI) (L:Lib) (self:cA) (tm:Env) (hp:Hp) (ct:Nat) (r:a8):fS:=
 match pn tm r.guard with
 | some true=>bf P L self tm hp ct r.op
 | some false=>some (.ae [],hp,ct)
 | none=>none
def aaX {P:aI} {L:Lib} {self:cA} {r:a8} {rs:List a8} {s:St}:
  dC P L self (r::rs) s=match eO P L self s.tm s.hp s.ct r with | some (v,hp,ct)=>dC P L self rs {s with tm:=put r.dst v s.tm,hp:=hp,ct:=ct} | none=>none:=by
 obtain ⟨d,g,o⟩:=r;simp only [dC,eO]
 cases g with
 | none=>rfl
 | some q=>
  obtain ⟨t,b⟩:=q;simp only [pn];generalize ai s.tm t=x
  cases x with
  | bool c=>
   simp only;cases (c==b)<;>rfl
  | ae vs=>cases vs<;>rfl
  | _=>rfl
def adS (ops:Array yX) (g:Option (Nat×Bool)) (g':Option (Nat×Bool)):Prop:=
 (g=none/\g'=none)\/∃t b j,g=some (t,b)/\g'=some (j,b)/\(ops[j]?).bind (·.dst)=some t
structure M5 (P:y5) (H:Hint) (ops:Array yX) (r:a8) (o:yX):Prop where
 op:py P H r.op o
 dst:r.dst=o.dst
 ok:I0 H o.dst=true
 guard:adS ops r.guard o.guard
def fN (P:y5) (H:Hint) (ops:Array yX):List a8->List yX->Prop
 | [],[]=>True
 | r::rs,o::l=>(M5 P H ops r o\/(r.guard=none/\r.op=bad))/\fN P H ops rs l
 | _,_=>False
def aaY {P:y5} {H:Hint} {ops:Array yX}:∀(l:List yX) (k:Nat),fN P H ops (Co P H ops l k).1 l
 | [],k=>by simp [Co,fN]
 | o::l,k=>by
  have ih:=aaY (P:=P) (H:=H) (ops:=ops) l (k+(bif Sc o then 1 else 0));simp only [Co];generalize hq:Co P H ops l (k+(bif Sc o then 1 else 0))=q at ih;obtain ⟨l',k'⟩:=q;simp only;have Tc:fN P H ops (⟨o.dst,none,bad⟩::l') (o::l):=⟨.inr ⟨rfl,rfl⟩,ih⟩
  cases hg:o.guard with
  | none=>
   simp only
   cases hd:I0 H o.dst with
   | false=>exact Tc
   | true=>exact ⟨.inl ⟨.inl ⟨k,rfl⟩,rfl,hd,.inl ⟨rfl,hg⟩⟩,ih⟩
  | some p=>
   obtain ⟨j,b⟩:=p;simp only
   cases ht:(ops[j]?).bind (·.dst) with
   | none=>exact Tc
   | some t=>
    simp only
    cases hd:I0 H o.dst with
    | false=>exact Tc
    | true=>exact ⟨.inl ⟨.inl ⟨k,rfl⟩,rfl,hd,.inr ⟨t,b,j,rfl,hg,ht⟩⟩,ih⟩
section
variable {O:bk} {H:Hint} {m:Mp} {S:Nat->Prop} {w:yi} {tm:Env} {a:Act} {hp ap:Hp} {ct a7:Nat} {self:cA} {ro:Option Nat} {Q:um->Act->yi->Prop} {ops:Array yX}
def Q9 {d:Option Nat} {v:AV} {tm:Env} {t:Nat}:ai (put d v tm) t=if d=some t then v else ai tm t:=by
 cases d with
 | none=>simp [put]
 | some i=>
  simp only [put,ai];by_cases h:i=t
  ·subst h;simp
  ·have:yu i t=false:=by
    cases hq:yu i t with
    | false=>rfl
    | true=>exact absurd (yj hq) h
   simp [this,h]
def Ma (a:Act) (d:Option Nat) (u:yg):(a.put d u).tmps.size=a.tmps.size:=by
 cases d with
 | none=>rfl
 | some i=>simp [Act.put]
def Qv (a:Act) (d:Option Nat) (u:yg):(a.put d u).defers=a.defers:=by
 cases d with
 | none=>rfl
 | some i=>rfl
def Rc {a:Act} {d:Option Nat} {u:yg} {t:Nat} (hd:∀i,d=some i->i<a.tmps.size):(a.put d u).tmps.getD t undef=if d=some t then u else a.tmps.getD t undef:=by
 cases d with
 | none=>simp [Act.put]
 | some i=>
  have hi:=hd i rfl;by_cases h:i=t
  ·subst h;simp [Act.put,hi]
  ·simp only [Act.put,yd,h,xf];simp [Array.getElem?_setIfInBounds_ne h]
def acE {n:Nat} {d:Option Nat} (h:I0 H d=true) (hn:H.n<=n):∀i,d=some i->i<n:=by
 rintro i rfl
 have:=zc.1 h
 omega
def Re {d:Option Nat} {v:AV} {u:yg} (ht:b9 O m S w tm a.tmps) (hd:∀i,d=some i->i<a.tmps.size) (hv:ah O.af m S w v u):b9 O m S w (put d v tm) (a.put d u).tmps:=fun t=>by
 rw [Q9,Rc hd]
 split
 ·exact hv
 ·exact ht t
def abL {o:yX} {g:Option (Nat×Bool)} {b:Bool} (hg:adS ops g o.guard) (ht:∀t,t∈SF g->ah O.af m S w (ai tm t) (a.tmps.getD t undef)) (hw:pn tm g=some b):Region.wanted o (yielded ops a.tmps)=b:=by
 rcases hg with ⟨rfl,h2⟩ | ⟨t,c,j,rfl,h2,h3⟩
 ·simp only [pn,yd] at hw;subst hw;simp [Region.wanted,h2]
 ·simp only [pn] at hw;have h4:=ht t (by simp [SF]);simp only [Region.wanted,h2]
  split at hw
  ·rename_i d hd;rw [hd] at h4;simp only [ah] at h4;simp only [yd] at hw
   have:yielded ops a.tmps j=some d:=by
    simp only [yielded,h3,xN];have h5:a.tmps[t]? =some (.bool d):=by
     simp only [vl] at h4
     cases hq:a.tmps[t]? with
     | none=>rw [hq] at h4;simp [undef] at h4
     | some x=>rw [hq] at h4;simp at h4;rw [h4]
    rw [h5]
   rw [this,<-hw];cases d<;>cases c<;>rfl
  ·rename_i hd;rw [hd] at h4;simp only [ah,az] at h4;obtain ⟨xs,h4,h5⟩:=h4;simp only [yd] at hw;subst hw
   have:yielded ops a.tmps j=none:=by
    simp only [yielded,h3,xN];simp only [vl] at h4
    cases hq:a.tmps[t]? with
    | none=>rfl
    | some x=>rw [hq] at h4;simp at h4;rw [h4]
   rw [this];rfl
  ·cases hw
def aaz {o:yX} {q:Op} (hq:py O.P H q o) {r:AV×Hp×Nat} (hv:bf O.prog O.aE self tm hp ct q=some r):∀c,o.op≠.defer c:=by
 rcases hq with ⟨k,rfl⟩ | ⟨c,f,rs,h1,_,_⟩ | ⟨_,_,_,_,_,h1,_,_⟩ | ⟨k,rs,sz,b,x,y,h1,rfl⟩ | ⟨k,sz,b,x,y,h1,rfl⟩
 ·exact aoj hv
 ·intro c' h;rw [h1] at h;cases h
 ·intro c' h;rw [h1] at h;cases h
 ·intro c' h;simp only [aW,h] at h1;simp [bad] at h1
 ·intro c' h;simp only [aW,h] at h1;simp [bad] at h1
def as7 (hC:nK O self) (hH:fc O H) {i:Nat} {r:a8} {o:yX} {v:AV} (hi:ops[i]? =some o) (hr:M5 O.P H ops r o\/(r.guard=none/\r.op=bad)) (hv:eO O.prog O.aE self tm hp ct r=some (v,ap,a7))
  (ht:b9 O m S w tm a.tmps) (hh:aU O m S w hp ct) (hn:H.n<=a.tmps.size) {K:Act->yi->Prop}
  (hK:∀u m' S' w',aU O m' S' w' ap a7->ct<=a7->b9 O m' S' w' (put r.dst v tm) (a.put o.dst u).tmps->ck m S w hp m' S' w' ap ct->K (a.put o.dst u) w'):wpOpIn (WF ro) 0 O.P ops Q i K a w:=by
 rcases hr with hr | ⟨h1,h2⟩
 case inr=>
  simp only [eO,h1,pn,h2,bad,bf,eJ,aD] at hv;cases hv
 unfold wpOpIn;simp only [hi];unfold eO at hv
 cases hw:pn tm r.guard with
 | none=>simp [hw] at hv
 | some b=>
  have YP:=abL hr.guard (fun t _=>ht t) hw;have hd:=acE hr.ok hn;rw [YP]
  cases b with
  | true=>
   simp only [hw] at hv;simp only [xC];refine acD hC hH hr.op (aaz hr.op hv) hv ht hh (fun u m' S' w' k1 k2 k3 k4=>hK u m' S' w' k1 k2 ?_ k4);rw [hr.dst];exact Re (Az (fun id p h=>k4.old id p (hh.lt id p h) h) k4.sub (fun b hb=>k4.still b hb) ht) hd k3
  | false=>
   simp only [hw,yd,yk] at hv;obtain ⟨rfl,rfl,rfl⟩:=hv;simp only [yN,xf];refine ⟨fun _ _=>trivial,hK undef m S w hh (yr _) ?_ ck.refl⟩;rw [hr.dst];exact Re ht hd (by simp [ah,az,undef])
def adT (hC:nK O self) (hH:fc O H):∀(l:List yX) (rs:List a8) (i:Nat) (s s':St) (a:Act) (m:Mp) (S:Nat->Prop) (w:yi),(∀j,l[j]? =ops[i+j]?)->fN O.P H ops rs l->
  dC O.prog O.aE self rs s=some s'->b9 O m S w s.tm a.tmps->aU O m S w s.hp s.ct->H.n<=a.tmps.size->
  (∀a' m' S' w',aU O m' S' w' s'.hp s'.ct->s.ct<=s'.ct->b9 O m' S' w' s'.tm a'.tmps->ck m S w s.hp m' S' w' s'.hp s.ct->a'.tmps.size=a.tmps.size->a'.defers=a.defers->s'.base=s.base->Q .normal a' w')->
  wpOpsIn (WF ro) 0 O.P ops Q (List.range' i l.length) a w
 | [],rs,i,s,s',a,m,S,w,hl,hr,hv,ht,hh,hn,hQ=>by
  cases rs with
  | cons _ _=>simp [fN] at hr
  | nil=>
   simp only [dC,yd] at hv;subst hv;simp only [yO,List.range'_zero,wpOpsIn];exact hQ a m S w hh (yr _) ht ck.refl rfl rfl rfl
 | o::l,rs,i,s,s',a,m,S,w,hl,hr,hv,ht,hh,hn,hQ=>by
  cases rs with
  | nil=>simp [fN] at hr
  | cons r rs=>
   simp only [fN] at hr;rw [aaX] at hv
   cases h1:eO O.prog O.aE self s.tm s.hp s.ct r with
   | none=>simp [h1] at hv
   | some q=>
    obtain ⟨v,bj,ow⟩:=q;simp only [h1] at hv;have hi:ops[i]? =some o:=by have:=hl 0;simpa using this.symm
    rw [yz,List.range'_succ,wpOpsIn_cons];refine as7 hC hH hi hr.1 h1 ht hh hn (fun u m1 S1 w1 k1 k2 k3 k4=>?_)
    refine adT hC hH l rs (i+1) {s with tm:=put r.dst v s.tm,hp:=bj,ct:=ow} s' _ m1 S1 w1 (fun j=>?_) hr.2 hv k3 k1 (by rw [Ma];exact hn) (fun a' m' S' w' g1 g2 g3 g4 g5 g6 g7=>?_)
    ·have:=hl (j+1)
     rw [List.getElem?_cons_succ] at this;rw [this];congr 1;omega
    ·exact hQ a' m' S' w' g1 (xi k2 g2) g3 (k4.trans (g4.rR k2)) (by rw [g5,Ma]) (by rw [g6,Qv]) g7
end
end
section
open Go
section
variable {ops:Array yX}
def Qj {acc:List Nat} {i:Nat}:∀{es:List Edge},uI (AP acc es) i=true->∃e,e∈es/\Region.binds .any e=true/\(i=e.on\/uI (acc.getD e.on 0) i=true)
 | [],h=>by simp [AP] at h
 | e::r,h=>by
  simp only [AP] at h
  cases hb:Region.binds .any e with
  | false=>
   rw [hb] at h;obtain ⟨e',h1,h2⟩:=Qj h
   grind
  | true=>
   rw [hb] at h;simp only [yA,Nat.testBit_or,tq] at h;rcases h with (h | h) | h
   ·grind
   ·grind
   ·obtain ⟨e',h1,h2⟩:=Qj h
    grind
def abM {l:List yX} {acc:List Nat} {j:Nat} (hj:j<acc.length):(kH acc l)[j]? =acc[j]? :=by
 induction l generalizing acc with
 | nil=>rfl
 | cons o l ih=>
  simp only [kH]
  grind
def aoq {l:List yX} {acc:List Nat} {j:Nat} {o:yX} (h:l[j]? =some o):∃zG:List Nat,(kH acc l)[acc.length+j]? =some (AP zG o.after.toList)/\zG.length=acc.length+j/\∀k,k<zG.length->zG[k]? =(kH acc l)[k]? :=by
 induction l generalizing acc j with
 | nil=>simp at h
 | cons x l ih=>
  cases j with
  | zero=>
   simp only [vM,yd] at h;subst h;refine ⟨acc,?_,by simp,fun k hk=>?_⟩
   ·simp only [kH];rw [abM (by simp)]
    simp
   ·simp only [kH];rw [abM (by rw [yL];omega),List.getElem?_append_left hk]
  | succ j=>
   obtain ⟨zG,h1,h2,h3⟩:=ih (acc:=acc++[AP acc x.after.toList]) h;simp only [yL,yz,yO] at h1 h2;refine ⟨zG,?_,by omega,fun k hk=>?_⟩
   ·simp only [kH]
    grind
   ·simp only [kH];exact h3 k hk
def Ord (ops:Array yX) (i j:Nat):Prop:=uI ((kH [] ops.toList).getD j 0) i=true
def Sh (ops:Array yX) (D:Nat->Prop):Prop:=∀j o,ops[j]? =some o->D j->∀e,e∈o.after->Region.binds .any e=true->D e.on
def abN {D:Nat->Prop} (hc:Sh ops D):∀(j:Nat) (o:yX),ops[j]? =some o->(∀e,e∈o.after->Region.binds .any e=true->D e.on)->∀i,Ord ops i j->D i:=by
 intro j
 induction j using vN with
 | _ j ih=>
  intro o ho hr i hi;have jL:ops.toList[j]? =some o:=by simp_all
  obtain ⟨zG,h1,h2,h3⟩:=aoq (acc:=[]) jL;simp only [yO,yf] at h1 h2;unfold Ord at hi;rw [y7,h1,ua] at hi;obtain ⟨e,g1,g2,g3⟩:=Qj hi;have he:D e.on:=hr e (by simpa using g1) g2;rcases g3 with rfl | g3
  ·grind
  ·rcases vC e.on j with aX | jO
   ·have h4:=h3 e.on (by omega);have hol:e.on<ops.size:=by
     grind
    have YL:ops[e.on]? =some ops[e.on]:=by simp_all
    refine ih e.on aX _ YL (fun e' he' cw=>hc e.on _ YL he e' he' cw) i ?_;unfold Ord
    grind
   ·grind
def arb {D:Nat->Prop} (hc:Sh ops D) {i j:Nat} {o:yX} (ho:ops[j]? =some o) (hj:D j) (hi:Ord ops i j):D i:=
 abN hc j o ho (fun e he hb=>hc j o ho hj e he hb) i hi
def aaj:∀{l:List yX} {k j:Nat} {o:yX},Ay l k=true->l[j]? =some o->∀e,e∈o.after->Region.binds .any e=true->e.on<k+j
 | [],k,j,o,_,h=>by simp at h
 | x::l,k,j,o,hb,h=>by
  simp only [Ay,ye] at hb
  cases j with
  | zero=>
   simp only [vM,yd] at h;subst h;intro e he so
   have:=List.all_eq_true.1 hb.1 e (by simpa using he)
   simp_all
  | succ j=>
   intro e he so
   have:=aaj hb.2 h e he so
   omega
end
def Nz (a b:a8) (r:List a8):Prop:=L3 a b=false/\(HJ a b=false\/H7 a b r=true)
def aal {m:Nat} {b:a8}:∀{l:List a8} {k i:Nat} {a:a8},L4 m b l k=true->l[i]? =some a->uI m (k+i)=true\/Nz a b (l.drop (i+1))
 | [],k,i,a,_,h=>by simp at h
 | x::l,k,i,a,hp,h=>by
  simp only [L4,ye] at hp
  cases i with
  | zero=>
   simp only [vM,yd] at h;subst h;have h1:=hp.1;simp only [tq,uB,yac,Bool.and_eq_false_iff,Bool.not_eq_false'] at h1;rcases h1 with h1 | ⟨h1,h2⟩
   ·grind
   ·exact .inr ⟨h1,by simpa using h2⟩
  | succ i=>
   rcases aal hp.2 h with h1 | h1
   ·grind
   ·grind
def aao:∀{l done:List a8} {ms:List Nat} {i j:Nat} {a b:a8},za done l ms=true->(done++l)[i]? =some a->l[j]? =some b->i<done.length+j->
  ∃m,ms[j]? =some m/\(uI m i=true\/Nz a b (((done++l).take (done.length+j)).drop (i+1)))
 | [],done,ms,i,j,a,b,_,_,h,_=>by simp at h
 | x::l,done,[],i,j,a,b,hp,_,h,_=>by simp [za] at hp
 | x::l,done,m::ms,i,j,a,b,hp,ha,h,Dt=>by
  simp only [za,ye] at hp
  cases j with
  | zero=>
   have Du:done[i]? =some a:=by grind
   have:=aal hp.1 Du
   grind
  | succ j=>
   have e:done++x::l=(done++[x])++l:=by simp
   obtain ⟨m',h1,h2⟩:=aao (i:=i) (a:=a) hp.2 (by rw [<-e];exact ha) h (by simp;omega)
   grind
def Ln {a b:a8} (h:L3 a b=false):(∀d,a.dst=some d->d∉Cu b/\b.dst≠some d)/\(∀d,b.dst=some d->d∉Cu a):=by
 have mem:∀{i:Nat} {l:List Nat},jy i l=false->i∉l:=by
  intro i l
  induction l with
  | nil=>intro _ h;cases h
  | cons j r ih=>
   intro h hm;simp only [jy] at h
   cases hb:yu j i with
   | true=>rw [hb] at h;cases h
   | false=>
    simp_all
 simp only [L3,yac] at h;obtain ⟨⟨h1,h2⟩,h3⟩:=h;refine ⟨fun d hd=>⟨mem (by simpa [hd,E1] using h1),fun hb=>?_⟩,fun d hd=>mem (by simpa [hd,E1] using h2)⟩;rw [hd,hb] at h3;simp [ais] at h3
def aaZ {t:Nat}:∀{l:List a8},CR t l=true->∀r,r∈l->r.dst≠some t
 | [],_,r,h=>by cases h
 | x::l,h,r,hr=>by
  simp only [CR,ye,uB] at h;rcases wE.1 hr with rfl | hr
  ·intro hd;rw [hd] at h;simp [E1,jy] at h
  ·exact aaZ h.2 r hr
def LO {sz t:Nat} {ag:Bool}:∀{l:List (Nat×Bool×Nat)},CY sz ag t l=true->(sz,ag,t)∈l
 | [],h=>by simp [CY] at h
 | (s,g,u)::r,h=>by
  simp only [CY,tq,ye] at h;rcases h with ⟨h1,h2,h3⟩ | h
  ·simp_all
  ·exact xW _ (LO h)
def Rg:∀{a b:List Nat},cV a b=true->a=b
 | [],[],_=>rfl
 | [],_::_,h=>by simp [cV] at h
 | _::_,[],h=>by simp [cV] at h
 | x::a,y::b,h=>by
  simp only [cV,ye] at h;rw [yj h.1,Rg h.2]
def apm {a b:AV} (h:S4 a b=true):a=b:=by
 unfold S4 at h
 split at h
 ·grind
 ·grind
 ·rw [Rg h]
 ·rfl
 ·rfl
 ·simp_all
 ·simp_all
 ·simp_all
 ·cases h
def Qd {tm:Env} {hp ap:Hp} {sz t:Nat} {ag:Bool} {v:AV}:∀{l:List (Nat×Bool×Nat)},oT tm hp ap l=true->(sz,ag,t)∈l->iU hp sz ag (ai tm t)=some v->iU ap sz ag (ai tm t)=some v
 | [],_,h,_=>by cases h
 | (s,g,u)::r,h,hm,hv=>by
  simp only [oT] at h
  cases h1:iU hp s g (ai tm u) with
  | none=>simp [h1] at h
  | some x=>
   cases h2:iU ap s g (ai tm u) with
   | none=>simp [h1,h2] at h
   | some y=>
    simp only [h1,h2,ye] at h;rcases wE.1 hm with e | hm
    ·simp only [yk] at e;obtain ⟨rfl,rfl,rfl⟩:=e;rw [h1] at hv;rw [h2,<-apm h.1,hv]
    ·exact Qd h.2 hm hv
structure NA (P:aI) (L:Lib) (run:cA) (rs:List a8) (b7:Nat->Env) (bR:Nat->Hp) (bN:Nat->Nat) (vF:Nat->AV):Prop where
 step:∀i r,rs[i]? =some r->eO P L run (b7 i) (bR i) (bN i) r=some (vF i,bR (i+1),bN (i+1))
 tm:∀i r,rs[i]? =some r->b7 (i+1)=put r.dst (vF i) (b7 i)
def adU {P:aI} {L:Lib} {self:cA}:∀{rs:List a8} {s s':St},dC P L self rs s=some s'->
  ∃b7 bR bN vF,NA P L self rs b7 bR bN vF/\b7 0=s.tm/\bR 0=s.hp/\bN 0=s.ct/\b7 rs.length=s'.tm/\bR rs.length=s'.hp/\bN rs.length=s'.ct/\s'.base=s.base
 | [],s,s',h=>by
  simp only [dC,yd] at h;subst h;exact ⟨fun _=>s.tm,fun _=>s.hp,fun _=>s.ct,fun _=> .undef,⟨fun i r h=>by simp at h,fun i r h=>by simp at h⟩,rfl,rfl,rfl,rfl,rfl,rfl,rfl⟩
 | r::rs,s,s',h=>by
  rw [aaX] at h
  cases h1:eO P L self s.tm s.hp s.ct r with
  | none=>simp [h1] at h
  | some q=>
   obtain ⟨v,bj,ow⟩:=q;simp only [h1] at h;obtain ⟨b7,bR,bN,vF,g1,g2,g3,g4,g5,g6,g7,g8⟩:=adU h;refine ⟨fun i=>match i with | 0=>s.tm | i+1=>b7 i,fun i=>match i with | 0=>s.hp | i+1=>bR i,fun i=>match i with | 0=>s.ct | i+1=>bN i,fun i=>match i with | 0=>v | i+1=>vF i,⟨?_,?_⟩,rfl,rfl,rfl,by simpa using g5,by simpa using g6,by simpa using g7,g8⟩
   ·intro i r' hi
    cases i with
    | zero=>
     grind
    | succ i=>exact g1.step i r' (by simpa using hi)
   ·intro i r' hi
    cases i with
    | zero=>
     grind
    | succ i=>exact g1.tm i r' (by simpa using hi)
section
variable {P:aI} {L:Lib} {self:cA} {rs:List a8} {b7:Nat->Env} {bR:Nat->Hp} {bN:Nat->Nat} {vF:Nat->AV}
def HM (hR:NA P L self rs b7 bR bN vF) {t i:Nat}:∀(k:Nat),i+k<=rs.length->(∀j r,i<=j->j<i+k->rs[j]? =some r->r.dst≠some t)->ai (b7 (i+k)) t=ai (b7 i) t
 | 0,_,_=>rfl
 | k+1,hk,h=>by
  have hr:rs[i+k]? =some rs[i+k]:=by simp_all
  rw [show i+(k+1)=i+k+1 by omega,hR.tm _ _ hr,Q9,yB (h (i+k) _ (by omega) (by omega) hr)];exact HM hR k (by omega) (fun j r h1 h2=>h j r h1 (by omega))
def abO {r:a8} {tm:Env} {hp ap:Hp} {ct a7:Nat} {v:AV} (hk:bA r.op<=1) (hv:eO P L self tm hp ct r=some (v,ap,a7)) (aX:∀id o,aq hp id=some o->id<ct):iw hp ct ap a7:=by
 unfold eO at hv
 cases hw:pn tm r.guard with
 | none=>simp [hw] at hv
 | some b=>
  cases b with
  | true=>simp only [hw] at hv;exact aay hk hv aX
  | false=>
   simp only [hw,yd,yk] at hv;obtain ⟨rfl,rfl,rfl⟩:=hv;exact iw.refl aX
def LP (hR:NA P L self rs b7 bR bN vF) {i:Nat} (aX:∀id o,aq (bR i) id=some o->id<bN i):∀(k:Nat),i+k<=rs.length->(∀j r,i<=j->j<i+k->rs[j]? =some r->bA r.op<=1)->iw (bR i) (bN i) (bR (i+k)) (bN (i+k))
 | 0,_,_=>iw.refl aX
 | k+1,hk,h=>by
  have ih:=LP hR aX k (by omega) (fun j r h1 h2=>h j r h1 (by omega));have hr:rs[i+k]? =some rs[i+k]:=by simp_all
  exact ih.trans (abO (h (i+k) _ (by omega) (by omega) hr) (hR.step _ _ hr) ih.lt)
end
end
section
open Go
def Mb {tm:Env} {t:Nat}:∀{l:List Nat},t∈l->ai (da tm l) t=ai tm t
 | [],h=>by cases h
 | i::r,h=>by
  simp only [da,ai]
  cases hb:yu i t with
  | true=>rw [yj hb];rfl
  | false=>
   rcases wE.1 h with e | h
   ·simp_all
   ·exact Mb h
def apo {P:aI} {L:Lib} {self:cA} {tm tm':Env} {hp:Hp} {ct:Nat} {o:Op} {r:AV×Hp×Nat} (h:∀t,t∈jW o->ai tm' t=ai tm t) (hv:bf P L self tm hp ct o=some r):bf P L self tm' hp ct (iP o)=some r:=by
 cases o with
 | iM rs f xs=>
  simp only [jW,wj] at h;simp only [iP,bf] at hv ⊢
  rw [dG (x:=f) fun t ht=>h t (.inl ht),Cg (xs:=xs) fun t ht=>h t (.inr ht)]
  cases hc:eJ P L self hp ct .dyn (aD tm f) (dw tm xs) with
  | none=>simp [hc] at hv
  | some q=>
   obtain ⟨v1,bj,ow⟩:=q;simp only [hc] at hv
   cases hs:oT tm hp bj rs with
   | false=>rw [hs] at hv;cases hv
   | true=>
    rw [hs] at hv;simpa only [oT,yA] using hv
 | jA rs sz x v=>
  simp only [iP,bf] at hv ⊢
  rw [Ce (o:= .st sz x v) (tm:=tm) h]
  split at hv
  ·rename_i id off hx
   cases hf:nL tm id rs with
   | false=>rw [hf] at hv;cases hv
   | true=>rw [hf] at hv;exact hv
  ·cases hv
 | kU rs sz b x v=>
  simp only [iP,bf] at hv ⊢
  rw [Ce (o:= .aO sz b x v) (tm:=tm) h]
  cases hc:cJ tm hp ct (.aO sz b x v) with
  | none=>simp [hc] at hv
  | some q=>
   obtain ⟨v1,bj,ow⟩:=q;simp only [hc] at hv
   cases hs:oT tm hp bj rs with
   | false=>rw [hs] at hv;cases hv
   | true=>rw [hs] at hv;exact hv
 | pN sz b x v=>
  rw [<-hv];simp only [jW,wj] at h;simp only [iP,bf]
  rw [dG (x:=x) fun t ht=>h t (.inl ht),dG (x:=v) fun t ht=>h t (.inr ht)]
 | call md f xs=>
  rw [<-hv];simp only [jW,wj] at h;simp only [iP,bf]
  rw [dG (x:=f) fun t ht=>h t (.inl ht),Cg (xs:=xs) fun t ht=>h t (.inr ht)]
 | st s x y=>rw [<-hv];simp only [iP,bf];exact Ce h
 | pK kk x y z=>rw [<-hv];simp only [iP,bf];exact Ce h
 | pM x=>rw [<-hv];simp only [iP,bf];exact Ce h
 | aO s b x y=>rw [<-hv];simp only [iP,bf];exact Ce h
 | mJ s x y=>rw [<-hv];simp only [iP,bf];exact Ce h
 | box s x=>rw [<-hv];simp only [iP,bf];rw [Hv (hp:=hp) h]
 | cZ n s z ps=>rw [<-hv];simp only [iP,bf];rw [Hv (hp:=hp) h]
 | gj s b z x y=>rw [<-hv];simp only [iP,bf];rw [Hv (hp:=hp) h]
 | zY=>exact hv
 | pL x=>rw [<-hv];simp only [iP,bf];rw [Hv (hp:=hp) h]
 | _=>rw [<-hv];simp only [iP,bf];rw [anN h]
def acF {P:aI} {L:Lib} {self:cA} {tm:Env} {hp ap:Hp} {ct a7:Nat} {q:Op} {v:AV} (hk:bA q=0\/∃sz ag x,q= .ld sz ag x) (hv:bf P L self tm hp ct q=some (v,ap,a7)):bw tm hp q=some v/\ap=hp/\a7=ct:=by
 have jP:∀{q:Op},(match bw tm hp q with | some v=>some (v,hp,ct) | none=>(none:fS))=some (v,ap,a7)->bw tm hp q=some v/\ap=hp/\a7=ct:=by
  intro q h
  cases hm:bw tm hp q with
  | none=>simp [hm] at h
  | some r=>
   simp only [hm,yd,yk] at h;obtain ⟨rfl,rfl,rfl⟩:=h;exact ⟨rfl,rfl,rfl⟩
 rcases hk with hk | ⟨sz,ag,x,rfl⟩
 ·cases bL:q with
  | call md f xs=>subst bL;cases md<;>simp [bA] at hk
  | iM rs f xs=>subst bL;simp [bA] at hk
  | jA rs s x y=>subst bL;simp [bA] at hk
  | kU rs s b x y=>subst bL;simp [bA] at hk
  | pN s b x y=>subst bL;simp [bA] at hk
  | st s x y=>subst bL;simp [bA] at hk
  | pK kk x y z=>subst bL;simp [bA] at hk
  | pM x=>subst bL;simp [bA] at hk
  | aO s b x y=>subst bL;simp [bA] at hk
  | mJ s x y=>subst bL;simp [bA] at hk
  | box s x=>subst bL;simp [bA] at hk
  | cZ n s z ps=>subst bL;simp [bA] at hk
  | gj s b z x y=>subst bL;simp [bA] at hk
  | zY=>subst bL;simp [bA] at hk
  | pL x=>subst bL;simp [bA] at hk
  | _=>exact bL▸jP (q:=q) (by rw [bL] at hv ⊢;simp only [bf] at hv;exact hv)
 ·exact jP (q:= .ld sz ag x) (by simp only [bf] at hv;exact hv)
section
variable {O:bk} {H:Hint} {ops:Array yX} {rs:List a8} {b7:Nat->Env} {bR:Nat->Hp} {bN:Nat->Nat} {vF:Nat->AV} {self:cA} {ro:Option Nat} {Q:um->Act->yi->Prop}
structure rN (O:bk) (H:Hint) (slf:cA) (ops:Array yX) (rs:List a8) (b7:Nat->Env) (bR:Nat->Hp) (bN:Nat->Nat) (vF:Nat->AV):Prop where
 run:NA O.prog O.aE slf rs b7 bR bN vF
 len:rs.length=ops.size
 of:∀(i:Nat) (r:a8) (o:yX),rs[i]? =some r->ops[i]? =some o->M5 O.P H ops r o
 pair:∀(i j:Nat) (a b:a8),i<j->rs[i]? =some a->rs[j]? =some b->Ord ops i j\/Nz a b ((rs.take j).drop (i+1))
 back:∀(i:Nat) (o:yX),ops[i]? =some o->∀e,e∈o.after->Region.binds .any e=true->e.on<i
def jQ (rs:List a8) (i:Nat):Prop:=∃r,rs[i]? =some r/\bA r.op=2
def Si (rs:List a8):∀(k i:Nat),i+k=rs.length->∃c,i<=c/\c<=rs.length/\(∀j,i<=j->j<c->¬jQ rs j)/\(c=rs.length\/jQ rs c)
 | 0,i,h=>⟨i,yr _,by omega,fun j h1 h2=>by omega,.inl (by omega)⟩
 | k+1,i,h=>by
  rcases uh (jQ rs i) with hw | hw
  ·grind
  ·obtain ⟨c,h1,h2,h3,h4⟩:=Si rs k (i+1) (by omega)
   grind
def Ia {rs:List a8} {i:Nat} {r:a8} (hr:rs[i]? =some r) (hw:¬jQ rs i):bA r.op<=1:=by
 have h:bA r.op≠2:=fun e=>hw ⟨r,hr,e⟩
 have:bA r.op<=2:=by
  cases r.op with
  | dS k x lo hi=>cases k<;>simp [bA]
  | len k x=>rcases k with _ | _ | k<;>simp [bA]
  | call md f xs=>cases md<;>simp [bA]
  | _=>simp [bA]
 omega
def Po (O:bk) (rs:List a8) (b7:Nat->Env) (D:Nat->Prop) (m:Mp) (S:Nat->Prop) (w:yi) (a:Act):Prop:=
 ∀t,∃j,j<=rs.length/\(∀(i:Nat) (r:a8),rs[i]? =some r->r.dst=some t->(D i↔i<j))/\ah O.af m S w (ai (b7 j) t) (a.tmps.getD t undef)
def as8 {D:Nat->Prop} {m:Mp} {S:Nat->Prop} {w:yi} {a:Act} {i:Nat} {r:a8} (hG:rN O H self ops rs b7 bR bN vF) (hT:Po O rs b7 D m S w a) (hr:rs[i]? =some r) (hi:¬D i)
  (eR:∀j,Ord ops j i->D j) (fQ:∀j,Ord ops i j->¬D j):∀t,t∈Cu r->ah O.af m S w (ai (b7 i) t) (a.tmps.getD t undef):=by
 intro t ht;obtain ⟨j,h1,h2,h3⟩:=hT t;have F1:i<rs.length:=(wh.1 hr).1;have e:ai (b7 j) t=ai (b7 i) t:=by
  rcases Nat.le_total j i with YQ | Dt
  ·obtain ⟨k,rfl⟩:∃k,i=j+k:=⟨i-j,by omega⟩;refine (HM hG.run k (by omega) (fun l rl g1 g2 hl hd=>?_)).symm;rcases hG.pair l (j+k) rl r (by omega) hl hr with ho | hf
   ·grind
   ·exact ((Ln hf.1).1 t hd).1 ht
  ·obtain ⟨k,rfl⟩:∃k,j=i+k:=⟨j-i,by omega⟩;refine HM hG.run k h1 (fun l rl g1 g2 hl hd=>?_);rcases ve g1 with rfl | g1
   ·grind
   ·rcases hG.pair i l r rl g1 hr hl with ho | hf
    ·grind
    ·exact (Ln hf.1).2 t hd ht
 grind
def adV {D D':Nat->Prop} {m m':Mp} {S S':Nat->Prop} {w w':yi} {a:Act} {i:Nat} {r:a8} {u:yg} (hG:rN O H self ops rs b7 bR bN vF) (hT:Po O rs b7 D m S w a) (hr:rs[i]? =some r) (hi:¬D i)
  (eR:∀j,Ord ops j i->D j) (fQ:∀j,Ord ops i j->¬D j) (hD:∀j,D' j↔D j\/j=i) (hm:de m m') (hS:∀b,S b->S' b) (hw:fA S w w') (hd:∀d,r.dst=some d->d<a.tmps.size)
  (hv:ah O.af m' S' w' (vF i) u):Po O rs b7 D' m' S' w' (a.put r.dst u):=by
 intro t;have F1:i<rs.length:=(wh.1 hr).1;by_cases KC:r.dst=some t
 ·refine ⟨i+1,F1,fun l rl hl YR=>?_,?_⟩
  ·rw [hD];constructor
   ·rintro (h | h)
    ·rcases vC l (i+1) with g | g
     ·grind
     ·rcases hG.pair i l r rl (by omega) hr hl with ho | hf
      ·grind
      ·exact (((Ln hf.1).1 t KC).2 YR).elim
    ·omega
   ·intro h;rcases ve (tJ h) with h | h
    ·grind
    ·rcases hG.pair l i rl r h hl hr with ho | hf
     ·grind
     ·exact (((Ln hf.1).1 t YR).2 KC).elim
  ·rw [hG.run.tm i r hr,Q9,Rc hd,yQ KC,yQ KC];exact hv
 ·obtain ⟨j,h1,h2,h3⟩:=hT t;refine ⟨j,h1,fun l rl hl YR=>?_,?_⟩
  ·grind
  ·rw [Rc hd,yB KC];exact lz hm hS hw _ _ h3
def aaA {tm:Env} {hp ap:Hp} {ct a7 id off sz Dr t:Nat} {ag:Bool} {x y:X} {v v':AV}:∀{l:List (Nat×Bool×Nat)},nL tm id l=true->(sz,ag,t)∈l->aD tm x= .ptr id off->
  cJ tm hp ct (.st Dr x y)=some (v',ap,a7)->iU hp sz ag (ai tm t)=some v->iU ap sz ag (ai tm t)=some v
 | [],_,h,_,_,_=>by cases h
 | (s,g,u)::r,h,hm,hx,hw,hv=>by
  simp only [nL,ye] at h;rcases wE.1 hm with e | hm
  ·simp only [yk] at e;obtain ⟨rfl,rfl,rfl⟩:=e;have h1:=h.1
   split at h1
   ·rename_i j o hj;have dc:j≠id:=by
     intro e
     simp_all
    rw [hj] at hv ⊢;simp only [cJ,hx] at hw;have key:∀ob,aq (bc hp id ob) j=aq hp j:=fun ob=>by rw [rm,yB (ybD dc)]
    split at hw
    ·rename_i pu ex z cs F2;generalize (yu _ _&&yE _ _&&cy _)=bb at hw
     cases bb with
     | false=>cases hw
     | true=>
      obtain ⟨_,rfl,_⟩:=hw;simp only [iU,key] at hv ⊢;exact hv
    ·cases hw
   ·rename_i cs hj;rw [hj] at hv ⊢;simpa only [iU] using hv
   ·cases h1
  ·exact aaA h.2 hm hx hw hv
def aap {D:Nat->Prop} {i c:Nat} {r:a8} {sz t:Nat} {ag:Bool} (hG:rN O H self ops rs b7 bR bN vF) (hr:rs[i]? =some r) (hi:¬D i) (F3:r.guard=none/\r.op= .ld sz ag (.t t)) (hc:c<=rs.length)
  (hW:∀j,j<c->jQ rs j->D j) (fQ:∀j,Ord ops i j->¬D j) (aX:∀j,j<=c->∀id o,aq (bR j) id=some o->id<bN j):∀k,i+1+k<=c->iU (bR (i+1+k)) sz ag (ai (b7 i) t)=some (vF i)
 | 0,hk=>by
  have h1:=hG.run.step i r hr;simp only [eO,F3.1,pn,F3.2] at h1;obtain ⟨h2,h3,h4⟩:=acF (.inr ⟨_,_,_,rfl⟩) h1;simp only [bw,aD] at h2;rw [Nat.add_zero,h3];exact h2
 | k+1,hk=>by
  have ih:=aap hG hr hi F3 hc hW fQ aX k (by omega);have hl:i+1+k<rs.length:=by omega
  have hj:rs[i+1+k]? =some rs[i+1+k]:=by simp [hl]
  have aR:=hG.run.step _ _ hj;rw [show i+1+(k+1)=i+1+k+1 by omega];rcases uh (jQ rs (i+1+k)) with hw | hw
  ·have hD:=hW _ (by omega) hw;rcases hG.pair i (i+1+k) r _ (by omega) hr hj with ho | hf
   ·exact (fQ _ ho hD).elim
   ·obtain ⟨F0,kj⟩:=hf;obtain ⟨rw',h5,h6⟩:=hw;rw [hj] at h5;injection h5 with h5
    subst h5;rcases kj with kj | kj
    ·have h1k:bA r.op=1:=by rw [F3.2];rfl
     simp only [HJ,h1k,h6] at kj;cases kj
    ·unfold H7 at kj;simp only [F3.1,F3.2] at kj;generalize ja:(rs[i+1+k]).op=q at kj;have SJ:CR t (r::(rs.take (i+1+k)).drop (i+1))=true->ai (b7 (i+1+k)) t=ai (b7 i) t:=by
      intro aAL;have lY:=aaZ aAL;rw [show i+1+k=i+(1+k) by omega];refine HM hG.run (1+k) (by omega) (fun l rl g1 g2 Dv=>lY rl ?_);rcases ve g1 with rfl | g1
      ·rw [hr] at Dv;injection Dv with Dv;subst Dv;exact wN
      ·refine xW _ ?_
       have:((rs.take (i+1+k)).drop (i+1))[l-(i+1)]? =some rl:=by
        rw [List.getElem?_drop,List.getElem?_take_of_lt (by omega),show i+1+(l-(i+1))=l by omega];exact Dv
       exact List.mem_of_getElem? this
     unfold eO at aR
     cases hg:pn (b7 (i+1+k)) (rs[i+1+k]).guard with
     | none=>simp [hg] at aR
     | some b=>
      cases b with
      | false=>
       simp only [hg,yd,yk] at aR;rw [<-aR.2.1];exact ih
      | true=>
       simp only [hg,ja] at aR;cases q<;>simp only [yN] at kj
       case iM Dw fx xs=>
        simp only [ye] at kj;have Ji:=LO kj.1;have BN:=SJ kj.2;simp only [bf] at aR
        cases gP:eJ O.prog O.aE self (bR (i+1+k)) (bN (i+1+k)) .dyn (aD (b7 (i+1+k)) fx) (dw (b7 (i+1+k)) xs) with
        | none=>simp [gP] at aR
        | some z=>
         obtain ⟨v1,bj,ow⟩:=z;simp only [gP] at aR
         cases hs:oT (b7 (i+1+k)) (bR (i+1+k)) bj Dw with
         | false=>rw [hs] at aR;cases aR
         | true=>
          rw [hs] at aR;simp only [yA,yd,yk] at aR;obtain ⟨_,h8,_⟩:=aR;rw [<-h8,<-BN];exact Qd hs Ji (by rw [BN];exact ih)
       case jA Dw Dr x v=>
        simp only [ye] at kj;have Ji:=LO kj.1;have BN:=SJ kj.2;simp only [bf] at aR
        split at aR
        ·rename_i id off hx
         cases hs:nL (b7 (i+1+k)) id Dw with
         | false=>rw [hs] at aR;cases aR
         | true=>
          rw [hs] at aR;simp only [yA] at aR;rw [<-BN];exact aaA hs Ji hx aR (by rw [BN];exact ih)
        ·cases aR
       case kU Dw Dr b x v=>
        simp only [ye] at kj;have Ji:=LO kj.1;have BN:=SJ kj.2;simp only [bf] at aR
        cases gP:cJ (b7 (i+1+k)) (bR (i+1+k)) (bN (i+1+k)) (.aO Dr b x v) with
        | none=>simp [gP] at aR
        | some z=>
         obtain ⟨v1,bj,ow⟩:=z;simp only [gP] at aR
         cases hs:oT (b7 (i+1+k)) (bR (i+1+k)) bj Dw with
         | false=>rw [hs] at aR;cases aR
         | true=>
          rw [hs] at aR;simp only [yA,yd,yk] at aR;obtain ⟨_,h8,_⟩:=aR;rw [<-h8,<-BN];exact Qd hs Ji (by rw [BN];exact ih)
  ·exact adN (abO (Ia hj hw) aR (aX _ (by omega))).le ih
structure Inv (O:bk) (ops:Array yX) (rs:List a8) (b7:Nat->Env) (bR:Nat->Hp) (bN:Nat->Nat) (D:Nat->Prop) (m0:Mp) (S0:Nat->Prop) (w0:yi) (n0:Nat) (d0:List tr) (st c:Nat) (m:Mp) (S:Nat->Prop) (w:yi) (a:Act):Prop where
 YS:st<=c
 cn:c<=rs.length
 before:∀i,i<st->jQ rs i->D i
 F5:∀i,st<=i->i<c->¬jQ rs i
 cut:c=rs.length\/(jQ rs c/\¬D c)
 behind:∀(i:Nat) (r:a8),c<=i->rs[i]? =some r->1<=bA r.op->¬D i
 hp:aU O m S w (bR c) (bN c)
 YT:∀id p,m id=some p->id<bN st\/∃i,st<=i/\i<c/\D i/\bN i<=id/\id<bN (i+1)
 tm:Po O rs b7 D m S w a
 Pp:ck m0 S0 w0 (bR 0) m S w (bR c) (bN 0)
 ge:bN 0<=bN c
 size:a.tmps.size=n0
 defers:a.defers=d0
 je:st=0\/jQ rs (st-1)
 F6:∀j,j<=c->∀id o,aq (bR j) id=some o->id<bN j
end
end
section
open Go
section
variable {O:bk} {H:Hint} {ops:Array yX} {rs:List a8} {b7:Nat->Env} {bR:Nat->Hp} {bN:Nat->Nat} {vF:Nat->AV} {self:cA} {ro:Option Nat} {Q:um->Act->yi->Prop}
variable {D D':Nat->Prop} {m0:Mp} {S0:Nat->Prop} {w0:yi} {n0:Nat} {d0:List tr} {st c i:Nat} {m:Mp} {S:Nat->Prop} {w:yi} {a:Act} {r:a8} {o:yX}
def LQ (hG:rN O H self ops rs b7 bR bN vF) (hI:Inv O ops rs b7 bR bN D m0 S0 w0 n0 d0 st c m S w a) {x y:Nat} (hx:st<=x) (hxy:x<=y) (hy:y<=c):iw (bR x) (bN x) (bR y) (bN y):=by
 obtain ⟨k,rfl⟩:∃k,y=x+k:=⟨y-x,by omega⟩
 have:=hI.cn
 exact LP hG.run (hI.F6 x (by omega)) k (by omega) (fun j r h1 h2 hr=>Ia hr (hI.F5 j (by omega) (by omega)))
def Rh (hG:rN O H self ops rs b7 bR bN vF) (hI:Inv O ops rs b7 bR bN D m0 S0 w0 n0 d0 st c m S w a) (hr:rs[i]? =some r) (hi:¬D i) (eR:∀j,Ord ops j i->D j) (fQ:∀j,Ord ops i j->¬D j) (hD:∀j,D' j↔D j\/j=i)
  (hd:∀d,r.dst=some d->d<a.tmps.size) (hw:¬jQ rs i) (mN:bA r.op=0\/i<c) {m':Mp} {S':Nat->Prop} {w':yi} {u:yg} (k1:aU O m' S' w' (bR c) (bN c)) (k2:de m m')
  (k3:∀id p,m' id=some p->m id=some p\/(st<=i/\i<c/\bN i<=id/\id<bN (i+1))) (k4:ah O.af m' S' w' (vF i) u) (k5:ck m S w (bR c) m' S' w' (bR c) (bN c)):
  Inv O ops rs b7 bR bN D' m0 S0 w0 n0 d0 st c m' S' w' (a.put r.dst u) where
 YS:=hI.YS
 cn:=hI.cn
 before j hj Dx:=(hD j).2 (.inl (hI.before j hj Dx))
 F5:=hI.F5
 cut:=hI.cut.imp (fun h=>h) (fun h=>⟨h.1,fun hc=>((hD c).1 hc).elim h.2 (fun e=>hw (e▸h.1))⟩)
 behind j rj hj Dy hk KD:=((hD j).1 KD).elim (hI.behind j rj hj Dy hk) (fun e=>by
  subst e;rw [hr] at Dy;injection Dy with Dy
  subst Dy
  rcases mN with h | h<;>omega)
 hp:=k1
 YT id p hp:=by
  rcases k3 id p hp with h | ⟨h1,h2,h3,h4⟩
  ·rcases hI.YT id p h with h | ⟨j,g1,g2,g3,g4,g5⟩
   ·exact .inl h
   ·exact .inr ⟨j,g1,g2,(hD j).2 (.inl g3),g4,g5⟩
  ·exact .inr ⟨i,h1,h2,(hD i).2 (.inr rfl),h3,h4⟩
 tm:=adV hG hI.tm hr hi eR fQ hD k2 k5.sub (fun b hb=>k5.still b hb) hd k4
 Pp:=hI.Pp.trans (k5.rR hI.ge)
 ge:=hI.ge
 size:=by rw [Ma];exact hI.size
 defers:=by rw [Qv];exact hI.defers
 je:=hI.je
 F6:=hI.F6
def adW (hG:rN O H self ops rs b7 bR bN vF) (hI:Inv O ops rs b7 bR bN D m0 S0 w0 n0 d0 st c m S w a) (hr:rs[c]? =some r) (hi:¬D c) (eR:∀j,Ord ops j c->D j) (fQ:∀j,Ord ops c j->¬D j) (hD:∀j,D' j↔D j\/j=c)
  (hd:∀d,r.dst=some d->d<a.tmps.size) (hw:jQ rs c) {m':Mp} {S':Nat->Prop} {w':yi} {u:yg} (k1:aU O m' S' w' (bR (c+1)) (bN (c+1))) (k2:bN c<=bN (c+1))
  (k4:ah O.af m' S' w' (vF c) u) (k5:ck m S w (bR c) m' S' w' (bR (c+1)) (bN c)):
  ∃c' BH,Inv O ops rs b7 bR bN D' m0 S0 w0 n0 d0 (c+1) c' m' BH w' (a.put r.dst u):=by
 have gP:c<rs.length:=(wh.1 hr).1;obtain ⟨c',h1,h2,h3,h4⟩:=Si rs (rs.length-(c+1)) (c+1) (by omega);obtain ⟨k,rfl⟩:∃k,c'=c+1+k:=⟨c'-(c+1),by omega⟩;have hg:∀k',k'<=k->iw (bR (c+1)) (bN (c+1)) (bR (c+1+k')) (bN (c+1+k')):=fun k' sn=>
  LP hG.run k1.aX k' (by omega) (fun j r g1 g2 hr=>Ia hr (h3 j g1 (by omega)))
 obtain ⟨BH,g1,g2,g3,g4⟩:=L9 k1 (hg k (yr _));have hml:de m m':=fun id p h=>k5.old id p (hI.hp.lt id p h) h
 refine ⟨c+1+k,BH,⟨by omega,h2,?_,h3,?_,?_,g1,fun id p h=> .inl (k1.lt id p h),?_,?_,?_,by rw [Ma];exact hI.size,by rw [Qv];exact hI.defers,.inr (by simpa using hw),?_⟩⟩
 ·intro j hj Dx;rcases ve (tJ hj) with e | hj
  ·exact (hD j).2 (.inr e)
  ·rcases vC j st with g | g
   ·exact (hD j).2 (.inl (hI.before j g Dx))
   ·exact (hI.F5 j g hj Dx).elim
 ·refine h4.imp (fun h=>h) (fun h=>⟨h,fun hc=>?_⟩);obtain ⟨rc,YU,mN⟩:=h;rcases (hD _).1 hc with g | g
  ·exact hI.behind _ rc (by omega) YU (by omega) g
  ·omega
 ·intro j rj hj Dy hk KD;rcases (hD j).1 KD with g | g
  ·exact hI.behind j rj (by omega) Dy hk g
  ·omega
 ·exact adV hG hI.tm hr hi eR fQ hD hml (fun b hb=>g2 b (k5.sub b hb)) (fun b hb=>k5.still b hb) hd (lz (fun _ _ h=>h) g2 (fun _ _=>rfl) _ _ k4)
 ·exact (hI.Pp.trans (k5.rR hI.ge)).trans (g4 (bN 0))
 ·have:=(hg k (yr _)).pO
  have:=hI.ge
  omega
 ·intro j hj;rcases vC c j with g | g
  ·obtain ⟨k',rfl⟩:∃k',j=c+1+k':=⟨j-(c+1),by omega⟩;exact (hg k' (by omega)).lt
  ·exact hI.F6 j g
def arc {q:Op} (h:bA q≠2):iP q=q:=by
 cases q<;>first
  | rfl
  | exact absurd rfl h
def aa0 {x y:a8} {l:List a8} (h:Nz x y l):¬(bA x.op=2/\1<=bA y.op)/\(1<=bA x.op->bA y.op=2->x.guard=none/\∃sz ag t,x.op= .ld sz ag (.t t)):=by
 obtain ⟨_,h⟩:=h;have ex:H7 x y l=true->x.guard=none/\∃sz ag t,x.op= .ld sz ag (.t t):=by
  intro he;unfold H7 at he
  split at he
  ·rename_i sz ag t Dw fx xs h1 h2 h3;exact ⟨h1,sz,ag,t,h2⟩
  ·rename_i h1 h2 h3;exact ⟨h1,_,_,_,h2⟩
  ·rename_i h1 h2 h3;exact ⟨h1,_,_,_,h2⟩
  ·cases he
 have k2:∀q:Op,bA q<=2:=fun q=>by
  cases q with
  | dS k x lo hi=>cases k<;>simp [bA]
  | len k x=>rcases k with _ | _ | k<;>simp [bA]
  | call md f xs=>cases md<;>simp [bA]
  | _=>simp [bA]
 constructor
 ·rintro ⟨h1,h2⟩;rcases h with h | h
  ·have:bA y.op=1\/bA y.op=2:=by have:=k2 y.op;omega
   rcases this with e | e<;>(simp only [HJ,h1,e] at h;cases h)
  ·obtain ⟨_,sz,ag,t,e⟩:=ex h;rw [e] at h1;cases h1
 ·intro h1 h2;rcases h with h | h
  ·have:bA x.op=1\/bA x.op=2:=by have:=k2 x.op;omega
   rcases this with e | e<;>(simp only [HJ,h2,e] at h;cases h)
  ·exact ex h
def ard (hC:nK O self) (hH:fc O H) (hG:rN O H self ops rs b7 bR bN vF) (hn:H.n<=n0) (hI:Inv O ops rs b7 bR bN D m0 S0 w0 n0 d0 st c m S w a) (hr:rs[i]? =some r) (ho:ops[i]? =some o) (hi:¬D i)
  (eR:∀j,Ord ops j i->D j) (fQ:∀j,Ord ops i j->¬D j) (hD:∀j,D' j↔D j\/j=i) {K:Act->yi->Prop}
  (hK:∀st' c' m' S' w' a',Inv O ops rs b7 bR bN D' m0 S0 w0 n0 d0 st' c' m' S' w' a'->K a' w'):wpOpIn (WF ro) 0 O.P ops Q i K a w:=by
 have cB:=hG.of i r o hr ho;have Td:=as8 hG hI.tm hr hi eR fQ;have aR:=hG.run.step i r hr;have hd:∀d,r.dst=some d->d<a.tmps.size:=by
  rw [cB.dst];exact acE cB.ok (by rw [hI.size];exact hn)
 have kV:=hI.YS;have jO:1<=bA r.op->i<=c:=by
  intro hk;rcases vC c i with YV | YV
  ·have F1:i<rs.length:=(wh.1 hr).1;rcases hI.cut with h | ⟨⟨rc,YU,mN⟩,Ks⟩
   ·omega
   ·rcases hG.pair c i rc r YV YU hr with h | h
    ·exact (Ks (eR c h)).elim
    ·exact ((aa0 h).1 ⟨mN,hk⟩).elim
  ·exact YV
 have hwc:jQ rs i->i=c:=by
  intro hw;obtain ⟨rw',h1,h2⟩:=hw;rw [hr] at h1;injection h1 with h1
  subst h1;have h3:=jO (by omega);rcases ve h3 with e | h3
  ·exact e
  ·rcases vC i st with g | g
   ·exact (hi (hI.before i g ⟨r,hr,h2⟩)).elim
   ·exact (hI.F5 i g h3 ⟨r,hr,h2⟩).elim
 have aX:1<=bA r.op->¬jQ rs i->i<c:=by
  intro hk hw;rcases ve (jO hk) with e | h
  ·subst e;rcases hI.cut with h | h
   ·have F1:i<rs.length:=(wh.1 hr).1;omega
   ·exact (hw h.1).elim
  ·exact h
 have mN:¬jQ rs i->bA r.op=0\/i<c:=fun hw=>by
  rcases xk (bA r.op) with h | h
  ·exact .inl h
  ·exact .inr (aX h hw)
 unfold wpOpIn;simp only [ho];unfold eO at aR
 cases Pq:pn (b7 i) r.guard with
 | none=>simp [Pq] at aR
 | some b=>
  have YP:=abL cB.guard (fun t ht=>Td t (by simp [Cu,ht])) Pq;rw [YP]
  cases b with
  | false=>
   simp only [Pq,yd,yk] at aR;obtain ⟨hv,hh,hc⟩:=aR;simp only [yN,xf];refine ⟨fun _ _=>trivial,?_⟩;have dY:∀m S w,ah O.af m S w (vF i) undef:=fun m S w=>by rw [<-hv];simp [ah,az,undef]
   rw [<-cB.dst];rcases uh (jQ rs i) with hw | hw
   ·have e:=hwc hw;subst e;obtain ⟨c',BH,h⟩:=adW hG hI hr hi eR fQ hD hd hw (m':=m) (S':=S) (w':=w) (u:=undef) (by rw [<-hh,<-hc];exact hI.hp) (by omega) (dY _ _ _) (by rw [<-hh];exact ck.refl)
    exact hK _ _ _ _ _ _ h
   ·exact hK _ _ _ _ _ _ (Rh hG hI hr hi eR fQ hD hd hw (mN hw) (m':=m) (S':=S) (w':=w) (u:=undef) hI.hp de.refl (fun _ _ h=> .inl h) (dY _ _ _) ck.refl)
  | true=>
   simp only [Pq] at aR;simp only [xC];have lY:=aaz cB.op aR;have Pr:b9 O m S w (da (b7 i) (jW r.op)) a.tmps:=fun t=>by
    rcases uh (t∈jW r.op) with h | h
    ·rw [Mb h];exact Td t (by simp [Cu,h])
    ·have:ai (da (b7 i) (jW r.op)) t= .undef:=by
      clear Td aR;revert h;generalize jW r.op=l;intro h
      induction l with
      | nil=>rfl
      | cons x l ih=>
       simp only [da,ai];have hx:yu x t=false:=by
        cases hq:yu x t with
        | false=>rfl
        | true=>exact absurd (by rw [yj hq];exact wN) h
       rw [hx];exact ih (fun h'=>h (xW _ h'))
     rw [this];simp only [ah]
   have Dz:bf O.prog O.aE self (da (b7 i) (jW r.op)) (bR i) (bN i) (iP r.op)=some (vF i,bR (i+1),bN (i+1)):=
    apo (fun t ht=>Mb ht) aR
   have ahe:¬jQ rs i->iP r.op=r.op:=fun hw=>arc (fun h=>hw ⟨r,hr,h⟩)
   have now:¬jQ rs i->bw (da (b7 i) (jW r.op)) (bR c) r.op=some (vF i)->Oper.wpIn (WF ro) 0 O.P o a w K Q:=by
    intro hw jP;have ja:∃k,r.op=aW O.P H k o:=by
     rcases cB.op with h | ⟨cc,f,rr,_,_,h⟩ | ⟨_,_,_,_,_,_,_,h⟩ | ⟨_,_,_,_,_,_,_,h⟩ | ⟨_,_,_,_,_,_,h⟩
     ·exact h
     ·rw [h] at jP;simp [bw] at jP
     ·rw [h] at jP;simp [bw] at jP
     ·rw [h] at jP;simp [bw] at jP
     ·rw [h] at jP;simp [bw] at jP
    obtain ⟨k,hk⟩:=ja;rw [hk] at jP;rw [hk] at Pr;obtain ⟨u,h1,h2⟩:=adG hH Pr hI.hp jP;refine Ip lY h1 (.inl rfl) ?_;rw [<-cB.dst];exact hK _ _ _ _ _ _ (Rh hG hI hr hi eR fQ hD hd hw (mN hw) hI.hp de.refl (fun _ _ h=> .inl h) h2 ck.refl)
   rcases uh (jQ rs i) with hw | hw
   ·have e:=hwc hw;subst e;refine acD hC hH (aop cB.op) lY Dz Pr hI.hp (fun u m' S' w' k1 k2 k3 k4=>?_);rw [<-cB.dst];obtain ⟨c',BH,h⟩:=adW hG hI hr hi eR fQ hD hd hw k1 k2 k3 k4;exact hK _ _ _ _ _ _ h
   ·rcases xk (bA r.op) with hk | hk
    ·have Dz:=ahe hw▸Dz;obtain ⟨h1,_,_⟩:=acF (.inl hk) Dz;exact now hw (by rw [ape hk (bR c) (bR i)];exact h1)
    ·have FV:=aX hk hw;rcases vC i st with Tf | Tf
     ·
      rcases hI.je with h0 | h0
      ·omega
      ·have bj:D (st-1):=hI.before _ (by omega) h0;have dc:i≠st-1:=fun e=>hi (e▸bj)
       obtain ⟨rp,hrp,hkp⟩:=h0;rcases hG.pair i (st-1) r rp (by omega) hr hrp with h | h
       ·exact (fQ _ h bj).elim
       ·obtain ⟨hg,sz,ag,t,ja⟩:=(aa0 h).2 hk hkp;have hl:=aap (c:=c) hG hr hi ⟨hg,ja⟩ hI.cn (fun j hj Dx=>by
         rcases vC j st with g | g
         ·exact hI.before j g Dx
         ·exact (hI.F5 j g hj Dx).elim) fQ hI.F6 (c-(i+1)) (by omega)
        rw [show i+1+(c-(i+1))=c by omega] at hl;refine now hw ?_;rw [ja];simp only [bw,aD];rw [Mb (by simp [jW,iO])];exact hl
     ·have ig:=LQ hG hI (x:=i+1) (y:=c) (by omega) FV (yr _);have KE:=LQ hG hI (x:=st) (y:=i) (yr _) Tf (by omega)
      refine quiet_step (Hq:=bR c) (cH:=bN c) hC hH (Ia hr hw) cB.op lY (ahe hw▸Dz) ig.le ig.pO (hI.F6 i (by omega)) ?_ Pr hI.hp (fun u m' S' w' k1 k2 k3 k4 k5=>?_)
      ·intro id h1 h2
       cases hm:m id with
       | none=>rfl
       | some p=>
        rcases hI.YT id p hm with h | ⟨j,q1,q2,q3,q4,q5⟩
        ·have:=KE.pO;omega
        ·rcases Nat.lt_trichotomy j i with g | g | g
         ·have:=(LQ hG hI (x:=j+1) (y:=i) (by omega) g (by omega)).pO;omega
         ·subst g;exact (hi q3).elim
         ·have:=(LQ hG hI (x:=i+1) (y:=j) (by omega) g (by omega)).pO;omega
      ·rw [<-cB.dst];exact hK _ _ _ _ _ _ (Rh hG hI hr hi eR fQ hD hd hw (.inr FV) k1 k2 (fun id p h=>(k3 id p h).imp (fun h=>h) (fun h=>⟨Tf,FV,h.1,h.2⟩)) k4 k5)
def left (n:Nat) (listed:Array Bool):Nat:=(List.range n).countP fun i=> !listed.getD i false
def are {n:Nat} {listed:Array Bool} {i:Nat} (hi:i<n) (hs:listed.size=n) (hl:listed.getD i true=false):left n (listed.setIfInBounds i true)+1=left n listed:=by
 have key:∀(l:List Nat),l.Nodup->(i∈l->(l.countP fun j=> !(listed.setIfInBounds i true).getD j false)+1=l.countP fun j=> !listed.getD j false)/\(i∉l->(l.countP fun j=> !(listed.setIfInBounds i true).getD j false)=l.countP fun j=> !listed.getD j false):=by
  intro l
  induction l with
  | nil=>intro _;exact ⟨fun h=>(by cases h),fun _=>rfl⟩
  | cons x l ih=>
   intro lY;have hx:x≠i->(listed.setIfInBounds i true).getD x false=listed.getD x false:=fun h=>getD_set_ne false (ybD h)
   refine ⟨fun hm=>?_,fun hm=>?_⟩
   ·rw [yaF,yaF];by_cases e:x=i
    ·simp_all
    ·grind
   ·grind
 exact (key _ List.nodup_range).1 (List.mem_range.2 hi)
def apq {n:Nat} {listed:Array Bool} (h:left n listed=0):∀i,i<n->listed.getD i false=true:=by
 unfold left at h
 simp_all
def apr {listed:Array Bool} (hs:listed.size=ops.size) (hb:∀(i:Nat) (o:yX),ops[i]? =some o->∀e,e∈o.after->Region.binds .any e=true->e.on<i) (h:Region.ready .any ops listed=[]):∀i,i<ops.size->listed.getD i false=true:=by
 intro i
 induction i using vN with
 | _ i ih=>
  intro hi
  cases hq:listed.getD i false with
  | true=>rfl
  | false=>
   have:i∈Region.ready .any ops listed:=by
    refine mem_ready.2 ⟨?_,ops[i],by simp [hi],fun e he so=>?_⟩
    ·have aX:i<listed.size:=by omega
     simp only [vl,aX,Array.getElem?_eq_getElem,ua] at hq ⊢;exact hq
    ·have:=hb i ops[i] (by simp [hi]) e he so
     exact ih e.on this (by omega)
   rw [h] at this;cases this
def as9 (hG:rN O H self ops rs b7 bR bN vF) (hI:Inv O ops rs b7 bR bN D m0 S0 w0 n0 d0 st c m S w a) (my:∀i,i<rs.length->D i):
  aU O m S w (bR rs.length) (bN rs.length)/\b9 O m S w (b7 rs.length) a.tmps/\ck m0 S0 w0 (bR 0) m S w (bR rs.length) (bN 0)/\bN 0<=bN rs.length:=by
 have hc:c=rs.length:=by
  rcases hI.cut with h | ⟨⟨r,h1,_⟩,h2⟩
  ·grind
  ·grind
 subst hc;refine ⟨hI.hp,fun t=>?_,hI.Pp,hI.ge⟩;obtain ⟨j,h1,h2,h3⟩:=hI.tm t;obtain ⟨k,hk⟩:∃k,rs.length=j+k:=⟨rs.length-j,by omega⟩
 have:=HM (t:=t) (i:=j) hG.run k (by omega) (fun l r g1 g2 hl hd=>by
  have:=(h2 l r hl hd).1 (my l (wh.1 hl).1)
  omega)
 grind
def avv (hC:nK O self) (hH:fc O H) (hG:rN O H self ops rs b7 bR bN vF) (hn:H.n<=n0)
  (hQ:∀a' m' S' w',aU O m' S' w' (bR rs.length) (bN rs.length)->bN 0<=bN rs.length->b9 O m' S' w' (b7 rs.length) a'.tmps->ck m0 S0 w0 (bR 0) m' S' w' (bR rs.length) (bN 0)->a'.tmps.size=n0->a'.defers=d0->Q .normal a' w'):
  ∀(bm:Nat) (listed:Array Bool) (st c:Nat) (m:Mp) (S:Nat->Prop) (w:yi) (a:Act),listed.size=ops.size->left ops.size listed=bm->Sh ops (fun i=>listed.getD i false=true)->
   Inv O ops rs b7 bR bN (fun i=>listed.getD i false=true) m0 S0 w0 n0 d0 st c m S w a->wpAnyIn (WF ro) 0 O.P .any ops Q bm listed a w:=by
 have fin:∀(listed:Array Bool) (st c:Nat) (m:Mp) (S:Nat->Prop) (w:yi) (a:Act),Inv O ops rs b7 bR bN (fun i=>listed.getD i false=true) m0 S0 w0 n0 d0 st c m S w a->(∀i,i<ops.size->listed.getD i false=true)->Q .normal a w:=by
  intro listed st c m S w a hI my;obtain ⟨h1,h2,h3,h4⟩:=as9 hG hI (fun i hi=>my i (by rw [<-hG.len];exact hi))
  exact hQ a m S w h1 h4 h2 h3 hI.size hI.defers
 intro bm
 induction bm with
 | zero=>
  intro listed st c m S w a hs hl hc hI;have my:=apq hl;refine ⟨?_,fin listed st c m S w a hI my⟩;rw [List.eq_nil_iff_forall_not_mem];intro i hm;obtain ⟨h1,o,ho,_⟩:=mem_ready.1 hm
  grind
 | succ bm ih=>
  intro listed st c m S w a hs hl hc hI;refine ⟨fun h=>fin listed st c m S w a hI (apr hs hG.back h),fun i hm=>?_⟩;obtain ⟨h1,o,ho,h2⟩:=mem_ready.1 hm;have hi:i<ops.size:=(xt.1 ho).1;have hr:rs[i]? =some (rs[i]'(by rw [hG.len];exact hi)):=by simp [hG.len,hi]
  have aX:i<listed.size:=by omega
  have hni:¬listed.getD i false=true:=by
   grind
  have hD:∀j,(listed.setIfInBounds i true).getD j false=true↔listed.getD j false=true\/j=i:=by
   intro j;by_cases e:j=i
   ·simp_all
   ·rw [getD_set_ne false (ybD e)];simp [e]
  refine ard hC hH hG hn hI hr ho hni (abN hc i o ho h2) (fun j hj KD=>?_) hD (fun st' c' m' S' w' a' YW=>ih (listed.setIfInBounds i true) st' c' m' S' w' a' (by simp [hs]) ?_ ?_ YW)
  ·have hjl:j<ops.size:=by
    grind
   exact hni (arb hc (show ops[j]? =some ops[j] by simp [hjl]) KD hj)
  ·have:=are hi hs h1
   omega
  ·intro j oj hoj hj e he hb;rw [hD];rcases (hD j).1 hj with g | g
   ·exact .inl (hc j oj hoj g e he hb)
   ·grind
end
end
section
open Go
def aor {F:Fence} {n:Nat} {P:y5} {Q:um->Act->yi->Prop} {a:Act} {w:yi} {c:wX} (h:c.wpIn F n P Q a w) (hg:∀l a w,¬Q (.goto l) a w):(Code.scope c).wpIn F n P Q a w:=by
 intro b k cs cB hb hr;have h0:(lone (b.atR a (.code (.scope c)::k)) cs w).fenced P F:=fenced_calm hb hr rfl;have s0:step P (lone (b.atR a (.code (.scope c)::k)) cs w)= .next (lone (b.atR a (.code c:: .inScope c::k)) cs w):=step_lone_go (by simp [stepG,stepG.exec,Frame.atR]);obtain ⟨e,a₁,w₁,hq,CZ⟩:=h b (.inScope c::k) cs cB hb hr;have hx:∀id,exitTo id (.inScope c::k)=exitTo id k:=fun id=>by simp [exitTo]
 cases e with
 | normal=>
  have s1:step P (lone (b.atR a₁ (.inScope c::k)) cs w₁)= .next (lone (b.atR a₁ k) cs w₁):=step_lone_go (by simp [stepG,stepG.exec,Frame.atR]);exact ⟨.normal,a₁,w₁,hq,.head h0 s0 (StepsIn.trans CZ (.one (fenced_calm hb hr rfl) s1))⟩
 | exit id=>
  exact ⟨.exit id,a₁,w₁,hq,fun k' hk=> .head h0 s0 (CZ.1 k' (by rw [hx];exact hk)),fun bn hk=>let ⟨k₁,h1,h2⟩:=CZ.2 bn (by rw [hx];exact hk);⟨k₁,h1,.head h0 s0 h2⟩⟩
 | goto l=>exact (hg _ _ _ hq).elim
 | ret=>exact ⟨_,a₁,w₁,hq,.of_steps (.one h0 s0) CZ⟩
 | panic ch=>exact ⟨_,a₁,w₁,hq,.of_steps (.one h0 s0) CZ⟩
 | outgrown=>exact ⟨_,a₁,w₁,hq,.of_steps (.one h0 s0) CZ⟩
def qG:Ex->um
 | .normal=> .normal
 | .ret=> .ret
 | .exit id=> .exit id
def Marks (lo:Nat) (S:Nat->Prop) (w:yi) (ds:List tr):Prop:=∃rs:List Nat,ds=rs.map (fun r=>{target:= .collected r,args:=#[]})/\rs.Nodup/\
 ∀r,r∈rs->w.heap[r]? =some (.deferred (some []))/\¬S r/\lo<=r
def zj (ro:Option Nat) (w:yi):Prop:=∀l,ro=some l->∃r:uN,w.heap[l]? =some (.loop r)
section
variable {O:bk} {m:Mp} {S:Nat->Prop} {w:yi} {hp:Hp} {ct:Nat}
def acG (hh:aU O m S w hp ct) {b:Nat} (h:eb m hp b):∀x,w.heap[b]?≠some (.deferred x):=by
 intro x hx;obtain ⟨id,o,p,h1,h2,rfl⟩:=h;have h3:=hh.obj id o p h1 h2
 cases o with
 | cells rw pu ex sz cs=>obtain ⟨q,arr,t,g1,g2,_⟩:=h3;rw [h2] at g1;injection g1 with g1;subst g1;rw [hx] at g2;cases g2
 | mp rw ks vs=>obtain ⟨q,es,clock,g1,g2,_⟩:=h3;rw [h2] at g1;injection g1 with g1;subst g1;rw [hx] at g2;cases g2
 | si s pos=>obtain ⟨q,t,g1,g2,_⟩:=h3;rw [h2] at g1;injection g1 with g1;subst g1;rw [hx] at g2;cases g2
 | lp tm ps cK body st pe=>obtain ⟨q,l,hi,g1,g2,_⟩:=h3;rw [h2] at g1;injection g1 with g1;subst g1;rw [hx] at g2;cases g2
def AA (hh:aU O m S w hp ct) {m':Mp} {S':Nat->Prop} {w':yi} {ap:Hp} {base lo:Nat} (hf:ck m S w hp m' S' w' ap base) {ds:List tr} (h:Marks lo S w ds):Marks lo S' w' ds:=by
 obtain ⟨rs,h1,h2,h3⟩:=h;refine ⟨rs,h1,h2,fun r hr=>?_⟩;obtain ⟨this,h4,h5⟩:=h3 r hr;have aX:=(xt.1 this).1;have ot:¬eb m hp r:=fun ho=>acG hh ho _ this
 refine ⟨(hf.same r aX ot).trans this,fun hs=>?_,h5⟩;rcases hf.new r hs with h | h | h
 ·grind
 ·grind
 ·omega
def LR {m':Mp} {S':Nat->Prop} {w':yi} {ap:Hp} {base:Nat} {ro:Option Nat} (hf:ck m S w hp m' S' w' ap base) (h:zj ro w):zj ro w':=fun l hl=>
 let ⟨r,hr⟩:=h l hl
 hf.loops l r hr
def eE (O:bk) (m:Mp) (S:Nat->Prop) (w:yi) (s:St) (ex:Ex) (s':St) (n lo:Nat) (e:um) (a':Act) (w':yi):Prop:=
 e=qG ex/\∃m' S',b9 O m' S' w' s'.tm a'.tmps/\aU O m' S' w' s'.hp s'.ct/\s'.base=s.base/\s.base<=s'.ct/\ck m S w s.hp m' S' w' s'.hp s.base/\a'.tmps.size=n/\Marks lo S' w' a'.defers
def A5 (O:bk) (h:Nat) (c:wX) (s:St) (ex:Ex) (s':St):Prop:=
 ∀(ro:Option Nat) (lo:Nat) (m:Mp) (S:Nat->Prop) (w:yi) (a:Act),zj ro w->b9 O m S w s.tm a.tmps->aU O m S w s.hp s.ct->s.base<=s.ct->(O.hint h).n<=a.tmps.size->O.w0.heap.size<=lo->lo<=w.heap.size->Marks lo S w a.defers->
  c.wpIn (WF ro) 0 O.P (eE O m S w s ex s' a.tmps.size lo) a w
structure eD (O:bk):Prop where
 hint:∀h,fc O (O.hint h)
 mixed:O.P.follows .mixedOrders=true
 prog:∀n F,O.prog n=some F->∃fn,O.P.funcs[O.af n]? =some fn/\Eo O.P (O.hint n) fn=some F/\fn.name≠ "runtime.NumGoroutine"
 aE:∀n sp av r,O.aE.pure n=some sp->sp av=some r->ep O n av r
 E3:∀n sp hp ct av v ap a7,O.aE.heap n=some sp->sp hp ct av=some (v,ap,a7)->A4 O n hp ct av v ap a7
def HU {P:y5} {H:Hint} {ops:Array yX}:∀(rs:List a8) (l:List yX) (done:List a8) (ms:List Nat),fN P H ops rs l->fN P H ops (mZ done rs ms) l
 | [],l,done,ms,h=>by
  cases ms<;>simpa only [mZ] using h
 | r::rs,[],done,ms,h=>by simp [fN] at h
 | r::rs,o::l,done,[],h=>by
  obtain ⟨d,g,op⟩:=r;cases op<;>simpa only [mZ] using h
 | r::rs,o::l,done,m::ms,h=>by
  simp only [fN] at h;obtain ⟨h1,h2⟩:=h;obtain ⟨d,g,op⟩:=r
  cases op with
  | iM Dw f xs=>
   simp only [mZ,fN];refine ⟨?_,HU rs l _ ms h2⟩;rcases h1 with h1 | ⟨_,h1⟩
   ·refine .inl ⟨?_,h1.dst,h1.ok,h1.guard⟩;obtain ⟨c,f',g1,g2,g3,g4⟩:=Q8 h1.op;rw [g3,g4];exact .inr (.inl ⟨c,f',_,g1,g2,rfl⟩)
   ·simp [bad] at h1
  | st sz x y=>
   simp only [mZ,fN];refine ⟨?_,HU rs l _ ms h2⟩;rcases h1 with h1 | ⟨_,h1⟩
   ·refine .inl ⟨?_,h1.dst,h1.ok,h1.guard⟩;unfold stOp
    split
    ·exact h1.op
    ·obtain ⟨t,x',y',g1,g2,g3,g4⟩:=azd h1.op;exact .inr (.inr (.inl ⟨t,x',y',sz,_,g1,g2,by rw [g3,g4]⟩))
   ·simp [bad] at h1
  | aO sz b x y=>
   simp only [mZ,fN];refine ⟨?_,HU rs l _ ms h2⟩;rcases h1 with h1 | ⟨_,h1⟩
   ·refine .inl ⟨?_,h1.dst,h1.ok,h1.guard⟩;unfold ajf
    split
    ·exact h1.op
    ·obtain ⟨k,hk⟩:=ahd h1.op;exact .inr (.inr (.inr (.inl ⟨k,_,sz,b,x,y,hk,rfl⟩)))
   ·simp [bad] at h1
  | _=>
   simp only [mZ,fN];exact ⟨h1,HU rs l _ ms h2⟩
def acH {P:y5} {H:Hint} {ops:Array yX}:∀(rs:List a8) (l:List yX) (done:List a8),fN P H ops rs l->fN P H ops (ER done rs) l
 | [],[],_,h=>h
 | [],_::_,_,h=>by simp [fN] at h
 | r::rs,[],done,h=>by simp [fN] at h
 | r::rs,o::l,done,h=>by
  simp only [fN] at h;obtain ⟨h1,h2⟩:=h;simp only [ER,fN];refine ⟨?_,acH rs l _ h2⟩;obtain ⟨d,g,op⟩:=r
  cases op with
  | aO sz b x y=>
   simp only
   cases ag9 done x with
   | false=>exact h1
   | true=>
    simp only [yA];rcases h1 with h1 | ⟨_,h1⟩
    ·refine .inl ⟨?_,h1.dst,h1.ok,h1.guard⟩;obtain ⟨k,hk⟩:=ahd h1.op;exact .inr (.inr (.inr (.inr ⟨k,sz,b,x,y,hk,rfl⟩)))
    ·simp [bad] at h1
  | _=>exact h1
end
section
variable {O:bk} {self:cA}
def acI {P:y5} {H:Hint} {ops:Array yX}:∀{rs:List a8} {l:List yX},fN P H ops rs l->rs.length=l.length/\∀(i:Nat) (r:a8) (o:yX),rs[i]? =some r->l[i]? =some o->M5 P H ops r o\/(r.guard=none/\r.op=bad)
 | [],[],_=>⟨rfl,fun i r o h=>by simp at h⟩
 | [],_::_,h=>by simp [fN] at h
 | _::_,[],h=>by simp [fN] at h
 | r::rs,o::l,h=>by
  obtain ⟨h1,h2⟩:=acI h.2;refine ⟨by simp [h1],fun i r' o' hr ho=>?_⟩
  cases i with
  | zero=>simp at hr ho;subst hr;subst ho;exact h.1
  | succ i=>exact h2 i r' o' (by simpa using hr) (by simpa using ho)
def aps {m:Mp} {S:Nat->Prop} {w:yi} {hp:Hp} {ct:Nat} (hh:aU O m S w hp ct):Calm w {w with drawn:=w.drawn+1}:=⟨rfl,rfl,rfl,yr _,fun _ _=>rfl⟩
def avw (hO:eD O) (hC:nK O self) (h:Nat) (id:Nat) (ops:Array yX) (draw:Bool) (k:Nat) {s s':St} (hv:dC O.prog O.aE self (Mq O.P (O.hint h) ops draw k).1 s=some s'):A5 O h (.region id ops draw) s .normal s':=by
 intro ro lo m S w a cB ht hh hb hn bi eZ cL;unfold Mq at hv;have Ps:=aaY (P:=O.P) (H:=O.hint h) (ops:=ops) ops.toList k;generalize hq:Co O.P (O.hint h) ops ops.toList k=q at hv Ps;obtain ⟨l,k'⟩:=q;simp only at hv Ps;have post:∀{a':Act} {m':Mp} {S':Nat->Prop} {w':yi},aU O m' S' w' s'.hp s'.ct->s.ct<=s'.ct->b9 O m' S' w' s'.tm a'.tmps->ck m S w s.hp m' S' w' s'.hp s.ct->a'.tmps.size=a.tmps.size->a'.defers=a.defers->s'.base=s.base->eE O m S w s .normal s' a.tmps.size lo .normal a' w':=by
  intro a' m' S' w' h1 h2 h3 h4 h5 h6 h7;exact ⟨rfl,m',S',h3,h1,h7,by omega,h4.rR hb,h5,by rw [h6];exact AA hh h4 cL⟩
 cases draw with
 | false=>
  simp only [yS] at hv;refine wpIn_region ?_;rw [List.range_eq_range'];have hl:ops.size=ops.toList.length:=by simp
  rw [hl];exact adT hC (hO.hint h) ops.toList l 0 s s' a m S w (fun j=>by simp) Ps hv ht hh hn (fun a' m' S' w' h1 h2 h3 h4 h5 h6 h7=>post h1 h2 h3 h4 h5 h6 h7)
 | true=>
  simp only [yA] at hv;have YX:∃rs,(Ay ops.toList 0&&za [] rs (kH [] ops.toList))=true/\fN O.P (O.hint h) ops rs ops.toList/\dC O.prog O.aE self rs s=some s':=by
   have NB:=HU l ops.toList [] (kH [] ops.toList) Ps
   cases nv:(Ay ops.toList 0&&za [] (mZ [] l (kH [] ops.toList)) (kH [] ops.toList)) with
   | true=>
    rw [nv] at hv;exact ⟨_,nv,NB,hv⟩
   | false=>
    rw [nv] at hv;simp only [yS] at hv
    cases Tg:(Ay ops.toList 0&&za [] (ER [] (mZ [] l (kH [] ops.toList))) (kH [] ops.toList)) with
    | true=>
     rw [Tg] at hv;exact ⟨_,Tg,acH _ _ _ NB,hv⟩
    | false=>
     rw [Tg] at hv;simp [dC,bad,bf,eJ,aD] at hv
  clear hv;obtain ⟨rs,nv,NB,hv⟩:=YX
  ·simp only [ye] at nv;obtain ⟨hlen,aq⟩:=acI NB;obtain ⟨b7,bR,bN,vF,hR,e1,e2,e3,e4,e5,e6,e7⟩:=adU hv;have hG:rN O (O.hint h) self ops rs b7 bR bN vF:=by
    refine ⟨hR,by rw [hlen];simp,fun i r o hr ho=>?_,fun i j x y Dt hx hy=>?_,fun i o ho e he hbd=>?_⟩
    ·rcases aq i r o hr (by simpa using ho) with g | ⟨g1,g2⟩
     ·exact g
     ·have:=hR.step i r hr
      simp [eO,g1,pn,g2,bad,bf,eJ,aD] at this
    ·obtain ⟨mm,g1,g2⟩:=aao (done:=[]) (i:=i) (j:=j) (a:=x) (b:=y) nv.2 (by simpa using hx) hy (by simpa using Dt);refine g2.imp (fun g=>?_) (fun g=>by simpa using g);unfold Ord;rw [y7,g1];exact g
    ·have:=aaj nv.1 (j:=i) (o:=o) (by simpa using ho) e he hbd
     omega
   refine wpIn_region_any hO.mixed ?_;have I3:=aps hh;have gS:=Ci hh I3 (S':=S) (fun _ h=>h) (fun _ h=> .inl h) hh.slt
   have F0:ck m S w s.hp m S {w with drawn:=w.drawn+1} s.hp (bN 0):=AB hh I3 (fun _ h=>h) (fun _ h=> .inl h);obtain ⟨c,c1,c2,c3,c4⟩:=Si rs rs.length 0 (by omega);have hg:∀k',k'<=c->iw (bR 0) (bN 0) (bR (0+k')) (bN (0+k')):=fun k' sn=>
    LP hR (by rw [e2,e3];exact hh.aX) k' (by omega) (fun j r g1 g2 hr=>Ia hr (c3 j g1 (by omega)))
   have ig:=hg c (yr _);rw [yf] at ig;obtain ⟨S1,g1,g2,g3,g4⟩:=L9 (by rw [e2,e3];exact gS:aU O m S {w with drawn:=w.drawn+1} (bR 0) (bN 0)) ig
   have rL:∀i,(uP ops.size false).getD i false=true->False:=fun i hi=>by
    simp only [vl] at hi;by_cases aX:i<ops.size
    ·simp [aX] at hi
    ·rw [Array.getElem?_eq_none (by simpa using aX)] at hi;simp at hi
   refine avv (m0:=m) (S0:=S) (w0:=w) (n0:=a.tmps.size) (d0:=a.defers) hC (hO.hint h) hG hn (fun a' m' S' w' h1 h2 h3 h4 h5 h6=>?_) ops.size _ 0 c m S1 _ a (by simp) ?_ (fun j o _ hj=>(rL j hj).elim) ?_
   ·rw [e5,e6] at h1;rw [e3,e6] at h2;rw [e4] at h3;rw [e2,e3,e5] at h4;exact post h1 h2 h3 h4 h5 h6 e7
   ·unfold left;rw [List.countP_eq_length.2]
    ·simp
    ·intro i hi;simp only [uB]
     cases hq:(uP ops.size false).getD i false with
     | false=>rfl
     | true=>exact (rL i hq).elim
   ·refine ⟨ud _,c2,fun i hi=>by omega,c3,c4.imp (fun h=>h) (fun h=>⟨h,fun hd=>rL c hd⟩),fun i r _ _ _ hd=>rL i hd,g1,fun id p hp=> .inl (by rw [e3];exact hh.lt id p hp),fun t=>⟨0,ud _,fun i r _ _=>⟨fun hd=>(rL i hd).elim,fun h=>by omega⟩,?_⟩,?_,ig.pO,rfl,rfl,.inl rfl,fun j hj=>?_⟩
    ·rw [e1];exact lz (fun _ _ h=>h) (fun b hb=>g2 b hb) (fun b hb=>I3.same b (hh.slt b hb)) _ _ (ht t)
    ·rw [e2];have g5:=g4 (bN 0);rw [e2] at g5;exact F0.trans g5
    ·have:=(hg j hj).lt
     rw [yf] at this;exact this
end
end
section
open Go
section
variable {O:bk} {m:Mp} {S:Nat->Prop} {w:yi} {hp:Hp} {ct:Nat}
def aa1 (hh:aU O m S w hp ct) {g:Nat} {w':yi} (hw:One w w' g) (hg:¬S g) (ho:¬eb m hp g) (bi:O.w0.heap.size<=g):aU O m S w' hp ct:=by
 have aR:fA S w w':=fun b hb=>hw.other b (fun e=>hg (e▸hb))
 refine ⟨fun id o p h1 h2=>?_,hh.lt,hh.inj,fun b hb=>by rw [hw.size];exact hh.slt b hb,fun id p h=>by rw [hw.size];exact hh.blt id p h,hh.low,fun b hb=>?_,by rw [hw.size];exact hh.fF,hh.aX⟩
 ·exact ri (fun _ _ h=>h) (fun _ h=>h) aR (fun q hq=>hw.other _ (fun e=>ho ⟨id,o,q,h1,hq,e⟩)) (fun _ _ h=>h) (hh.obj id o p h1 h2)
 ·rw [hw.other b (by omega)];exact hh.lJ b hb
def aa2 {P:y5} {b:Nat} {o:tp} (h:w.heap[b]? =some o) (hc:∀c t f,o≠.cells c t f):(getObj b).run P w= .ok o w:=by
 simp only [getObj,Sem.run,h]
def Ly {P:y5} {b:Nat} {o x:tp} (h:w.heap[b]? =some o) (hc:∀c t f,o≠.cells c t f):(setObj b x).run P w= .ok () {w with heap:=w.heap.setIfInBounds b x}:=by
 simp only [setObj,Sem.run,h]
def Hw {P:y5} {b:Nat} {r:uN} (h:w.heap[b]? =some (.loop r)):(Instr.getLoop b).run P w= .ok r w:=by
 simp only [Instr.getLoop,Sem.run_bind,aa2 (P:=P) h (fun _ _ _=>by simp),Result.andThen_ok,Sem.run_pure]
def Ib (hh:aU O m S w hp ct) {l:Nat} {tm:Env} {ps:List Nat} {cK body:VC} {st:Nat} {pe:zE} {p:Pl} (hg:aq hp l=some (.lp tm ps cK body st pe)) (hm:m l=some p):
  ∃(r:uN) (h:Nat),w.heap[p.b]? =some (.loop r)/\¬S p.b/\r.state=Bf st/\st<=2/\r.pending=zi pe/\b9 O m S w tm r.tmps/\r.params.toList=ps/\BG O.P (O.hint h) cK r.assign/\BG O.P (O.hint h) body r.body/\
   (O.hint h).n<=r.tmps.size/\zp (O.hint h).n ps=true:=by
 obtain ⟨q,r,h,g1,g2,g3⟩:=hh.obj l _ p hg hm
 grind
def abP (hh:aU O m S w hp ct) {l:Nat} {tm:Env} {ps:List Nat} {cK body:VC} {st:Nat} {pe:zE} {p:Pl} (hg:aq hp l=some (.lp tm ps cK body st pe)) (hm:m l=some p) {r:uN} (hr:w.heap[p.b]? =some (.loop r))
  {st':Nat} {pe':zE} (h2:st'<=2):
  aU O m S {w with heap:=w.heap.setIfInBounds p.b (.loop {r with state:=Bf st',pending:=zi pe'})} (bc hp l (.lp tm ps cK body st' pe')) ct/\
  ck m S w hp m S {w with heap:=w.heap.setIfInBounds p.b (.loop {r with state:=Bf st',pending:=zi pe'})} (bc hp l (.lp tm ps cK body st' pe')) ct:=by
 obtain ⟨r',h,g1,g2,g3,g4,g5,g6,g7,g8,g9,g10,g11⟩:=Ib hh hg hm;rw [hr] at g1;injection g1 with g1
 injection g1 with g1
 subst g1;have er:=D0 w p.b (.loop {r with state:=Bf st',pending:=zi pe'})
 refine HS hh hg hm g2 er ⟨p,{r with state:=Bf st',pending:=zi pe'},h,hm,Lu hr,g2,rfl,h2,rfl,?_,g7,g8,g9,g10,g11⟩ (fun _ _=>⟨_,Lu hr⟩);exact Az (fun _ _ h=>h) (fun _ h=>h) (fun b hb=>er.other b (fun e=>g2 (e▸hb))) g6
def abQ {n:Nat}:∀{ps:List Nat} {vs:List AV} {us:List yg} {tm tm':Env} {tmps:Array yg},rF tm ps vs=some tm'->az O.af m S w vs us->b9 O m S w tm tmps->n<=tmps.size->zp n ps=true->
  ps.length=us.length/\b9 O m S w tm' ((ps.zip us).foldl (fun t (x:Nat×yg)=>t.setIfInBounds x.1 x.2) tmps)/\((ps.zip us).foldl (fun t (x:Nat×yg)=>t.setIfInBounds x.1 x.2) tmps).size=tmps.size
 | [],[],us,tm,tm',tmps,h,hr,ht,hn,ha=>by
  simp only [rF,yd] at h;simp only [az] at hr
  simp_all
 | [],_::_,us,tm,tm',tmps,h,hr,ht,hn,ha=>by simp [rF] at h
 | _::_,[],us,tm,tm',tmps,h,hr,ht,hn,ha=>by simp [rF] at h
 | p::ps,v::vs,us,tm,tm',tmps,h,hr,ht,hn,ha=>by
  simp only [rF] at h;obtain ⟨u,t,rfl,h1,h2⟩:=hr;simp only [zp,ye] at ha;have hp:=zc.1 ha.1;have ht1:b9 O m S w ((p,v)::tm) (tmps.setIfInBounds p u):=Re (a:=⟨tmps,[]⟩) (d:=some p) ht (fun i hi=>by injection hi with hi;show i<tmps.size;omega) h1
  obtain ⟨g1,g2,g3⟩:=abQ (n:=n) h h2 ht1 (by simpa using hn) ha.2
  simp_all
def arf (ps:Array Tmp) (args:Array yg) (tmps:Array yg):(ps.zip args).foldl (fun tmps (x:Tmp×yg)=>tmps.setIfInBounds x.1 x.2) tmps=(ps.toList.zip args.toList).foldl (fun t (x:Nat×yg)=>t.setIfInBounds x.1 x.2) tmps:=by
 rw [<-Array.foldl_toList,Array.toList_zip]
def anx {P:y5} {b:Nat} {r:uN} (h:w.heap[b]? =some (.loop r)) (jump:Option wX):
  (Instr.endRound b jump).run P w= .ok (.bool jump.isNone) {w with heap:=w.heap.setIfInBounds b (.loop {r with state:=if jump.isNone then .ready else .done,pending:=jump})}:=by
 simp only [Instr.endRound,Sem.run_bind,Hw h,Result.andThen_ok,Ly (P:=P) h (fun _ _ _=>by simp),Sem.run_pure]
def ank {P:y5} {b:Nat} {r:uN} (h:w.heap[b]? =some (.loop r)) (hs:r.state= .ready):
  (Instr.beginRound b).run P w= .ok () {w with heap:=w.heap.setIfInBounds b (.loop {r with state:= .busy})}:=by
 simp only [Instr.beginRound,Sem.run_bind,Hw h,Result.andThen_ok,Ly (P:=P) h (fun _ _ _=>by simp),hs,Sem.run_pure]
def arh {self:cA} (hS:∀v s ex s',self v s=some (ex,s')->∀c h l k,(comp O.P (O.hint h) c l k).1=v->A5 O h c s ex s') {l:Nat} {xs:List AV} {v:AV} {ap:Hp} {a7:Nat}
  (hv:nJ self hp ct l xs=some (v,ap,a7)):aha O hp ct l xs v ap a7:=by
 intro m S w args p hh hm fG;unfold nJ at hv
 split at hv
 case h_2=>cases hv
 rename_i tm ps cK body pe hg;obtain ⟨r,h,g1,g2,g3,g4,g5,g6,g7,⟨ca,ka,g8⟩,⟨cb,kb,g9⟩,g10,g11⟩:=Ib hh hg hm
 cases hb:rF tm ps xs with
 | none=>simp [hb] at hv
 | some tm'=>
  simp only [hb] at hv;obtain ⟨b1,b2,b3⟩:=abQ hb fG g6 g10 g11;rw [<-g7] at b1 b2 b3;have eG:args.size=r.params.size:=by
   grind
  let tmps:Array yg:=(r.params.zip args).foldl (fun tmps (x:Tmp×yg)=>tmps.setIfInBounds x.1 x.2) r.tmps
  have ajn:tmps=(r.params.toList.zip args.toList).foldl (fun t (x:Nat×yg)=>t.setIfInBounds x.1 x.2) r.tmps:=arf _ _ _;refine ⟨r.fn,tmps,r.assign,r.body,?_,?_⟩
  ·simp only [Instr.yield,Sem.run_bind,Hw g1,Result.andThen_ok,eG,ne_eq,ybP,xf,Sem.run_pure];rfl
  refine roundIn_of_wpIn (F:=Fence.wide) trivial ?_
  cases h1:self cK ⟨tm',hp,ct,ct⟩ with
  | none=>simp [h1] at hv
  | some q=>
   obtain ⟨ex1,s1⟩:=q
   cases ex1 with
   | ret=>simp [h1] at hv
   | exit id=>simp [h1] at hv
   | normal=>
    simp only [h1] at hv;have ef:=hS _ _ _ _ h1 r.assign h ca ka g8;have cB:∀w',ck m S w hp m S w' hp ct->zj (some p.b) w':=fun w' hf=>LR hf (fun l hl=>⟨r,by injection hl with hl;subst hl;exact g1⟩)
    refine wpIn_mono (ef (some p.b) w.heap.size m S w ⟨tmps,[]⟩ (cB w ck.refl) (by rw [ajn];exact b2) hh (yr _) (by show _<=tmps.size;rw [ajn,b3];exact g10) hh.fF (yr _) ⟨[],rfl,by simp,by simp⟩) ?_
    rintro e a1 w1 ⟨rfl,m1,S1,k1,k2,k3,k4,k5,k6,k7⟩;simp only [qG,Exit.then];have BO:m1 l=some p:=k5.old l p (hh.lt l p hm) hm
    split at hv
    case h_2=>cases hv
    rename_i jK Dm BF CS zZ ig;obtain ⟨r1,gS,f1,f2,f3,f4,f5,f6,f7,f8,f9,f10,f11⟩:=Ib k2 ig BO;have YY:=ank (P:=O.P) f1 f3;obtain ⟨q1,q2⟩:=abP k2 ig BO f1 (st':=1) (pe':=zZ) (by omega)
    have cW:({r1 with state:=Bf 1,pending:=zi zZ}:uN)={r1 with state:= .busy}:=by rw [<-f5];rfl
    rw [cW] at q1 q2;refine ⟨_,YY,?_⟩
    cases h2:self body ⟨s1.tm,bc s1.hp l (.lp jK Dm BF CS 1 zZ),s1.ct,s1.ct⟩ with
    | none=>simp [h2] at hv
    | some q=>
     obtain ⟨ex,s2⟩:=q;simp only [h2] at hv;have su:=hS _ _ _ _ h2 r.body h cb kb g9
     have Bg:zj (some p.b) {w1 with heap:=w1.heap.setIfInBounds p.b (.loop {r1 with state:= .busy})}:=fun l hl=>by
      grind
     have YZ:b9 O m1 S1 {w1 with heap:=w1.heap.setIfInBounds p.b (.loop {r1 with state:= .busy})} s1.tm a1.tmps:=
      Az (fun _ _ h=>h) (fun _ h=>h) (fun b hb=>q2.still b hb) k1
     have aAM:(O.hint h).n<=a1.tmps.size:=by
      grind
     refine wpIn_mono (su (some p.b) w.heap.size m1 S1 _ a1 Bg YZ q1 (yr _) aAM hh.fF (xi k5.size q2.size) (AA k2 q2 k7)) ?_;rintro e a2 w2 ⟨rfl,m2,S2,j1,j2,j3,j4,j5,j6,j7⟩;have hm2:m2 l=some p:=j5.old l p (k2.lt l p BO) BO
     split at hv
     case h_2=>cases hv
     rename_i sd Kp Kq IZ pe2 F7;obtain ⟨r2,KF,d1,d2,d3,d4,d5,d6,d7,d8,d9,d10,d11⟩:=Ib j2 F7 hm2;have aAN:ck m S w hp m2 S2 w2 s2.hp ct:=(k5.trans (q2.rR k4)).trans (j5.rR k4);have ajo:ct<=s2.ct:=xi k4 j4;have fin:∀(jump:Option wX) (st':Nat) (pe':zE),zi pe'=jump->Bf st'=(if jump.isNone then .ready else .done)->st'<=2->
       ∃v' w',(Instr.endRound p.b jump).run O.P w2= .ok v' w'/\sU O m S w hp ct (.bool jump.isNone) (bc s2.hp l (.lp sd Kp Kq IZ st' pe')) s2.ct (.returned v') w':=by
      intro jump st' pe' e1 e2 e3;obtain ⟨z1,z2⟩:=abP j2 F7 hm2 d1 (st':=st') (pe':=pe') e3;rw [e1,e2] at z1 z2;exact ⟨_,_,anx d1 jump,_,m2,S2,rfl,z1,ajo,by simp [ah],aAN.trans (z2.rR ajo)⟩
     cases ex with
     | normal=>
      simp only [yd,yk] at hv;obtain ⟨rfl,rfl,rfl⟩:=hv;simp only [qG,roundPost];exact fin none 0 .none rfl rfl (by omega)
     | ret=>
      simp only [Sb,yd,yk] at hv;obtain ⟨rfl,rfl,rfl⟩:=hv;simp only [qG,roundPost];exact fin (some .ret) 2 .ret rfl rfl (by omega)
     | exit id=>
      simp only [Sb,yd,yk] at hv;obtain ⟨rfl,rfl,rfl⟩:=hv;simp only [qG,roundPost];exact fin (some (.exit id)) 2 (.exit id) rfl rfl (by omega)
end
end
section
open Go
section
variable {O:bk} {self:cA}
def Mc {P:y5} {f:tU} {fn:Func} {args:Array yg} {w:yi} (hf:P.funcs[f]? =some fn) (hb:fn.body.isSome=true) (hn:fn.name≠ "runtime.NumGoroutine"):(callFunc f args).run P w= .ok (.enter f args) w:=by
 have h1:fn.body≠none:=fun e=>by rw [e] at hb;cases hb
 simp [callFunc,program,Sem.run,hf,h1,hn]
def Qk {P:y5} {H:Hint} {fn:Func} {F:aZ} (h:Eo P H fn=some F):∃c,fn.body=some c/\F.body=(comp P H c 0 0).1/\oW P fn.results.toList=some F.gk/\H.n<=fn.ntmps:=by
 unfold Eo at h
 split at h
 ·rename_i c rs h1 h2
  cases hb:yE H.n fn.ntmps with
  | false=>rw [hb] at h;cases h
  | true=>
   rw [hb] at h;simp only [yA,yd] at h;subst h
   simp_all
 ·cases h
def ari {m:Mp} {S:Nat->Prop} {w:yi} {hp:Hp} {ct:Nat} {tm:Env} {a:Act} {ro:Option Nat} (fn:tU) (ps:Array Tmp) (assign body:wX) {cK b':VC} {h:Nat} (hh:aU O m S w hp ct) (ht:b9 O m S w tm a.tmps) (cB:zj ro w)
  (Y0:BG O.P (O.hint h) cK assign) (Y1:BG O.P (O.hint h) b' body) (hn:(O.hint h).n<=a.tmps.size) (ie:zp (O.hint h).n ps.toList=true) {lo:Nat} (eZ:lo<=w.heap.size) (cL:Marks lo S w a.defers):
  ∃l mark w1,(Instr.enterLoop fn a.tmps ps assign body ro).run O.P w= .ok (l,mark) w1/\aU O (fp m ct ⟨l,0,0,0⟩) S w1 ((ct,.lp tm ps.toList cK b' 0 .none)::hp) (ct+1)/\
   ck m S w hp (fp m ct ⟨l,0,0,0⟩) S w1 ((ct,.lp tm ps.toList cK b' 0 .none)::hp) ct/\m ct=none/\Marks lo S w1 (mark++a.defers)/\w.heap.size<=l:=by
 have bP:m ct=none:=by
  cases hq:m ct with
  | none=>rfl
  | some p=>have:=hh.lt ct p hq;omega
 have lay:∀(w':yi) (d:Nat),Calm w w'->Marks lo S w' a.defers->
   aU O (fp m ct ⟨w'.heap.size,0,0,0⟩) S (w'.alloc (.loop {state:= .ready,pending:=none,fn:=fn,tmps:=a.tmps,params:=ps,assign:=assign,body:=body,defers:=d})) ((ct,.lp tm ps.toList cK b' 0 .none)::hp) (ct+1)/\
   ck m S w hp (fp m ct ⟨w'.heap.size,0,0,0⟩) S (w'.alloc (.loop {state:= .ready,pending:=none,fn:=fn,tmps:=a.tmps,params:=ps,assign:=assign,body:=body,defers:=d})) ((ct,.lp tm ps.toList cK b' 0 .none)::hp) ct:=by
  intro w' d hw ajp;have gS:aU O m S w' hp ct:=Ci hh hw (fun _ h=>h) (fun _ h=> .inl h) (fun b hb=>yT (hh.slt b hb) hw.size);have F0:ck m S w hp m S w' hp ct:=AB hh hw (fun _ h=>h) (fun _ h=> .inl h);have hg:iw hp ct ((ct,.lp tm ps.toList cK b' 0 .none)::hp) (ct+1):=by
   refine ⟨fun id o ho=>⟨o,?_,jc.refl o⟩,by omega,fun id o ho=>?_,fun id o ho hi=>?_⟩
   ·rw [fy,yB (by have:=hh.aX id o ho;omega)];exact ho
   ·rw [fy] at ho;by_cases hc:ct=id
    ·omega
    ·simp only [hc,xf] at ho;have:=hh.aX id o ho;omega
   ·rw [fy,yB (by omega)] at ho;exact ⟨o,ho⟩
  have et:∀i q,aq ((ct,Obj.lp tm ps.toList cK b' 0 .none)::hp) i=some q->i≠ct->aq hp i=some q:=fun i q h hi=>by
   rw [fy,yB (fun e=>hi e.symm)] at h;exact h
  have KF:aU O m S w' ((ct,.lp tm ps.toList cK b' 0 .none)::hp) (ct+1):=by
   have dc:∀id p,m id=some p->id≠ct:=fun id p hm e=>by have:=hh.lt id p hm;omega
   exact ⟨fun id o p ho hm=>gS.obj id o p (et id o ho (dc id p hm)) hm,fun id p hm=>by have:=hh.lt id p hm;omega,
    fun i j oi oj pi pj hi hj bP fU e=>gS.inj i j oi oj pi pj (et i oi hi (dc i pi bP)) (et j oj hj (dc j pj fU)) bP fU e,gS.slt,gS.blt,gS.low,gS.lJ,gS.fF,hg.lt⟩
  have om:eW O (fp m ct ⟨w'.heap.size,0,0,0⟩) S (w'.alloc (.loop {state:= .ready,pending:=none,fn:=fn,tmps:=a.tmps,params:=ps,assign:=assign,body:=body,defers:=d})) ct (.lp tm ps.toList cK b' 0 .none):=by
   refine ⟨⟨w'.heap.size,0,0,0⟩,_,h,dN,heap_alloc_new w' _,?_,rfl,by omega,rfl,?_,rfl,Y0,Y1,hn,ie⟩
   ·intro hS
    have:=gS.slt _ hS
    simp at this
   ·exact Az (jr bP) (fun _ h=>h) (fun b hb=>(HB gS _ b hb).trans (hw.same b (hh.slt b hb))) ht
  obtain ⟨S',k1,k2,k3⟩:=Q5 (i:=ct) (p:=⟨w'.heap.size,0,0,0⟩) KF bP (by omega) rfl (fun o ho=>by
   rw [fy] at ho;simp only [xC,yd] at ho;subst ho
   exact .inl ⟨om,by simp [iq]⟩)
  have k1':aU O (fp m ct ⟨w'.heap.size,0,0,0⟩) S (w'.alloc (.loop {state:= .ready,pending:=none,fn:=fn,tmps:=a.tmps,params:=ps,assign:=assign,body:=body,defers:=d})) ((ct,.lp tm ps.toList cK b' 0 .none)::hp) (ct+1):=by
   have Kw:∀id q,m id=some q->q.b≠w'.heap.size:=fun id q hq=>by have:=gS.blt id q hq;omega
   refine ⟨?_,k1.lt,k1.inj,fun b hb=>k1.slt b (k2 b hb),k1.blt,k1.low,k1.lJ,k1.fF,k1.aX⟩;intro id o q ho hm;by_cases hc:id=ct
   ·subst hc;rw [fy] at ho
    grind
   ·rw [ed hc] at hm;exact ri (jr bP) (fun _ h=>h) (HB gS _) (fun q' bL=>alloc_old (gS.blt id q' bL)) (fun _ _ h=>h) (gS.obj id o q (et id o ho hc) hm)
  refine ⟨k1',F0.trans ⟨rfl,rfl,rfl,by simp,fun b hb _=>alloc_old hb,fun _ h=>h,fun b hb=>HB gS _ b hb,fun b hb=> .inl hb,?_,fun i q _ hq=>jr bP i q hq,fun b r hb=>⟨r,(alloc_old (xt.1 hb).1).trans hb⟩⟩⟩;rintro b ⟨i,o,q,g1,g2,g3⟩;by_cases hc:i=ct
  ·subst hc;rw [dN] at g2
   grind
  ·rw [ed hc] at g2;exact .inl ⟨i,o,q,et i o g1 hc,g2,g3⟩
 cases ro with
 | none=>
  have I3:Calm w (w.alloc (.deferred (some []))):=⟨rfl,rfl,rfl,by simp,fun b hb=>alloc_old hb⟩;obtain ⟨rs,r1,r2,r3⟩:=cL;have aAO:Marks lo S (w.alloc (.deferred (some []))) a.defers:=⟨rs,r1,r2,fun r hr=>⟨(alloc_old (xt.1 (r3 r hr).1).1).trans (r3 r hr).1,(r3 r hr).2⟩⟩;obtain ⟨k1,k2⟩:=lay (w.alloc (.deferred (some []))) w.heap.size I3 aAO
  refine ⟨(w.alloc (.deferred (some []))).heap.size,[{target:= .collected w.heap.size,args:=#[]}],_,?_,k1,k2,bP,?_,by simp⟩
  ·simp [Instr.enterLoop,newObj,Sem.run]
  ·have hold:∀(b:Nat) (x:tp),(w.alloc (.deferred (some []))).heap[b]? =some x->((w.alloc (.deferred (some []))).alloc (.loop {state:= .ready,pending:=none,fn:=fn,tmps:=a.tmps,params:=ps,assign:=assign,body:=body,defers:=w.heap.size})).heap[b]? =some x:=fun b x hb=>
    (alloc_old (xt.1 hb).1).trans hb
   refine ⟨w.heap.size::rs,by rw [r1];rfl,?_,?_⟩
   ·grind
   ·intro r hr;rcases wE.1 hr with rfl | hr
    ·exact ⟨hold _ _ (heap_alloc_new w _),fun hs=>by have:=hh.slt _ hs;omega,eZ⟩
    ·exact ⟨hold _ _ ((alloc_old (xt.1 (r3 r hr).1).1).trans (r3 r hr).1),(r3 r hr).2⟩
 | some l0=>
  obtain ⟨r0,ew⟩:=cB l0 rfl;obtain ⟨k1,k2⟩:=lay w r0.defers Calm.refl cL;refine ⟨w.heap.size,[],_,?_,k1,k2,bP,?_,yr _⟩
  ·simp [Instr.enterLoop,Hw ew,newObj,Sem.run]
  ·exact AA hh k2 cL
def aze (hO:eD O) (hC:nK O self) {h:Nat} {f:xp} {ps:Array Tmp} {assign body:wX} {cK b':VC} (Y0:BG O.P (O.hint h) cK assign) (Y1:BG O.P (O.hint h) b' body) (ie:zp (O.hint h).n ps.toList=true)
  {s:St} {ex:Ex} {s':St} (hv:bM O.prog O.aE self (.rf (aK (O.hint h) f) ps.toList cK b') s=some (ex,s')):A5 O h (.rangeFunc f ps assign body) s ex s':=by
 intro ro lo m S w a cB ht hh hb hn bi eZ cL;simp only [bM] at hv
 split at hv
 case h_2=>cases hv
 rename_i n first cap hx
 split at hv
 case h_1=>cases hv
 rename_i hL
 cases he:iL O.prog O.aE self ((s.ct,.lp s.tm ps.toList cK b' 0 .none)::s.hp) (s.ct+1) n (first++(.fn (.y s.ct) [] []::cap)) with
 | none=>simp [he] at hv
 | some q=>
  obtain ⟨v,bj,ow⟩:=q;simp only [he] at hv
  split at hv
  case h_2=>cases hv
  rename_i sd Kp Kq IZ st pe F7
  cases aR:yu st 1 with
  | true=>rw [aR] at hv;cases hv
  | false=>
   rw [aR] at hv;simp only [yS] at hv;refine wpIn_rangeFunc (fun fn _=>?_);obtain ⟨l,mark,w1,e1,e2,e3,e4,e5,e6⟩:=ari (ro:=ro) fn ps assign body hh ht cB Y0 Y1 hn ie eZ cL;have rf:=cz (hO.hint h) ht f;rw [hx] at rf;simp only [ah] at rf;obtain ⟨fi,ca,hf,r2,r3⟩:=rf;have hle:=jr e4 (p:=⟨l,0,0,0⟩);have E4:fA S w w1:=fun b hb=>e3.still b hb
   have fG:az O.af (fp m s.ct ⟨l,0,0,0⟩) S w1 (first++(.fn (.y s.ct) [] []::cap)) (fi++#[Value.func (.yield l) #[] #[]]++ca).toList:=by
    have:=lj (gB hle (fun _ h=>h) E4 _ _ r2) (lj (a:=[.fn (.y s.ct) [] []]) (x:=[Value.func (.yield l) #[] #[]]) (by
     simp only [az]
     exact ⟨_,[],rfl,by simp only [ah];exact ⟨_,dN,rfl⟩,rfl⟩) (gB hle (fun _ h=>h) E4 _ _ r3))
    grind
   have SK:=hC.heap _ _ _ _ _ _ _ he _ S w1 _ e2 fG;have hP:∃F,O.prog n=some F:=by
    unfold iL at he;rw [hL] at he
    cases hq:O.prog n with
    | none=>simp [hq] at he
    | some F=>exact ⟨F,rfl⟩
   obtain ⟨F,hF⟩:=hP;obtain ⟨fn',q1,q2,q3⟩:=hO.prog n F hF;obtain ⟨cb,q4,_⟩:=Qk q2;have fC:(callFunc (O.af n) (fi++#[Value.func (.yield l) #[] #[]]++ca)).run O.P w1= .ok (.enter (O.af n) (fi++#[Value.func (.yield l) #[] #[]]++ca)) w1:=Mc q1 (by rw [q4];rfl) q3
   refine ⟨l,mark,w1,{target:= .fn (.func (O.af n)) ca,args:=fi++#[Value.func (.yield l) #[] #[]]},w1,O.af n,fi++#[Value.func (.yield l) #[] #[]]++ca,w1,e1,?_,fun _ _=>trivial,?_,fun hd=>by simp [WF,Fence.wide] at hd,?_⟩
   ·show Sem.run O.P (Deferred.ofValue (a.eval f) _) w1=_
    rw [hf];simp [Deferred.ofValue,Act.eval]
   ·simp only [invoke];exact fC
   ·rcases SK with ⟨_,SK⟩ | ⟨u,w',h1,_⟩
    case inr=>rw [fC] at h1;cases h1
    have avx:CallsIn (WF ro) 0 O.P (O.af n) (fi++#[Value.func (.yield l) #[] #[]]++ca) w1 (sU O (fp m s.ct ⟨l,0,0,0⟩) S w1 ((s.ct,.lp s.tm ps.toList cK b' 0 .none)::s.hp) (s.ct+1) v bj ow):=SK;refine CallsIn.mono avx ?_;rintro e w3 ⟨u,m',S',rfl,k1,k2,k3,k4⟩;have iD:m' s.ct=some ⟨l,0,0,0⟩:=k4.old s.ct _ (tk _) dN;obtain ⟨r,KF,d1,d2,d3,d4,d5,d6,_⟩:=Ib k1 F7 iD;have pP:(r.state==LoopState.busy)=false:=by
     rw [d3];rcases st with _ | _ | st
     ·rfl
     ·simp_all
     ·have:st=0:=by omega
      subst this;rfl
    have er:=D0 w3 l (.loop {r with state:= .exhausted});have hdl:=acC k1 s.ct;have ot:¬eb m' (dP bj s.ct) l:=aaw k1 F7 iD
    have z1:aU O m' S' {w3 with heap:=w3.heap.setIfInBounds l (.loop {r with state:= .exhausted})} (VE.dP bj s.ct) ow:=aa1 hdl er d2 ot (by have:=hh.fF;omega)
    have z2:ck m' S' w3 bj m' S' {w3 with heap:=w3.heap.setIfInBounds l (.loop {r with state:= .exhausted})} (VE.dP bj s.ct) s.base:=by
     refine ⟨rfl,rfl,rfl,by rw [er.size];exact yr _,fun b _ hb=>er.other b (fun e=>hb (e▸Io F7 iD)),fun _ h=>h,fun b hb=>er.other b (fun e=>d2 (e▸hb)),fun b hb=> .inl hb,fun b hb=> .inl (adR hb),fun _ _ _ h=>h,fun b x hb=>?_⟩
     grind
    have Th:ck m S w s.hp m' S' {w3 with heap:=w3.heap.setIfInBounds l (.loop {r with state:= .exhausted})} (VE.dP bj s.ct) s.base:=
     ((e3.rR hb).trans (k4.rR (by omega))).trans z2
    have NC:(Instr.endLoop l).run O.P w3= .ok (zi pe) {w3 with heap:=w3.heap.setIfInBounds l (.loop {r with state:= .exhausted})}:=by
     simp only [Instr.endLoop,Sem.run_bind,Hw d1,Result.andThen_ok,pP,yN,xf,Sem.run_pure,Ly (P:=O.P) d1 (fun _ _ _=>by simp),d5]
    have ajp:Marks lo S' {w3 with heap:=w3.heap.setIfInBounds l (.loop {r with state:= .exhausted})} (mark++a.defers):=AA k1 z2 (AA e2 k4 e5)
    have Ac:b9 O m' S' {w3 with heap:=w3.heap.setIfInBounds l (.loop {r with state:= .exhausted})} s.tm a.tmps:=by
     refine Az (fun id p hp=>?_) Th.sub (fun b hb=>Th.still b hb) ht;have h1:=hh.lt id p hp;exact k4.old id p (by omega) (hle id p hp)
    have post:∀Y2,s'={s with hp:=VE.dP bj s.ct,ct:=ow}->ex=Y2->eE O m S w s ex s' a.tmps.size lo (qG Y2) {a with defers:=mark++a.defers} {w3 with heap:=w3.heap.setIfInBounds l (.loop {r with state:= .exhausted})}:=by
     rintro Y2 rfl rfl;exact ⟨rfl,m',S',Ac,z1,rfl,by show s.base<=ow;omega,Th,rfl,ajp⟩
    refine ⟨_,_,NC,?_⟩
    cases pe with
    | none=>
     simp only [yd,yk] at hv;exact post .normal hv.2.symm hv.1.symm
    | ret=>
     simp only [yd,yk] at hv;exact wpIn_ret (post .ret hv.2.symm hv.1.symm)
    | exit id=>
     simp only [yd,yk] at hv;exact wpIn_exit (post (.exit id) hv.2.symm hv.1.symm)
end
end
end VE
