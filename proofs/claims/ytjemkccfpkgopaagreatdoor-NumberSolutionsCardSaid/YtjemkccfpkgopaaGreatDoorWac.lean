import Derived.RangeFuncLeaves
import Derived.OrdersIn
import Derived.LoopNIn
import Derived.RangeFuncIn
import Derived.Test.YtjemkccfpkgopaaGreatDoorWab
set_option linter.all false
set_option maxRecDepth 100000
open Array renaming getD_eq_getD_getElem?→vh,getElem?_eq_some_iff→xz,replicate→uT
open Bool renaming and_eq_true→yg,false_eq_true→yI,not_eq_true'→uC,or_eq_false_iff→yak,or_eq_true→tv
open Classical renaming em→uk
open Go renaming Call→tg,Code→wY,Deferred→tx,Exit→uy,FuncId→yac,Loop→uR,Next→yaC,Obj→tu,Oper→yX,Operand→xu,Program→y5,RoundIn→yaN,TypeId→yC,Value→yh,World→yi
open List renaming countP_cons→yaP,getD_eq_getElem?_getD→y9,getElem?_cons_zero→vP,getElem?_eq_some_iff→wv,length_append→yG,length_cons→yz,length_drop→xT,length_nil→yK,length_take→yE,mem_append→xZ,mem_cons→wP,mem_cons_of_mem→we,mem_cons_self→wF,size_toArray→uD
open Nat renaming add_mul→wJ,beq→yv,ble→yF,blt→yQ,eq_of_beq_eq_true→yp,eq_of_mul_eq_mul_right→tK,eq_or_lt_of_le→vd,eq_zero_or_pos→xp,le_of_ble_eq_true→yy,le_of_lt_succ→tO,le_refl→yu,le_trans→xm,lt_of_lt_of_le→yU,lt_or_ge→vC,lt_succ_self→tq,mul_le_mul_right→yV,strongRecOn→vQ,testBit→uJ,zero_add→ye,zero_le→uf
open Ne renaming symm→ybL
open Option renaming bind_some→xR,getD_some→ue
open Option.some renaming injEq→yd
open Prod.mk renaming injEq→yo
namespace VE
section
open Go
section
variable {O:bl} {m:Mp} {S:Nat->Prop} {w:yi} {hp:Hp} {ct:Nat}
def adq (hh:aU O m S w hp ct) (id:Nat):aU O m S w (dJ hp id) ct:=by
 have sub:∀i o,au (dJ hp id) i=some o->au hp i=some o:=fun i o h=>by
  rw [H0] at h
  grind
 exact ⟨fun i o p h hm=>hh.obj i o p (sub i o h) hm,hh.lt,fun i j oi oj pi pj hi hj=>hh.inj i j oi oj pi pj (sub i oi hi) (sub j oj hj),hh.slt,hh.blt,hh.low,hh.lJ,hh.fU,fun i o h=>hh.aW i o (sub i o h)⟩
def aeE {id b:Nat} (h:ek m (dJ hp id) b):ek m hp b:=by
 obtain ⟨i,o,p,h1,h2,h3⟩:=h;rw [H0] at h1;by_cases hc:id=i
 ·grind
 ·simp only [hc,xg] at h1;exact ⟨i,o,p,h1,h2,h3⟩
def abc (hh:aU O m S w hp ct) {id:Nat} {o:Obj} {p:Pl} (hg:au hp id=some o) (hm:m id=some p):¬ek m (dJ hp id) p.b:=by
 rintro ⟨i,o',q,h1,h2,h3⟩;rw [H0] at h1;by_cases hc:id=i
 ·grind
 ·simp only [hc,xg] at h1;exact hc (hh.inj i id o' o q p h1 hg h2 hm h3).symm
def atF {aj:Hp} (hd:jZ hp aj) {b:Nat} (h:ek m aj b):ek m hp b:=by
 obtain ⟨i,o,p,h1,h2,h3⟩:=h
 have:=hd i
 rw [h1] at this
 cases hq:au hp i with
 | none=>rw [hq] at this;cases this
 | some q=>exact ⟨i,q,p,hq,h2,h3⟩
def abD {lo:Nat} {v v':AV} {aj:Hp} {n:Nat} (hh:aU O m S w hp ct) (hf:freeze n hp v=some (v',aj)) {u:yh} (hv:ah O.af m S w v u):
  ∃S',aU O m S' w aj ct/\(∀b,S b->S' b)/\(∀b,S' b->S b\/ek m hp b)/\bg v'=true/\ah O.af eY S' w v' u/\iw O.af S' w lo v' u []:=by
 obtain ⟨h1,h2,h3⟩:=Rg (O:=O) hf;obtain ⟨S',g1,g2,g3⟩:=aeu hh h1 (fun id o p ho hm=>by
  have:=h2 id
  rw [ho] at this
  cases hq:au hp id with
  | none=>rw [hq] at this;cases this
  | some q=>exact ⟨q,rfl⟩) (yu _) (fun id o ho=>(by
  have:=h2 id
  rw [ho] at this
  cases hq:au hp id with
  | none=>rw [hq] at this;cases this
  | some q=>exact hh.aW id q hq))
 obtain ⟨k1,k2⟩:=h3 aj m S' w ct cZ.refl g1;have hr:=k1 u (lz (fun _ _ h=>h) g2 (fun _ _=>rfl) v u hv);have bP:ah O.af eY S' w v' u:=qD (fun _ h=>h) (fun _ _=>rfl) v' u k2 hr;refine ⟨S',g1,g2,g3,k2,bP,?_⟩
 cases v' with
 | bn _ _ _ _=>simp [bg] at k2
 | _=>exact ⟨rfl,bP,k2⟩
def apR {S':Nat->Prop} {lo:Nat} {v:AV} {u:yh} {bs:List Nat} (hS:∀b,S b->S' b) (hn:∀b,b∈bs->¬S' b) (h:iw O.af S w lo v u bs):iw O.af S' w lo v u bs:=by
 cases v with
 | bn ex sz n cs=>
  obtain ⟨b,o,c,arr,t,rfl,rfl,g1,g2,g3,g4,g5,g6,g7,g8,g9⟩:=h;exact ⟨b,o,c,arr,t,rfl,rfl,g1,g2,g3,hn b (by simp),g5,g6,g7,Cs hS (fun _ _=>rfl) cs b o g9 rfl g8,g9⟩
 | _=>simp only [iw] at h ⊢;exact ⟨h.1,qD hS (fun _ _=>rfl) _ _ h.2.2 h.2.1,h.2.2⟩
def acr {lo:Nat} {v v':AV} {aj:Hp} {n:Nat} (hh:aU O m S w hp ct) (hf:j0 n hp v=some (v',aj)) {u:yh} (hv:ah O.af m S w v u) (bh:∀b,ek m hp b->lo<=b):
  ∃S' bs,aU O m S' w aj ct/\(∀b,S b->S' b)/\(∀b,S' b->S b\/ek m hp b)/\iw O.af S' w lo v' u bs/\bs.Nodup/\(∀b,b∈bs->ek m hp b/\¬ek m aj b)/\(∀b,ek m aj b->ek m hp b):=by
 have frozen:freeze n hp v=some (v',aj)->∃S' bs,aU O m S' w aj ct/\(∀b,S b->S' b)/\(∀b,S' b->S b\/ek m hp b)/\iw O.af S' w lo v' u bs/\bs.Nodup/\(∀b,b∈bs->ek m hp b/\¬ek m aj b)/\(∀b,ek m aj b->ek m hp b):=by
  intro hz;obtain ⟨S',g1,g2,g3,g4,g5,g6⟩:=abD (lo:=lo) hh hz hv
  exact ⟨S',[],g1,g2,g3,g6,by simp,by simp,fun b hb=>atF (Rg (O:=O) hz).2.1 hb⟩
 unfold j0 at hf
 split at hf
 ·rename_i id o k
  split at hf
  ·rename_i ex sz cs hg
   cases hc:yF (o+k*sz) cs.length with
   | false=>rw [hc] at hf;cases hf
   | true=>
    rw [hc] at hf;obtain ⟨rfl,rfl⟩:=hf;have hle:=yy hc;obtain ⟨p,c,hm,rfl,h1,h2⟩:=hv;obtain ⟨p',arr,t,g1,g2,g3,g4,g5,g6,g7,g8,g9,g10⟩:=hh.obj id _ _ hg hm;rw [hm] at g1;injection g1 with g1
    subst g1;rw [g3] at h2;refine ⟨S,[p.b],adq hh id,fun _ h=>h,fun _ h=> .inl h,?_,by simp,?_,fun b hb=>aeE hb⟩
    ·refine ⟨p.b,p.o+o,c,arr,t,rfl,rfl,h1,?_,bh _ (IB hg hm),g9 rfl,g2,?_,by omega,?_,AG _ (zc _ _ (g8 rfl))⟩
     ·intro hx;simp only [yg] at hx;have e1:=yp hx.2;have e2:=zo.1 hx.1.2;have e3:=g6 hx.1.1
      have:c*sz=k*sz:=by omega
      exact tK e2 this
     ·simp only [slice,yE,xT];omega
     ·exact Cs (fun _ h=>h) (fun _ _=>rfl) _ _ _ (AG _ (zc _ _ (g8 rfl))) rfl (AJ _ _ _ _ (qw _ _ _ _ g7))
    ·intro b hb;simp only [List.mem_singleton] at hb;subst hb;exact ⟨IB hg hm,abc hh hg hm⟩
  ·grind
 ·grind
def abE {lo n:Nat}:∀{vs ej:List AV} {us:List yh} {hp aj:Hp} {S:Nat->Prop},aU O m S w hp ct->oZ n hp vs=some (ej,aj)->ay O.af m S w vs us->(∀b,ek m hp b->lo<=b)->
  ∃S' bs,(∀b,S b->S' b)/\(∀b,S' b->S b\/ek m hp b)/\kR O.af S' w lo ej us bs/\bs.Nodup/\(∀b,b∈bs->ek m hp b)/\(∀b,S' b->b<w.heap.size)
 | [],ej,us,hp,aj,S,hh,hf,hv,bh=>by
  obtain ⟨rfl,rfl⟩:=hf;exact ⟨S,[],fun _ h=>h,fun _ h=> .inl h,by simp only [kR];exact ⟨hv,by trivial⟩,by simp,by simp,hh.slt⟩
 | v::r,ej,us,hp,aj,S,hh,hf,hv,bh=>by
  simp only [oZ] at hf
  cases h1:j0 n hp v with
  | none=>simp [h1] at hf
  | some q=>
   obtain ⟨v1,bc⟩:=q;simp only [h1] at hf
   cases h2:oZ n bc r with
   | none=>simp [h2] at hf
   | some q2=>
    simp only [h2,yd,yo] at hf;obtain ⟨rfl,rfl⟩:=hf;obtain ⟨u,t,rfl,eZ,dH⟩:=hv;obtain ⟨S1,b1,k1,k2,k3,k4,k5,k6,k7⟩:=acr (lo:=lo) hh h1 eZ bh;obtain ⟨S2,b2,g1,g2,g3,g4,g5,g6⟩:=abE (us:=t) k1 h2 (gS (fun _ _ h=>h) k2 (fun _ _=>rfl) _ _ dH) (fun b hb=>bh b (k7 b hb));have TS:∀b,b∈b1->¬S2 b:=by
     intro b hb hs;rcases g2 b hs with h | h
     ·cases v1 with
      | bn ex sz n cs=>
       simp only [iw] at k4
       grind
      | _=>simp only [iw] at k4;rw [k4.1] at hb;cases hb
     ·grind
    refine ⟨S2,b1++b2,fun b hb=>g1 b (k2 b hb),fun b hb=>?_,?_,?_,?_,g6⟩
    ·grind
    ·simp only [kR];exact ⟨u,t,b1,b2,rfl,rfl,apR g1 TS k4,g3⟩
    ·grind
    ·grind
def Ro {lo:Nat}:∀{cs:List AV} {us:List yh},aG cs=true->ay O.af eY S w cs us->kR O.af S w lo cs us []
 | [],us,_,h=>by simp only [ay] at h;exact ⟨h,by trivial⟩
 | c::r,us,hp,h=>by
  obtain ⟨u,t,rfl,h1,h2⟩:=h;simp only [aG,yg] at hp;refine ⟨u,t,[],[],rfl,rfl,?_,Ro hp.2 h2⟩
  cases c with
  | bn _ _ _ _=>simp [bg] at hp
  | _=>exact ⟨rfl,h1,hp.1⟩
def apS {lo:Nat} {v r:AV} {u:yh} (hh:aU O m S w hp ct) (hr:result hp v=some r) (hv:ah O.af m S w v u) (bh:∀b,ek m hp b->lo<=b):
  ∃S',(∀b,S b->S' b)/\(∀b,S' b->S b\/ek m hp b)/\(∀b,S' b->b<w.heap.size)/\nd O.af S' w lo r u:=by
 unfold result at hr
 split at hr
 ·rename_i vs
  split at hr
  ·cases h1:oZ deep hp vs with
   | none=>simp [h1] at hr
   | some q=>
    simp only [h1,yd] at hr;subst hr;obtain ⟨us,rfl,hv⟩:=hv;obtain ⟨S',bs,g1,g2,g3,g4,g5,g6⟩:=abE (lo:=lo) hh h1 hv bh;exact ⟨S',g1,g2,g6,us,bs,rfl,g3,g4⟩
  ·cases h1:freeze deep hp (.ae vs) with
   | none=>simp [h1] at hr
   | some q=>
    obtain ⟨v',aj⟩:=q;simp only [h1,yd] at hr;subst hr;obtain ⟨S',g1,g2,g3,g4,g5,g6⟩:=abD (lo:=lo) hh h1 hv;refine ⟨S',g2,g3,g1.slt,?_⟩
    cases v' with
    | ae cs=>
     obtain ⟨xs,rfl,g5⟩:=g5;exact ⟨xs,[],rfl,Ro (by simpa [bg] using g4) g5,by simp⟩
    | _=>exact ⟨[],g6⟩
 ·rename_i PN
  cases h1:j0 deep hp v with
  | none=>simp [h1] at hr
  | some q=>
   obtain ⟨v',aj⟩:=q;simp only [h1,yd] at hr;subst hr;obtain ⟨S',bs,g1,g2,g3,g4,_⟩:=acr (lo:=lo) hh h1 hv bh;refine ⟨S',g2,g3,g1.slt,?_⟩
   cases v' with
   | ae cs=>
    obtain ⟨rfl,h2,h3⟩:=g4;obtain ⟨xs,rfl,h2⟩:=h2;exact ⟨xs,[],rfl,Ro (by simpa [bg] using h3) h2,by simp⟩
   | _=>exact ⟨bs,g4⟩
end
end
section
open Go
def WF (ro:Option Nat):Fence:={Fence.wide with round:=ro}
section
variable {O:bl}
def ahN (O:bl) (hp:Hp) (ct:Nat) (l:Nat) (xs:List AV) (v:AV) (aj:Hp) (aM:Nat):Prop:=
 ∀(m:Mp) (S:Nat->Prop) (w:yi) (args:Array yh) (p:Pl),aU O m S w hp ct->m l=some p->ay O.af m S w xs args.toList->
  ∃f tmps assign body,(Instr.yield p.b args).run O.P w= .ok (.round p.b f tmps assign body) w/\yaN Fence.wide 0 O.P p.b f tmps assign body w (ze O m S w hp ct v aj aM)
structure nR (O:bl) (run:cA):Prop where
 pure:∀n av r,bL O.prog O.aC run n av=some r->eD O n av r
 heap:∀hp ct n av v aj aM,il O.prog O.aC run hp ct n av=some (v,aj,aM)->Bg O n hp ct av v aj aM
 round:∀hp ct l xs v aj aM,nQ run hp ct l xs=some (v,aj,aM)->ahN O hp ct l xs v aj aM
end
section
variable {P:y5} {o:yX} {a:Act} {w:yi} {ro:Option Nat} {next:Act->yi->Prop} {Q:uy->Act->yi->Prop}
def LW {c:tg} {f:xu} (ho:o.op= .call c) (hc:c.callee= .value f) {g:yac} {fi ca:Array yh} (hf:a.eval f= .func (.func g) fi ca) {R:Ending->yi->Prop}
  (h:AY P g (fi++c.args.map a.eval++ca) w R) (hn:∀e w',R e w'->∃u,e= .returned u/\next (a.put o.dst u) w'):o.wpIn (WF ro) 0 P a w next Q:=by
 have fD:(o.semAt ro a.eval).run P w=(callFunc g (fi++c.args.map a.eval++ca)).run P w:=by
  rw [Oper.semAt_eq _ _ _ (fun c' h'=>by rw [ho] at h';cases h')];simp only [execOp,ho,resolve,hc,Deferred.ofValue,hf,Sem.run_bind,Sem.run_pure,Result.andThen_ok,invoke]
 refine ⟨fun _ _=>trivial,?_⟩;show o.uponIn (WF ro) 0 P a next Q ((o.semAt ro a.eval).run P w)
 rw [fD];rcases h with ⟨h1,h2⟩ | ⟨u,w',h1,h2⟩
 ·rw [h1,Oper.uponIn_enter];refine ⟨fun h=>by simp [WF,Fence.wide] at h,?_⟩;have h3:CallsIn (WF ro) 0 P g (fi++c.args.map a.eval++ca) w R:=h2;refine CallsIn.mono h3 (fun e w' he=>?_);obtain ⟨u,rfl,hq⟩:=hn e w' he;exact hq
 ·rw [h1];obtain ⟨u',e,hq⟩:=hn _ _ h2;injection e with e
  subst e;exact hq
def arE {c:tg} {f:xu} (ho:o.op= .call c) (hc:c.callee= .value f) {l:Nat} (hf:a.eval f= .func (.yield l) #[] #[]) {R:Ending->yi->Prop} {g:yac} {tmps:Array yh} {assign body:wY}
  (hy:(Instr.yield l (c.args.map a.eval)).run P w= .ok (.round l g tmps assign body) w) (h:yaN Fence.wide 0 P l g tmps assign body w R) (hn:∀e w',R e w'->∃u,e= .returned u/\next (a.put o.dst u) w'):o.wpIn (WF ro) 0 P a w next Q:=by
 have fD:(o.semAt ro a.eval).run P w= .ok (.round l g tmps assign body) w:=by
  rw [Oper.semAt_eq _ _ _ (fun c' h'=>by rw [ho] at h';cases h')];simp only [execOp,ho,resolve,hc,Deferred.ofValue,hf,Sem.run_bind,Sem.run_pure,Result.andThen_ok,invoke,Array.empty_append];exact hy
 refine ⟨fun _ _=>trivial,?_⟩;show o.uponIn (WF ro) 0 P a next Q ((o.semAt ro a.eval).run P w)
 rw [fD,Oper.uponIn_round];refine ⟨fun h=>by simp [WF,Fence.wide] at h,?_⟩;have h3:yaN (WF ro) 0 P l g tmps assign body w R:=h;refine RoundIn.mono h3 (fun e w' he=>?_);obtain ⟨u,rfl,hq⟩:=hn e w' he;exact hq
def IC {n:yaC} {u:yh} {w':yi} (hd:∀c,o.op≠.defer c) (h:(execOp a.eval o).run P w= .ok n w') (hn:n= .value u\/(n= .skip/\u=undef)) (hq:next (a.put o.dst u) w'):o.wpIn (WF ro) 0 P a w next Q:=by
 refine ⟨fun _ _=>trivial,?_⟩;show o.uponIn (WF ro) 0 P a next Q ((o.semAt ro a.eval).run P w)
 rw [Oper.semAt_eq _ _ _ hd,h];rcases hn with rfl | ⟨rfl,rfl⟩
 ·exact hq
 ·exact hq
end
def pJ (P:y5) (H:Hint) (q:Op) (o:yX):Prop:=
 (∃k,q=aX P H k o)\/(∃c f rs,o.op= .call c/\c.callee= .value f/\q= .iW rs (aQ H f) (gY H c.args.toList))\/
  (∃t x y sz rs,o.op= .store t x y/\cF P t=some sz/\q= .jC rs sz (aQ H x) (aQ H y))\/
  (∃k rs sz b x y,Op.aR sz b x y=aX P H k o/\q= .kV rs sz b x y)\/∃k sz b x y,Op.aR sz b x y=aX P H k o/\q= .nn sz b x y
def iZ:Op->Op
 | .iW _ f xs=> .iW [] f xs
 | .jC _ s x v=> .st s x v
 | .kV _ s b x v=> .aR s b x v
 | o=>o
section
variable {O:bl} {H:Hint} {m:Mp} {S:Nat->Prop} {w:yi} {tm:Env} {a:Act} {hp:Hp} {ct:Nat} {self:cA} {ro:Option Nat} {next:Act->yi->Prop} {Q:uy->Act->yi->Prop}
def MU {o:yX} {k:Nat} {md:Md} {x:X} {xs:List X} (h:aX O.P H k o= .call md x xs) (hb:x≠.c .undef):∃c f,o.op= .call c/\c.callee= .value f/\x=aQ H f/\xs=gY H c.args.toList:=by
 have nb:bad= .call md x xs->False:=fun h=>by simp only [bad,Op.call.injEq] at h;exact hb h.2.1.symm
 cases ho:o.op with
 | call c=>
  obtain ⟨callee,args,ts⟩:=c;simp only [aX,ho] at h
  split at h
  ·rename_i f;cases hm:H.mode k<;>simp only [hm,Op.call.injEq,reduceCtorEq] at h
   all_goals exact ⟨_,f,rfl,rfl,h.2.1.symm,h.2.2.symm⟩
  ·repeat' split at h
   all_goals first
    | exact (nb h).elim
    | (cases h;done)
    | (revert h;generalize yv _ _=bb;intro h;cases bb<;>first | exact (nb h).elim | (cases h;done))
  ·exact (nb h).elim
 | binOp op t x' y ty=>
  cases op<;>simp only [aX,ho,nT,pg] at h
  case eql=>
        repeat' split at h
        all_goals first
         | exact (nb h).elim
         | (cases h;done)
         | (cases cw:(O.P.stoodInHeld t||O.P.eqGuardType O.P.depth t)<;>rw [cw] at h<;>first | exact (nb h).elim | (cases h;done))
  case neq=>
        repeat' split at h
        all_goals first
         | exact (nb h).elim
         | (cases h;done)
         | (cases cw:(O.P.stoodInHeld t||O.P.eqGuardType O.P.depth t)<;>rw [cw] at h<;>first | exact (nb h).elim | (cases h;done))
  all_goals cases h
 | buildSlice t n parts=>
  simp only [aX,ho] at h
  repeat' split at h
  all_goals first
   | exact (nb h).elim
   | (cases h;done)
   | (revert h;generalize yF _ _=bb;intro h;cases bb<;>first | exact (nb h).elim | (simp only [yA] at h;cases h;done))
 | makeMap t r=>
  cases r<;>simp only [aX,ho] at h
  ·repeat' split at h
   all_goals first
    | exact (nb h).elim
    | (cases h;done)
  ·exact (nb h).elim
 | next x' b=>
  cases b<;>simp only [aX,ho] at h
  ·exact (nb h).elim
  ·cases h
 | _=>
  simp only [aX,ho] at h
  (repeat' split at h)
  all_goals first
   | contradiction
   | exact (nb h).elim
   | (cases h;done)
def aoN {o:yX} {k:Nat} {r:AV×Hp×Nat} (hv:bf O.prog O.aC self tm hp ct (aX O.P H k o)=some r):∀c,o.op≠.defer c:=by
 intro c ho;simp [aX,ho,bad,bf,eB,aA] at hv
end
end
section
open Go
section
variable {O:bl} {H:Hint} {m:Mp} {S:Nat->Prop} {w:yi} {tm:Env} {a:Act} {hp:Hp} {ct cq:Nat}
def iq (tm:Env) (hp:Hp) (ct:Nat):Op->Option (AV×Obj)
 | .aR sz b x y=>mU hp ct sz b (aA tm x) (ik hp sz (aA tm y))
 | _=>none
def SN (O:bl) (m:Mp) (S:Nat->Prop) (w:yi) (a:Act) (ct:Nat) (o:yX) (v:AV) (b:Obj):Prop:=
 ∃u g p,(execOp a.eval o).run O.P w= .ok (.value u) (w.drew.alloc g)/\p.b=w.heap.size/\¬iF b/\
  ∀m',dl m m'->m' ct=some p->fg O m' S (w.drew.alloc g) ct b/\ah O.af m' S (w.drew.alloc g) v u
def arF {e:yC} {z:yh} {sz need cap:Nat} {cs:List AV} {us:List yh} (hh:aU O m S w hp cq) (hr:ay O.af m S w cs us) (hl:us.length=need*sz) (hz:z.cells.size=sz)
  (Da:Bool) (Zv:Da=true->aG cs=true) (hc:need<=cap):
  let w':=w.drew.alloc (.cells (us.toArray++Builtin.zeroCells z.cells (cap-need)) e)
  let p:Pl:=⟨w.heap.size,0,cap*sz,sz⟩
  ∀m',dl m m'->m' ct=some p->fg O m' S w' ct (.cells true Da false sz cs):=by
 intro w' p m' hm hi;have aO:fK S w w':=fun b hb=>by
  have:=hh.slt b hb
  exact RowKit.Below.heap_alloc w.drew _ b (by simpa using this)
 have jd:w'.heap[w.heap.size]? =some (.cells (us.toArray++Builtin.zeroCells z.cells (cap-need)) e (0,0)):=heap_alloc_new w.drew _;have fZ:=gU _ _ hr;refine ⟨p,_,e,hi,jd,rfl,?_,?_,by simp,?_,Zv,?_,by simp⟩
 ·show cs.length<=cap*sz
  rw [<-fZ,hl];exact yV _ hc
 ·show 0+cap*sz<=_
  rw [Array.size_append,uD,size_zeroCells,hz,hl,<-wJ];rw [ye];exact yV _ (by omega)
 ·refine L8 jd cs us 0 (gS hm (fun _ h=>h) aO _ _ hr) (fun j u hj=>?_);rw [ye,Array.getElem?_append_left (by rw [uD];exact (wv.1 hj).1),List.getElem?_toArray]
  exact hj
 ·intro _ hS
  have:=hh.slt _ hS
  simp [p] at this
def mi {a b:Nat} (h:yQ a b=true):a<b:=yy h
def arG {o:yX} {b':yC} {t u e:yC} {sz by':Nat} {z:AV} {x y:xu} {v:AV} {aF:Obj} (hH:fw O H) (ht:b8 O m S w tm a.tmps) (hh:aU O m S w hp cq)
  (fD:(execOp a.eval o).run O.P w=((do pure (.value (<-Builtin.append_ #[t,u] b' #[a.eval x,a.eval y])):Sem yaC)).run O.P w)
  (sM:O.P.underlying t=some (.slice e)) (hu:(∃e',O.P.underlying u=some (.slice e'))\/O.P.underlying u=some .string) (hs:cF O.P e=some sz) (hb:sF O.P e=some by') (hz:lG O.P e=some z) (q9:(cellsOf z).length=sz)
  (hv:iq tm hp ct (.aR sz by' (aQ H x) (aQ H y))=some (v,aF)):SN O m S w a ct o v aF:=by
 simp only [iq] at hv;obtain ⟨ti,zv,rb,rfl,rfl,KN,rfl⟩:=aex hs hb hz;have aS:∀u' w',(Builtin.append_ #[t,u] b' #[a.eval x,a.eval y]).run O.P w= .ok u' w'->(execOp a.eval o).run O.P w= .ok (.value u') w':=fun u' w' h=>by
  rw [fD,Sem.run_bind,h];rfl
 have DJ:zv.cells.size=ti.size:=by
  have:=gU _ _ (Cp (af:=O.af) (m:=m) (S:=S) (w:=w) zv)
  rw [<-q9,<-this];simp
 cases ko:ik hp ti.size (aA tm (aQ H y)) with
 | none=>simp [ko,mU] at hv
 | some q=>
  obtain ⟨n,new⟩:=q;rw [ko] at hv;obtain ⟨news,eV,dQ⟩:=ack hh (cy hH ht y) ko;have Gk:=gU _ _ eV;have rx:=cy hH ht x;cases hx:aA tm (aQ H x)<;>rw [hx] at hv rx<;>simp only [mU,reduceCtorEq] at hv
  rename_i id o0 k;simp only [ah] at rx;obtain ⟨p,c,hm,ex,h1,h2⟩:=rx
  split at hv
  case h_2=>cases hv
  rename_i rw' pu zz cs hg
  cases hc:(yv zz ti.size&&(yQ 0 n&&(yF (k+n) room&&(yF ((k+n)*ti.bytes) room&&(yv (o0+k*ti.size) cs.length&&yQ 0 ti.size))))) with
  | false=>rw [hc] at hv;cases hv
  | true=>
   rw [hc] at hv;simp only [yA,yd,yo] at hv;obtain ⟨rfl,rfl⟩:=hv;simp only [yg] at hc;have c0:=yp hc.1;have c5:=mi hc.2.1;have c1:=yy hc.2.2.1;have c2:=yy hc.2.2.2.1;have c3:=yp hc.2.2.2.2.1;have c4:=mi hc.2.2.2.2.2;simp only [room] at c1 c2;obtain ⟨p',arr,t',g1,g2,g3,g4,g5,g6,g7,g8,g9,g10⟩:=hh.obj id _ _ hg hm;rw [hm] at g1;injection g1 with g1
   subst g1;subst c0;rw [g3] at h2;have hce:=g6 rfl;have nB:c=k:=by
    have:c*ti.size=k*ti.size:=by omega
    exact tK c4 this
   subst nB;have Ao:bU O.af m S w (slice o0 (c*ti.size) cs) p.b (p.o+o0):=AJ _ _ _ _ (qw _ _ _ _ g7);obtain ⟨lK,f1,f2,f3⟩:=rD _ _ _ Ao;have NW:(slice o0 (c*ti.size) cs).length=c*ti.size:=by simp only [slice,yE,xT];omega
   have dP:(pu&&aG new)=true->aG (slice o0 (c*ti.size) cs++new)=true:=fun h=>by
    simp only [yg] at h;exact Cq (AG _ (zc _ _ (g8 h.1))) h.2
   have KO:Src O.P w ti.size c lK (.slice (some ⟨p.b,p.o+o0,none⟩) c c):=Ep (by omega) (fun j u hj=>by rw [nU];exact f3 j u hj)
   have hr:=LK (P:=O.P) (ty:=b') (w:=w) sM hu rb KN rfl KO dQ (by omega) c1 c2;have jS:=grownCap_ge w (c+n) c e;have jd:=arF (ct:=ct) (e:=e) (z:=zv) (cap:=grownCap w (c+n) c e) hh (lj f1 eV) (need:=c+n) (sz:=ti.size) (by rw [yG,f2,NW,dQ.2.1,wJ]) DJ (pu&&aG new) dP jS;exact ⟨_,_,⟨w.heap.size,0,grownCap w (c+n) c e*ti.size,ti.size⟩,aS _ _ (by rw [ex];exact hr),rfl,by simp [iF],fun m' hle hi=>⟨jd m' hle hi,by simp only [ah];exact ⟨_,_,hi,rfl,jS,by simp⟩⟩⟩
def aoO {Hq:Hp} (hl:cZ hp Hq) {sz:Nat} {v:AV} {q:Nat×List AV} (h:iE hp sz v=some q):iE Hq sz v=some q:=by
 cases v<;>simp only [iE,reduceCtorEq] at h ⊢
 ·exact h
 ·exact h
 ·rename_i id o n
  cases hg:au hp id with
  | none=>simp [hg] at h
  | some ob=>
   cases ob<;>simp only [hg,reduceCtorEq] at h
   obtain ⟨o',h1,r,rfl,_⟩:=hl id _ hg;simp only [h1];exact h
def apT {Hq:Hp} (hl:cZ hp Hq) {sz:Nat} {v:AV} {q:Nat×List AV} (h:ik hp sz v=some q):ik Hq sz v=some q:=by
 by_cases hs:∃b,v= .str b
 ·obtain ⟨b,rfl⟩:=hs;exact h
 ·have e:∀hp:Hp,ik hp sz v=iE hp sz v:=fun hp=>by
   cases v<;>first
    | rfl
    | exact absurd ⟨_,rfl⟩ hs
  rw [e] at h ⊢;exact aoO hl h
def arH {Hq:Hp} (hl:cZ hp Hq) {sz b:Nat} {x y v:AV} {aF:Obj} (h:mU hp ct sz b x (ik hp sz y)=some (v,aF)):mU Hq ct sz b x (ik Hq sz y)=some (v,aF):=by
 cases hs:ik hp sz y with
 | none=>rw [hs] at h;simp [mU] at h
 | some q=>
  rw [apT hl hs];rw [hs] at h;obtain ⟨n,new⟩:=q;cases x<;>simp only [mU,reduceCtorEq] at h ⊢
  rename_i id o k
  cases hg:au hp id with
  | none=>simp [hg] at h
  | some ob=>
   cases ob with
   | cells rw' pu ex z cs=>
    cases ex with
    | false=>simp [hg] at h
    | true=>
     obtain ⟨o',h1,r,rfl,_⟩:=hl id _ hg;simp only [hg] at h;simp only [h1];exact h
   | _=>simp [hg] at h
def avY {o:yX} {k:Nat} {v:AV} {aF:Obj} (hH:fw O H) (ht:b8 O m S w tm a.tmps) (hh:aU O m S w hp cq)
  (hv:iq tm hp ct (aX O.P H k o)=some (v,aF)):SN O m S w a ct o v aF:=by
 have ir:∀{r:AV×Obj},iq tm hp ct bad=some r->False:=fun h=>by simp [bad,iq] at h
 cases ho:o.op with
 | call c=>
  obtain ⟨callee,args,ts⟩:=c;simp only [aX,ho] at hv
  split at hv
  ·cases KH:H.mode k<;>simp [KH,iq] at hv
  ·rename_i _ b
   split at hv
   ·rename_i x y t u fV mF;obtain ⟨al⟩:=args;obtain ⟨tl⟩:=ts;simp only at fV mF;subst fV;subst mF;obtain ⟨cs,fD⟩:=Eh (O:=O) (w:=w) (a:=a) ho;have Je:(execOp a.eval o).run O.P w=((do pure (.value (<-Builtin.append_ #[t,u] o.type #[a.eval x,a.eval y])):Sem yaC)).run O.P w:=by
     rw [fD];simp [builtin]
    have key:∀{z:AV} {sz by':Nat} {e:yC},O.P.underlying t=some (.slice e)->((∃e',O.P.underlying u=some (.slice e'))\/O.P.underlying u=some .string)->cF O.P e=some sz->sF O.P e=some by'->lG O.P e=some z->
      iq tm hp ct (bif yv (cellsOf z).length sz then .aR sz by' (aQ H x) (aQ H y) else bad)=some (v,aF)->SN O m S w a ct o v aF:=by
     intro z sz by' e h1 h2 h3 h4 h5 h
     cases hb:yv (cellsOf z).length sz with
     | false=>rw [hb] at h;exact (ir h).elim
     | true=>
      rw [hb] at h;exact arG hH ht hh Je h1 h2 h3 h4 h5 (yp hb) h
    split at hv
    ·rename_i e e' h1 h2
     split at hv
     ·rename_i sz by' z h3 h4 h5
      exact key h1 (.inl ⟨_,h2⟩) h3 h4 h5 hv
     ·exact (ir hv).elim
    ·rename_i e h1 h2
     split at hv
     ·rename_i sz by' z h3 h4 h5
      exact key h1 (.inr h2) h3 h4 h5 hv
     ·exact (ir hv).elim
    ·exact (ir hv).elim
   ·repeat' split at hv
    all_goals simp [iq,bad] at hv
   ·repeat' split at hv
    all_goals simp [iq,bad] at hv
   ·simp [iq] at hv
   ·simp [iq] at hv
   ·exact (ir hv).elim
  ·exact (ir hv).elim
 | next x b=>
  cases b<;>simp [aX,ho,iq,bad] at hv
 | binOp op t x y ty=>
  cases op<;>simp only [aX,ho,nT,pg] at hv
  case eql=>
        repeat' split at hv
        all_goals first
         | (simp [iq,bad] at hv;done)
         | (cases hb:(O.P.stoodInHeld t||O.P.eqGuardType O.P.depth t)<;>rw [hb] at hv<;>simp [iq,bad] at hv)
  case neq=>
        repeat' split at hv
        all_goals first
         | (simp [iq,bad] at hv;done)
         | (cases hb:(O.P.stoodInHeld t||O.P.eqGuardType O.P.depth t)<;>rw [hb] at hv<;>simp [iq,bad] at hv)
  all_goals simp [iq] at hv
 | buildSlice t n parts=>
  simp only [aX,ho] at hv
  repeat' split at hv
  all_goals first
   | (simp [iq,bad] at hv;done)
   | (
     revert hv;generalize yF _ _=bb;intro hv;cases bb<;>simp [iq,bad] at hv
     try (split at hv<;>simp [iq,bad] at hv))
 | makeMap t r=>
  cases r<;>simp only [aX,ho] at hv
  ·repeat' split at hv
   all_goals simp [iq,bad] at hv
  ·exact (ir hv).elim
 | _=>
  simp only [aX,ho] at hv
  (repeat' split at hv)
  all_goals first
   | contradiction
   | (simp [iq,bad] at hv;done)
end
end
section
open Go
section
variable {O:bl} {H:Hint} {m:Mp} {S:Nat->Prop} {w:yi} {tm:Env} {a:Act} {hp aj Hq:Hp} {ct aM cH:Nat} {self:cA} {ro:Option Nat} {next:Act->yi->Prop} {Q:uy->Act->yi->Prop}
def acs {g:tu} {p:Pl} {S':Nat->Prop} {base:Nat} (hh:aU O m S w Hq cH) (hi:m ct=none) (hb:p.b=w.heap.size) (h1:∀b,S b->S' b) (h2:∀b,S' b->S b\/b=w.heap.size):
  ck m S w Hq (fE m ct p) S' (w.alloc g) Hq base where
 os:=rfl
 tape:=rfl
 output:=rfl
 size:=by simp
 same b hb _:=alloc_old hb
 sub:=h1
 still b hb:=alloc_old (hh.slt b hb)
 new b hb:=(h2 b hb).imp (fun h=>h) (fun h=> .inr (by omega))
 own b hb:=by
  obtain ⟨i,o,q,g1,g2,g3⟩:=hb;by_cases hc:i=ct
  ·subst hc;rw [dS] at g2
   grind
  ·rw [er hc] at g2;exact .inl ⟨i,o,q,g1,g2,g3⟩
 old i q _ h:=jt hi i q h
 loops b r hb:=⟨r,(alloc_old (xz.1 hb).1).trans hb⟩
def abd {NA av:List AV} {us:List yh} {bc:Hp} (hz:cB deep hp NA=some (av,bc)) (hl:cZ bc Hq) (hh:aU O m S w Hq cH) (hr:ay O.af m S w NA us):ay O.af eY S w av us/\aG av=true:=by
 obtain ⟨_,_,h3⟩:=QX (O:=O) hz;obtain ⟨k1,k2⟩:=h3 Hq m S w cH hl hh;exact ⟨zd (fun _ h=>h) (fun _ _=>rfl) _ _ k2 (k1 us hr),k2⟩
def Sk (hh:aU O m S w Hq cH):Bf O w:=⟨hh.lJ,hh.fU⟩
def Mt (hH:fw O H) (ht:b8 O m S w tm a.tmps) {f:xu} {g:Nat} {first cap:List AV} {args:Array xu} (hf:aA tm (aQ H f)= .fn (.f g) first cap):
  ∃fi ca:Array yh,a.eval f= .func (.func (O.af g)) fi ca/\ay O.af m S w (first++(dD tm (gY H args.toList)++cap)) (fi++args.map a.eval++ca).toList:=by
 have rf:=cy hH ht f;rw [hf] at rf;obtain ⟨fi,ca,h1,h2,h3⟩:=rf;refine ⟨fi,ca,h1,?_⟩
 have:=lj h2 (lj (CJ hH ht args.toList) h3)
 simp_all
def aoP (hC:nR O self) (hH:fw O H) {o:yX} {c:tg} {f:xu} (ho:o.op= .call c) (iP:c.callee= .value f) {g:Nat} {first cap av:List AV} {bc:Hp} {r:AV}
  (hf:aA tm (aQ H f)= .fn (.f g) first cap) (hz:cB deep hp (first++(dD tm (gY H c.args.toList)++cap))=some (av,bc)) (hr:bL O.prog O.aC self g av=some r)
  (hl:cZ bc Hq) (ht:b8 O m S w tm a.tmps) (hh:aU O m S w Hq cH)
  (hn:∀u S' w',aU O m S' w' Hq cH->ah O.af m S' w' (shut r) u->ck m S w Hq m S' w' Hq cH->next (a.put o.dst u) w'):o.wpIn (WF ro) 0 O.P a w next Q:=by
 obtain ⟨fi,ca,h1,h2⟩:=Mt hH ht (args:=c.args) hf;obtain ⟨h3,h4⟩:=abd hz hl hh h2;refine LW ho iP h1 (hC.pure g av r hr w S _ (Sk hh) hh.slt h3 h4) ?_;rintro e w' ⟨u,S',rfl,hw,g1,g2,g3,g4⟩;refine ⟨u,rfl,?_⟩;obtain ⟨S2,k1,k2,k3⟩:=aco g4 m;have hS:∀b,S b->S2 b:=fun b hb=>k1 b (g1 b hb)
 have KP:∀b,S2 b->S b\/w.heap.size<=b:=fun b hb=>(k2 b hb).elim (g2 b) (fun h=> .inr h.1)
 have hl:∀b,S2 b->b<w'.heap.size:=fun b hb=>(k2 b hb).elim (g3 b) (fun h=>h.2)
 exact hn u S2 w' (Cx hh hw hS KP hl) k3 (AR hh hw hS KP)
def apU (hC:nR O self) (hH:fw O H) {o:yX} {c:tg} {f:xu} (ho:o.op= .call c) (iP:c.callee= .value f) {g:Nat} {first cap av:List AV} {bc:Hp} {r:AV}
  (hf:aA tm (aQ H f)= .fn (.f g) first cap) (hz:cB deep hp (first++(dD tm (gY H c.args.toList)++cap))=some (av,bc)) (hr:bL O.prog O.aC self g av=some r)
  (hl:cZ (own bc ct r).2.1 Hq) (eM:(own bc ct r).2.2<=cH) (aW:∀id o,au hp id=some o->id<ct) (sO:∀id,ct<=id->id<(own bc ct r).2.2->m id=none)
  (ht:b8 O m S w tm a.tmps) (hh:aU O m S w Hq cH)
  (hn:∀u m' S' w',aU O m' S' w' Hq cH->dl m m'->(∀id p,m' id=some p->m id=some p\/(ct<=id/\id<(own bc ct r).2.2))->ah O.af m' S' w' (own bc ct r).1 u->ck m S w Hq m' S' w' Hq cH->next (a.put o.dst u) w'):
  o.wpIn (WF ro) 0 O.P a w next Q:=by
 obtain ⟨fi,ca,h1,h2⟩:=Mt hH ht (args:=c.args) hf;obtain ⟨z1,z2,z3⟩:=QX (O:=O) hz;have TU:∀id o,au bc id=some o->id<ct:=fun id o h=>by
  have:=z2 id
  rw [h] at this
  cases hq:au hp id with
  | none=>rw [hq] at this;cases this
  | some q=>exact aW id q hq
 have avZ:∀id o,au bc id=some o->au (own bc ct r).2.1 id=some o:=fun id o h=>by
  cases r with
  | ae vs=>exact MT TU id o h
  | _=>exact Sj TU id o h
 have ns:cZ bc Hq:=fun id o h=>hl id o (avZ id o h)
 obtain ⟨h3,h4⟩:=abd hz ns hh h2;refine LW ho iP h1 (hC.pure g av r hr w S _ (Sk hh) hh.slt h3 h4) ?_;rintro e w' ⟨u,S',rfl,hw,g1,g2,g3,g4⟩;refine ⟨u,rfl,?_⟩;have BU:=Cx hh hw g1 g2 g3;have BR:=AR (base:=cH) hh hw g1 g2;obtain ⟨m',S2,k1,k2,k3,k4,k5,k6⟩:=avX (lo:=w.heap.size) BU hl eM TU sO g4 hh.fU (fun j q hq=>hh.blt j q hq);refine hn u m' S2 w' k1 k2 (fun id p h=>(k3 id p h).imp (fun h=>h) (fun h=>⟨h.1,h.2.1⟩)) k4 ⟨hw.os,hw.tape,hw.output,hw.size,fun b hb _=>hw.same b hb,fun b hb=>k5 b (g1 b hb),fun b hb=>hw.same b (hh.slt b hb),?_,?_,fun i q _ h=>k2 i q h,BR.loops⟩
 ·grind
 ·rintro b ⟨i,ob,q,q1,q2,q3⟩;rcases k3 i q q2 with h | h
  ·exact .inl ⟨i,ob,q,q1,h,q3⟩
  ·grind
def aoQ {P:y5} {H:Hint} {o:yX} {k:Nat} {sz b:Nat} {x y:X} (hk:Op.nn sz b x y=aX P H k o):False:=by
 cases ho:o.op with
 | call c=>
  obtain ⟨callee,args,ts⟩:=c;simp only [aX,ho] at hk
  split at hk
  ·rename_i f;cases hm:H.mode k<;>simp only [hm,reduceCtorEq] at hk
  ·repeat' split at hk
   all_goals first
    | (cases hk;done)
    | (simp only [bad] at hk;cases hk;done)
    | (revert hk;generalize yv _ _=bb;intro hk;cases bb<;>simp [bad] at hk)
  ·simp only [bad] at hk;cases hk
 | binOp op t x' y ty=>
  cases op<;>simp only [aX,ho,nT,pg] at hk
  case eql=>
        repeat' split at hk
        all_goals first
         | (cases hk;done)
         | (simp only [bad] at hk;cases hk;done)
         | (cases cw:(P.stoodInHeld t||P.eqGuardType P.depth t)<;>rw [cw] at hk<;>simp [bad] at hk)
  case neq=>
        repeat' split at hk
        all_goals first
         | (cases hk;done)
         | (simp only [bad] at hk;cases hk;done)
         | (cases cw:(P.stoodInHeld t||P.eqGuardType P.depth t)<;>rw [cw] at hk<;>simp [bad] at hk)
  all_goals cases hk
 | buildSlice t n parts=>
  simp only [aX,ho] at hk
  repeat' split at hk
  all_goals first
   | (cases hk;done)
   | (simp only [bad] at hk;cases hk;done)
   | (revert hk;generalize yF _ _=bb;intro hk;cases bb<;>simp [bad] at hk)
 | makeMap t r=>
  cases r<;>simp only [aX,ho] at hk
  ·repeat' split at hk
   all_goals first
    | (cases hk;done)
    | (simp only [bad] at hk;cases hk;done)
  ·simp only [bad] at hk;cases hk
 | next x' b=>
  cases b<;>simp only [aX,ho] at hk
  ·simp only [bad] at hk;cases hk
  ·cases hk
 | _=>
  simp only [aX,ho] at hk
  (repeat' split at hk)
  all_goals first
   | contradiction
   | (cases hk;done)
   | (simp only [bad] at hk;cases hk;done)
def av0 {P:y5} {H:Hint} {o:yX} {sz b:Nat} {x y:X} (hq:pJ P H (.nn sz b x y) o):∃k,Op.aR sz b x y=aX P H k o:=by
 rcases hq with ⟨k,hk⟩ | ⟨_,_,_,_,_,h3⟩ | ⟨_,_,_,_,_,_,_,h3⟩ | ⟨_,_,_,_,_,_,_,h3⟩ | ⟨k,DL,b',x',y',h1,h3⟩
 ·exact (aoQ hk).elim
 ·cases h3
 ·cases h3
 ·cases h3
 ·simp only [Op.nn.injEq] at h3;obtain ⟨rfl,rfl,rfl,rfl⟩:=h3;exact ⟨k,h1⟩
def quiet_step (hC:nR O self) (hH:fw O H) {o:yX} {q:Op} {v:AV} (hk:bB q<=1) (hq:pJ O.P H q o) (hd:∀c,o.op≠.defer c) (hv:bf O.prog O.aC self tm hp ct q=some (v,aj,aM)) (hl:cZ aj Hq) (eM:aM<=cH)
  (aW:∀id o,au hp id=some o->id<ct) (sO:∀id,ct<=id->id<aM->m id=none) (ht:b8 O m S w tm a.tmps) (hh:aU O m S w Hq cH)
  (hn:∀u m' S' w',aU O m' S' w' Hq cH->dl m m'->(∀id p,m' id=some p->m id=some p\/(ct<=id/\id<aM))->ah O.af m' S' w' v u->ck m S w Hq m' S' w' Hq cH->next (a.put o.dst u) w'):
  o.wpIn (WF ro) 0 O.P a w next Q:=by
 by_cases Ap:∃sz b x y,q= .nn sz b x y
 ·obtain ⟨sz,b,x,y,rfl⟩:=Ap;obtain ⟨k,jg⟩:=av0 hq;simp only [bf] at hv
  cases hm:mU hp ct sz b (aA tm x) (ik hp sz (aA tm y)) with
  | none=>simp [hm] at hv
  | some r=>
   obtain ⟨v1,aF⟩:=r;simp only [hm,yd,yo] at hv;obtain ⟨rfl,rfl,rfl⟩:=hv;have kz:cZ hp Hq:=fun id o' jQ=>hl id o' (by
    rw [fI,yx (by have:=aW id o' jQ;omega)];exact jQ)
   have bP:iq tm Hq ct (aX O.P H k o)=some (v1,aF):=by rw [<-jg];exact arH kz hm
   have hi:=sO ct (yu _) (tq _);obtain ⟨u,g,p,h1,h2,h3,h4⟩:=avY hH ht hh bP;have Gl:Calm w w.drew:=⟨rfl,rfl,rfl,yu _,fun _ _=>rfl⟩;have ia:=Cx hh Gl (S':=S) (fun _ h=>h) (fun _ h=> .inl h) hh.slt;have Gm:ck m S w Hq m S w.drew Hq cH:=AR hh Gl (fun _ h=>h) (fun _ h=> .inl h);obtain ⟨S',k1,k2,k3⟩:=RJ (i:=ct) (g:=g) (p:=p) ia hi eM h2 (fun o' jQ=>by
    obtain ⟨Zp,g1,g2⟩:=hl ct aF (by rw [fI];simp)
    rw [jQ] at g1;injection g1 with g1
    subst g1
    have:=QO g2 dS (h4 _ (jt hi) dS).1 h3
    rwa [h2] at this)
   refine IC hd h1 (.inl rfl) (hn u _ S' _ k1 (jt hi) (fun id q hq=>?_) (lz (fun _ _ h=>h) k2 (fun _ _=>rfl) _ _ (h4 _ (jt hi) dS).2) (Gm.trans (acs ia hi h2 k2 k3)));by_cases hc:id=ct
   ·exact .inr (by omega)
   ·rw [er hc] at hq;exact .inl hq
 have jg:∃k,q=aX O.P H k o:=by
  rcases hq with h | ⟨c,f,rs,_,_,rfl⟩ | ⟨_,_,_,_,_,_,_,rfl⟩ | ⟨_,_,_,_,_,_,_,rfl⟩ | ⟨_,_,_,_,_,_,h⟩
  ·exact h
  ·simp [bB] at hk
  ·simp [bB] at hk
  ·simp [bB] at hk
  ·exact (Ap ⟨_,_,_,_,h⟩).elim
 obtain ⟨k,hq⟩:=jg;have read:∀{v:AV},bA tm hp q=some v->cZ hp Hq->(∀u m' S' w',aU O m' S' w' Hq cH->dl m m'->(∀id p,m' id=some p->m id=some p\/(ct<=id/\id<aM))->ah O.af m' S' w' v u->ck m S w Hq m' S' w' Hq cH->next (a.put o.dst u) w')->o.wpIn (WF ro) 0 O.P a w next Q:=by
  intro v hr hl hn;have bP:=apN hl hr;rw [hq] at bP;obtain ⟨u,h1,h2⟩:=aet hH ht hh bP;exact IC hd h1 (.inl rfl) (hn u m S w hh dl.refl (fun _ _ h=> .inl h) h2 ck.refl)
 have makes:∀{v:AV} {b:Obj},cR tm hp ct q=some (v,b)->cZ ((ct,b)::hp) Hq->ct+1<=cH->m ct=none->(∀u m' S' w',aU O m' S' w' Hq cH->dl m m'->(∀id p,m' id=some p->m id=some p\/(ct<=id/\id<ct+1))->ah O.af m' S' w' v u->ck m S w Hq m' S' w' Hq cH->next (a.put o.dst u) w')->o.wpIn (WF ro) 0 O.P a w next Q:=by
  intro v b hr hl hc hi hn;rw [hq] at hr;have bP:cR tm Hq ct (aX O.P H k o)=some (v,b):=by rw [<-hr];exact HO (fun _ _=>rfl)
  obtain ⟨u,g,p,h1,h2,h3,h4⟩:=atz hH ht hh bP;obtain ⟨S',k1,k2,k3⟩:=RJ (i:=ct) (g:=g) (p:=p) hh hi hc h2 (fun o' jQ=>by
   obtain ⟨Zp,g1,g2⟩:=hl ct b (by rw [fI];simp)
   rw [jQ] at g1;injection g1 with g1
   subst g1
   have:=QO g2 dS (h4 _ (jt hi) dS).1 h3
   rwa [h2] at this)
  refine IC hd h1 (.inl rfl) (hn u _ S' _ k1 (jt hi) (fun id q hq=>?_) (lz (fun _ _ h=>h) k2 (fun _ _=>rfl) _ _ (h4 _ (jt hi) dS).2) (acs hh hi h2 k2 k3));by_cases hc:id=ct
  ·exact .inr (by omega)
  ·rw [er hc] at hq;exact .inl hq
 have cN:∀{q:Op},(match cR tm hp ct q with | some (v,b)=>some (v,(ct,b)::hp,ct+1) | none=>(none:fY))=some (v,aj,aM)->∃b,cR tm hp ct q=some (v,b)/\aj=(ct,b)::hp/\aM=ct+1:=by
  intro q h
  cases hm:cR tm hp ct q with
  | none=>simp [hm] at h
  | some r=>
   obtain ⟨v1,b⟩:=r;simp only [hm,yd,yo] at h;obtain ⟨rfl,rfl,rfl⟩:=h;exact ⟨b,rfl,rfl,rfl⟩
 have jU:∀{q:Op},(match bA tm hp q with | some v=>some (v,hp,ct) | none=>(none:fY))=some (v,aj,aM)->bA tm hp q=some v/\aj=hp/\aM=ct:=by
  intro q h
  cases hm:bA tm hp q with
  | none=>simp [hm] at h
  | some r=>
   simp only [hm,yd,yo] at h;obtain ⟨rfl,rfl,rfl⟩:=h;exact ⟨rfl,rfl,rfl⟩
 have ID:(∃b,cR tm hp ct q=some (v,b)/\aj=(ct,b)::hp/\aM=ct+1)->o.wpIn (WF ro) 0 O.P a w next Q:=by
  rintro ⟨b,h1,rfl,rfl⟩;exact makes h1 hl eM (sO ct (yu _) (tq _)) hn
 have av1:(bA tm hp q=some v/\aj=hp/\aM=ct)->o.wpIn (WF ro) 0 O.P a w next Q:=by
  rintro ⟨h1,rfl,rfl⟩;exact read h1 hl hn
 cases q with
 | st _ _ _=>simp [bB] at hk
 | pR _ _ _ _=>simp [bB] at hk
 | pU _=>simp [bB] at hk
 | aR _ _ _ _=>simp [bB] at hk
 | mD _ _ _=>simp [bB] at hk
 | iW _ _ _=>simp [bB] at hk
 | jC _ _ _ _=>simp [bB] at hk
 | kV _ _ _ _ _=>simp [bB] at hk
 | nn sz b x y=>exact (Ap ⟨sz,b,x,y,rfl⟩).elim
 | box s x=>exact ID (cN (by simp only [bf] at hv;exact hv))
 | cW n s z ps=>exact ID (cN (by simp only [bf] at hv;exact hv))
 | gO s b z x y=>exact ID (cN (by simp only [bf] at hv;exact hv))
 | Ah=>exact ID (cN (by simp only [bf] at hv;exact hv))
 | pT x=>exact ID (cN (by simp only [bf] at hv;exact hv))
 | call md x xs=>
  cases md with
  | heap=>simp [bB] at hk
  | dyn=>simp [bB] at hk
  | pure=>
   simp only [bf,eB] at hv
   split at hv
   ·rename_i g first cap hx
    (try simp only at hv)
    cases hz:cB deep hp (first++(dD tm xs++cap)) with
    | none=>simp [hz] at hv
    | some z=>
     obtain ⟨av,bc⟩:=z;simp only [hz] at hv
     cases hr:bL O.prog O.aC self g av with
     | none=>simp [hr] at hv
     | some r=>
      simp only [hr,yd,yo] at hv;obtain ⟨rfl,rfl,rfl⟩:=hv;obtain ⟨c,f,ho,iP,rfl,rfl⟩:=MU hq.symm (by rintro rfl;simp [aA] at hx);exact aoP hC hH ho iP hx hz hr hl ht hh (fun u S' w' h1 h2 h3=>hn u m S' w' h1 dl.refl (fun _ _ h=> .inl h) h2 h3)
   ·simp at hv
   ·cases hv
  | own=>
   simp only [bf,eB] at hv
   split at hv
   ·rename_i g first cap hx
    (try simp only at hv)
    cases hz:cB deep hp (first++(dD tm xs++cap)) with
    | none=>simp [hz] at hv
    | some z=>
     obtain ⟨av,bc⟩:=z;simp only [hz] at hv
     cases hr:bL O.prog O.aC self g av with
     | none=>simp [hr] at hv
     | some r=>
      simp only [hr,yd] at hv;obtain ⟨c,f,ho,iP,rfl,rfl⟩:=MU hq.symm (by rintro rfl;simp [aA] at hx);have e1:v=(own bc ct r).1:=by rw [hv]
      have e2:aj=(own bc ct r).2.1:=by rw [hv]
      have e3:aM=(own bc ct r).2.2:=by rw [hv]
      subst e1;subst e2;subst e3;exact apU hC hH ho iP hx hz hr hl eM aW sO ht hh hn
   ·simp at hv
   ·cases hv
 | _=>exact av1 (jU (by simp only [bf] at hv;exact hv))
end
end
section
open Go
section
variable {O:bl} {H:Hint} {m:Mp} {S:Nat->Prop} {w:yi} {tm:Env} {a:Act} {hp aj:Hp} {ct aM:Nat} {self:cA} {ro:Option Nat} {next:Act->yi->Prop} {Q:uy->Act->yi->Prop}
def ck.r9 {m':Mp} {S':Nat->Prop} {w':yi} {b b':Nat} (h:ck m S w hp m' S' w' aj b) (hb:b'<=b):ck m S w hp m' S' w' aj b':=
 ⟨h.os,h.tape,h.output,h.size,h.same,h.sub,h.still,h.new,h.own,fun i q hi hq=>h.old i q (by omega) hq,h.loops⟩
def av2 {hp:Hp} {ct:Nat} {r:AV} (aW:∀id o,au hp id=some o->id<ct):∀id o,au (own hp ct r).2.1 id=some o->id<(own hp ct r).2.2:=by
 have hL:∀(vs:List AV) (hp:Hp) (ct:Nat),(∀id o,au hp id=some o->id<ct)->∀id o,au (jL hp ct vs).2.1 id=some o->id<(jL hp ct vs).2.2:=by
  intro vs
  induction vs with
  | nil=>intro hp ct h id o ho;exact h id o ho
  | cons v r ih=>intro hp ct h id o ho;exact ih _ _ (Ip h) id o ho
 cases r with
 | ae vs=>exact hL vs hp ct aW
 | _=>exact Ip aW
def av3 {hp:Hp} {ct:Nat} {r:AV} (aW:∀id o,au hp id=some o->id<ct):∀id o,au hp id=some o->au (own hp ct r).2.1 id=some o:=by
 cases r with
 | ae vs=>exact MT aW
 | _=>exact Sj aW
def av4 {hp:Hp} {ct:Nat} {r:AV}:ct<=(own hp ct r).2.2:=by
 cases r with
 | ae vs=>exact MS
 | _=>exact MR
def arI {hp:Hp} {ct:Nat} {r:AV}:∀id o,au (own hp ct r).2.1 id=some o->id<ct->au hp id=some o:=by
 have h1:∀(hp:Hp) (ct:Nat) (r:AV) id o,au (fy hp ct r).2.1 id=some o->id<ct->au hp id=some o:=by
  intro hp ct r id o h hc;cases r<;>simp only [fy] at h<;>try exact h
  rw [fI,yx (by omega)] at h;exact h
 have hL:∀(vs:List AV) (hp:Hp) (ct:Nat) id o,au (jL hp ct vs).2.1 id=some o->id<ct->au hp id=some o:=by
  intro vs
  induction vs with
  | nil=>intro hp ct id o ho _;exact ho
  | cons v r ih=>intro hp ct id o ho hc;exact h1 hp ct v id o (ih _ _ id o ho (by have:=MR (hp:=hp) (ct:=ct) (r:=v);omega)) hc
 cases r with
 | ae vs=>exact hL vs hp ct
 | _=>exact h1 hp ct _
structure iG (hp:Hp) (ct:Nat) (aj:Hp) (aM:Nat):Prop where
 le:cZ hp aj
 pW:ct<=aM
 lt:∀id o,au aj id=some o->id<aM
 back:∀id o,au aj id=some o->id<ct->∃o',au hp id=some o'
def iG.refl (aW:∀id o,au hp id=some o->id<ct):iG hp ct hp ct:=⟨cZ.refl,yu _,aW,fun _ o h _=>⟨o,h⟩⟩
def iG.trans {Jx:Hp} {ajV:Nat} (h:iG hp ct aj aM) (k:iG aj aM Jx ajV):iG hp ct Jx ajV:=
 ⟨h.le.trans k.le,xm h.pW k.pW,k.lt,fun id o ho hi=>let ⟨o1,h1⟩:=k.back id o ho (yU hi h.pW);h.back id o1 h1 hi⟩
def acu {NA av:List AV} {bc:Hp} (hz:cB deep hp NA=some (av,bc)) (aW:∀id o,au hp id=some o->id<ct):iG hp ct bc ct:=by
 obtain ⟨z1,z2,_⟩:=QX (O:=⟨default,⟨fun _=>none,fun _=>none⟩,fun _=>0,fun _=>none,fun _=>⟨0,fun _=>none,fun _=>[],fun _=>none,fun _=> .pure,fun _=>[]⟩,default⟩) hz;have hb:∀id o,au bc id=some o->∃o',au hp id=some o':=fun id o h=>by
  have:=z2 id
  rw [h] at this
  cases hq:au hp id with
  | none=>rw [hq] at this;cases this
  | some q=>exact ⟨q,rfl⟩
 exact ⟨z1,yu _,fun id o h=>let ⟨o',h'⟩:=hb id o h;aW id o' h',fun id o h _=>hb id o h⟩
def apV {r:AV} (aW:∀id o,au hp id=some o->id<ct):iG hp ct (own hp ct r).2.1 (own hp ct r).2.2:=
 ⟨fun id o h=>⟨o,av3 aW id o h,ji.refl o⟩,av4,av2 aW,fun id o h hi=>⟨o,arI id o h hi⟩⟩
def abe {P:aK} {L:Lib} {q:Op} {v:AV} (hk:bB q<=1) (hv:bf P L self tm hp ct q=some (v,aj,aM)) (aW:∀id o,au hp id=some o->id<ct):iG hp ct aj aM:=by
 have cN:∀{q:Op},(match cR tm hp ct q with | some (v,b)=>some (v,(ct,b)::hp,ct+1) | none=>(none:fY))=some (v,aj,aM)->iG hp ct aj aM:=by
  intro q h
  cases hm:cR tm hp ct q with
  | none=>simp [hm] at h
  | some r=>
   obtain ⟨v1,b⟩:=r;simp only [hm,yd,yo] at h;obtain ⟨rfl,rfl,rfl⟩:=h;refine ⟨fun id o ho=>⟨o,?_,ji.refl o⟩,by omega,fun id o ho=>?_,fun id o ho hi=>?_⟩
   ·rw [fI,yx (by have:=aW id o ho;omega)];exact ho
   ·rw [fI] at ho;by_cases hc:ct=id
    ·omega
    ·simp only [hc,xg] at ho;have:=aW id o ho;omega
   ·rw [fI,yx (by omega)] at ho;exact ⟨o,ho⟩
 have jU:∀{q:Op},(match bA tm hp q with | some v=>some (v,hp,ct) | none=>(none:fY))=some (v,aj,aM)->iG hp ct aj aM:=by
  intro q h
  cases hm:bA tm hp q with
  | none=>simp [hm] at h
  | some r=>
   simp only [hm,yd,yo] at h;obtain ⟨rfl,rfl,rfl⟩:=h;exact iG.refl aW
 cases bR:q with
 | st _ _ _=>simp [bR,bB] at hk
 | pR _ _ _ _=>simp [bR,bB] at hk
 | pU _=>simp [bR,bB] at hk
 | aR _ _ _ _=>simp [bR,bB] at hk
 | mD _ _ _=>simp [bR,bB] at hk
 | iW _ _ _=>simp [bR,bB] at hk
 | jC _ _ _ _=>simp [bR,bB] at hk
 | kV _ _ _ _ _=>simp [bR,bB] at hk
 | nn sz b x y=>
  rw [bR] at hv;simp only [bf] at hv
  cases hm:mU hp ct sz b (aA tm x) (ik hp sz (aA tm y)) with
  | none=>simp [hm] at hv
  | some r=>
   obtain ⟨v1,b⟩:=r;simp only [hm,yd,yo] at hv;obtain ⟨rfl,rfl,rfl⟩:=hv;refine ⟨fun id o ho=>⟨o,?_,ji.refl o⟩,by omega,fun id o ho=>?_,fun id o ho hi=>?_⟩
   ·rw [fI,yx (by have:=aW id o ho;omega)];exact ho
   ·rw [fI] at ho;by_cases hc:ct=id
    ·omega
    ·simp only [hc,xg] at ho;have:=aW id o ho;omega
   ·rw [fI,yx (by omega)] at ho;exact ⟨o,ho⟩
 | box s x=>exact cN (q:=q) (by rw [bR] at hv ⊢;simp only [bf] at hv;exact hv)
 | cW n s z ps=>exact cN (q:=q) (by rw [bR] at hv ⊢;simp only [bf] at hv;exact hv)
 | gO s b z x y=>exact cN (q:=q) (by rw [bR] at hv ⊢;simp only [bf] at hv;exact hv)
 | Ah=>exact cN (q:=q) (by rw [bR] at hv ⊢;simp only [bf] at hv;exact hv)
 | pT x=>exact cN (q:=q) (by rw [bR] at hv ⊢;simp only [bf] at hv;exact hv)
 | call md x xs=>
  subst bR;simp only [bf,eB] at hv
  split at hv
  ·rename_i g first cap hx
   cases md with
   | heap=>simp [bB] at hk
   | dyn=>simp [bB] at hk
   | pure=>
    simp only at hv
    cases hz:cB deep hp (first++(dD tm xs++cap)) with
    | none=>simp [hz] at hv
    | some z=>
     obtain ⟨av,bc⟩:=z;simp only [hz] at hv
     cases hr:bL P L self g av with
     | none=>simp [hr] at hv
     | some r=>
      simp only [hr,yd,yo] at hv;obtain ⟨rfl,rfl,rfl⟩:=hv;exact acu hz aW
   | own=>
    simp only at hv
    cases hz:cB deep hp (first++(dD tm xs++cap)) with
    | none=>simp [hz] at hv
    | some z=>
     obtain ⟨av,bc⟩:=z;simp only [hz] at hv
     cases hr:bL P L self g av with
     | none=>simp [hr] at hv
     | some r=>
      simp only [hr,yd] at hv;have e2:aj=(own bc ct r).2.1:=by rw [hv]
      have e3:aM=(own bc ct r).2.2:=by rw [hv]
      subst e2;subst e3;have g1:=acu hz aW;exact g1.trans (apV g1.lt)
  ·cases md with
   | heap=>simp [bB] at hk
   | dyn=>simp [bB] at hk
   | _=>simp at hv
  ·cases hv
 | _=>exact jU (q:=q) (by rw [bR] at hv ⊢;simp only [bf] at hv;exact hv)
def Mu (hh:aU O m S w hp ct) (hg:iG hp ct aj aM):∃S',aU O m S' w aj aM/\(∀b,S b->S' b)/\(∀b,S' b->S b\/ek m hp b)/\∀base,ck m S w hp m S' w aj base:=by
 have hd:∀id o p,au aj id=some o->m id=some p->∃o',au hp id=some o':=fun id o p h hm=>hg.back id o h (hh.lt id p hm)
 obtain ⟨S',g1,g2,g3⟩:=aeu hh hg.le hd hg.pW hg.lt;refine ⟨S',g1,g2,g3,fun base=>⟨rfl,rfl,rfl,yu _,fun _ _ _=>rfl,g2,fun _ _=>rfl,fun b hb=>(g3 b hb).imp (fun h=>h) .inl,?_,fun _ _ _ h=>h,fun _ r h=>⟨r,h⟩⟩⟩;rintro b ⟨i,o,p,h1,h2,h3⟩;obtain ⟨o',h4⟩:=hd i o p h1 h2;exact .inl ⟨i,o',p,h4,h2,h3⟩
def arJ {q:Op} {v:AV} (hv:cI tm hp ct q=some (v,aj,aM)):ct<=aM:=by
 cases q<;>simp only [cI,reduceCtorEq] at hv
 all_goals
  grind
def RN {P:y5} {H:Hint} {o:yX} {rs:List (Nat×Bool×Nat)} {x:X} {xs:List X} (hq:pJ P H (.iW rs x xs) o):∃c f,o.op= .call c/\c.callee= .value f/\x=aQ H f/\xs=gY H c.args.toList:=by
 rcases hq with ⟨k,hk⟩ | ⟨c,f,rs',h1,h2,h3⟩ | ⟨_,_,_,_,_,_,_,h3⟩ | ⟨_,_,_,_,_,_,_,h3⟩ | ⟨_,_,_,_,_,_,h3⟩
 ·cases ho:o.op with
  | call c=>
   obtain ⟨callee,args,ts⟩:=c;simp only [aX,ho] at hk
   split at hk
   ·rename_i f;cases hm:H.mode k<;>simp only [hm,Op.iW.injEq,reduceCtorEq] at hk
    exact ⟨_,f,rfl,rfl,hk.2.1,hk.2.2⟩
   ·repeat' split at hk
    all_goals first
     | (cases hk;done)
     | (simp only [bad] at hk;cases hk;done)
     | (revert hk;generalize yv _ _=bb;intro hk;cases bb<;>simp [bad] at hk)
   ·simp only [bad] at hk;cases hk
  | binOp op t x' y ty=>
   cases op<;>simp only [aX,ho,nT,pg] at hk
   case eql=>
         repeat' split at hk
         all_goals first
          | (cases hk;done)
          | (simp only [bad] at hk;cases hk;done)
          | (cases cw:(P.stoodInHeld t||P.eqGuardType P.depth t)<;>rw [cw] at hk<;>simp [bad] at hk)
   case neq=>
         repeat' split at hk
         all_goals first
          | (cases hk;done)
          | (simp only [bad] at hk;cases hk;done)
          | (cases cw:(P.stoodInHeld t||P.eqGuardType P.depth t)<;>rw [cw] at hk<;>simp [bad] at hk)
   all_goals cases hk
  | buildSlice t n parts=>
   simp only [aX,ho] at hk
   repeat' split at hk
   all_goals first
    | (cases hk;done)
    | (simp only [bad] at hk;cases hk;done)
    | (revert hk;generalize yF _ _=bb;intro hk;cases bb<;>simp [bad] at hk)
  | makeMap t r=>
   cases r<;>simp only [aX,ho] at hk
   ·repeat' split at hk
    all_goals first
     | (cases hk;done)
     | (simp only [bad] at hk;cases hk;done)
   ·simp only [bad] at hk;cases hk
  | next x' b=>
   cases b<;>simp only [aX,ho] at hk
   ·simp only [bad] at hk;cases hk
   ·cases hk
  | _=>
   simp only [aX,ho] at hk
   (repeat' split at hk)
   all_goals first
    | contradiction
    | (cases hk;done)
    | (simp only [bad] at hk;cases hk;done)
 ·simp only [Op.iW.injEq] at h3;exact ⟨c,f,h1,h2,h3.2.1,h3.2.2⟩
 ·cases h3
 ·cases h3
 ·cases h3
def aoR {P:y5} {H:Hint} {o:yX} {k:Nat} {rs:List (Nat×Bool×Nat)} {sz:Nat} {x y:X} (hk:Op.jC rs sz x y=aX P H k o):False:=by
 cases ho:o.op with
 | call c=>
  obtain ⟨callee,args,ts⟩:=c;simp only [aX,ho] at hk
  split at hk
  ·grind
  ·repeat' split at hk
   all_goals first
    | (cases hk;done)
    | (simp only [bad] at hk;cases hk;done)
    | (revert hk;generalize yv _ _=bb;intro hk;cases bb<;>simp [bad] at hk)
  ·simp only [bad] at hk;cases hk
 | binOp op t x' y ty=>
  cases op<;>simp only [aX,ho,nT,pg] at hk
  case eql=>
        repeat' split at hk
        all_goals first
         | (cases hk;done)
         | (simp only [bad] at hk;cases hk;done)
         | (cases cw:(P.stoodInHeld t||P.eqGuardType P.depth t)<;>rw [cw] at hk<;>simp [bad] at hk)
  case neq=>
        repeat' split at hk
        all_goals first
         | (cases hk;done)
         | (simp only [bad] at hk;cases hk;done)
         | (cases cw:(P.stoodInHeld t||P.eqGuardType P.depth t)<;>rw [cw] at hk<;>simp [bad] at hk)
  all_goals cases hk
 | buildSlice t n parts=>
  simp only [aX,ho] at hk
  repeat' split at hk
  all_goals first
   | (cases hk;done)
   | (simp only [bad] at hk;cases hk;done)
   | (revert hk;generalize yF _ _=bb;intro hk;cases bb<;>simp [bad] at hk)
 | makeMap t r=>
  cases r<;>simp only [aX,ho] at hk
  ·repeat' split at hk
   all_goals first
    | (cases hk;done)
    | (simp only [bad] at hk;cases hk;done)
  ·simp only [bad] at hk;cases hk
 | next x' b=>
  cases b<;>simp only [aX,ho] at hk
  ·simp only [bad] at hk;cases hk
  ·cases hk
 | _=>
  simp only [aX,ho] at hk
  (repeat' split at hk)
  all_goals first
   | contradiction
   | (cases hk;done)
   | (simp only [bad] at hk;cases hk;done)
def aoS {P:y5} {H:Hint} {o:yX} {k:Nat} {rs:List (Nat×Bool×Nat)} {sz b:Nat} {x y:X} (hk:Op.kV rs sz b x y=aX P H k o):False:=by
 cases ho:o.op with
 | call c=>
  obtain ⟨callee,args,ts⟩:=c;simp only [aX,ho] at hk
  split at hk
  ·rename_i f;cases hm:H.mode k<;>simp only [hm,reduceCtorEq] at hk
  ·repeat' split at hk
   all_goals first
    | (cases hk;done)
    | (simp only [bad] at hk;cases hk;done)
    | (revert hk;generalize yv _ _=bb;intro hk;cases bb<;>simp [bad] at hk)
  ·simp only [bad] at hk;cases hk
 | binOp op t x' y ty=>
  cases op<;>simp only [aX,ho,nT,pg] at hk
  case eql=>
        repeat' split at hk
        all_goals first
         | (cases hk;done)
         | (simp only [bad] at hk;cases hk;done)
         | (cases cw:(P.stoodInHeld t||P.eqGuardType P.depth t)<;>rw [cw] at hk<;>simp [bad] at hk)
  case neq=>
        repeat' split at hk
        all_goals first
         | (cases hk;done)
         | (simp only [bad] at hk;cases hk;done)
         | (cases cw:(P.stoodInHeld t||P.eqGuardType P.depth t)<;>rw [cw] at hk<;>simp [bad] at hk)
  all_goals cases hk
 | buildSlice t n parts=>
  simp only [aX,ho] at hk
  repeat' split at hk
  all_goals first
   | (cases hk;done)
   | (simp only [bad] at hk;cases hk;done)
   | (revert hk;generalize yF _ _=bb;intro hk;cases bb<;>simp [bad] at hk)
 | makeMap t r=>
  cases r<;>simp only [aX,ho] at hk
  ·repeat' split at hk
   all_goals first
    | (cases hk;done)
    | (simp only [bad] at hk;cases hk;done)
  ·simp only [bad] at hk;cases hk
 | next x' b=>
  cases b<;>simp only [aX,ho] at hk
  ·simp only [bad] at hk;cases hk
  ·cases hk
 | _=>
  simp only [aX,ho] at hk
  (repeat' split at hk)
  all_goals first
   | contradiction
   | (cases hk;done)
   | (simp only [bad] at hk;cases hk;done)
def azQ {P:y5} {H:Hint} {o:yX} {sz:Nat} {x y:X} (hq:pJ P H (.st sz x y) o):∃t x' y',o.op= .store t x' y'/\cF P t=some sz/\x=aQ H x'/\y=aQ H y':=by
 obtain ⟨k,hk⟩:∃k,Op.st sz x y=aX P H k o:=by
  rcases hq with h | ⟨_,_,_,_,_,h⟩ | ⟨_,_,_,_,_,_,_,h⟩ | ⟨_,_,_,_,_,_,_,h⟩ | ⟨_,_,_,_,_,_,h⟩
  ·exact h
  ·cases h
  ·cases h
  ·cases h
  ·cases h
 cases ho:o.op with
 | call c=>
  obtain ⟨callee,args,ts⟩:=c;simp only [aX,ho] at hk
  split at hk
  ·rename_i f;cases hm:H.mode k<;>simp only [hm,reduceCtorEq] at hk
  ·repeat' split at hk
   all_goals first
    | (cases hk;done)
    | (simp only [bad] at hk;cases hk;done)
    | (revert hk;generalize yv _ _=bb;intro hk;cases bb<;>simp [bad] at hk)
  ·simp only [bad] at hk;cases hk
 | binOp op t x' y ty=>
  cases op<;>simp only [aX,ho,nT,pg] at hk
  case eql=>
        repeat' split at hk
        all_goals first
         | (cases hk;done)
         | (simp only [bad] at hk;cases hk;done)
         | (cases cw:(P.stoodInHeld t||P.eqGuardType P.depth t)<;>rw [cw] at hk<;>simp [bad] at hk)
  case neq=>
        repeat' split at hk
        all_goals first
         | (cases hk;done)
         | (simp only [bad] at hk;cases hk;done)
         | (cases cw:(P.stoodInHeld t||P.eqGuardType P.depth t)<;>rw [cw] at hk<;>simp [bad] at hk)
  all_goals cases hk
 | buildSlice t n parts=>
  simp only [aX,ho] at hk
  repeat' split at hk
  all_goals first
   | (cases hk;done)
   | (simp only [bad] at hk;cases hk;done)
   | (revert hk;generalize yF _ _=bb;intro hk;cases bb<;>simp [bad] at hk)
 | makeMap t r=>
  cases r<;>simp only [aX,ho] at hk
  ·repeat' split at hk
   all_goals first
    | (cases hk;done)
    | (simp only [bad] at hk;cases hk;done)
  ·simp only [bad] at hk;cases hk
 | next x' b=>
  cases b<;>simp only [aX,ho] at hk
  ·simp only [bad] at hk;cases hk
  ·cases hk
 | store t x' y'=>
  simp only [aX,ho] at hk
  split at hk
  ·rename_i s hs;simp only [Op.st.injEq] at hk;obtain ⟨rfl,rfl,rfl⟩:=hk;exact ⟨t,x',y',rfl,hs,rfl,rfl⟩
  ·simp only [bad] at hk;cases hk
 | _=>
  simp only [aX,ho] at hk
  (repeat' split at hk)
  all_goals first
   | contradiction
   | (cases hk;done)
   | (simp only [bad] at hk;cases hk;done)
def ahO {P:y5} {H:Hint} {o:yX} {rs:List (Nat×Bool×Nat)} {sz:Nat} {x y:X} (hq:pJ P H (.jC rs sz x y) o):∃t x' y',o.op= .store t x' y'/\cF P t=some sz/\x=aQ H x'/\y=aQ H y':=by
 rcases hq with ⟨k,hk⟩ | ⟨_,_,_,_,_,h3⟩ | ⟨t,x',y',DL,rs',h1,h2,h3⟩ | ⟨_,_,_,_,_,_,_,h3⟩ | ⟨_,_,_,_,_,_,h3⟩
 ·exact (aoR hk).elim
 ·cases h3
 ·simp only [Op.jC.injEq] at h3;obtain ⟨_,rfl,rfl,rfl⟩:=h3;exact ⟨t,x',y',h1,h2,rfl,rfl⟩
 ·cases h3
 ·cases h3
def ahP {P:y5} {H:Hint} {o:yX} {rs:List (Nat×Bool×Nat)} {sz b:Nat} {x y:X} (hq:pJ P H (.kV rs sz b x y) o):∃k,Op.aR sz b x y=aX P H k o:=by
 rcases hq with ⟨k,hk⟩ | ⟨_,_,_,_,_,h3⟩ | ⟨_,_,_,_,_,_,_,h3⟩ | ⟨k,rs',DL,b',x',y',h1,h3⟩ | ⟨_,_,_,_,_,_,h3⟩
 ·exact (aoS hk).elim
 ·cases h3
 ·cases h3
 ·simp only [Op.kV.injEq] at h3;obtain ⟨_,rfl,rfl,rfl,rfl⟩:=h3;exact ⟨k,h1⟩
 ·cases h3
def ahQ {P:y5} {H:Hint} {o:yX} {sz b:Nat} {x y:X} (hq:pJ P H (.aR sz b x y) o):∃k,Op.aR sz b x y=aX P H k o:=by
 rcases hq with h | ⟨_,_,_,_,_,h3⟩ | ⟨_,_,_,_,_,_,_,h3⟩ | ⟨_,_,_,_,_,_,_,h3⟩ | ⟨_,_,_,_,_,_,h3⟩
 ·exact h
 ·cases h3
 ·cases h3
 ·cases h3
 ·cases h3
def aoT {P:y5} {H:Hint} {q:Op} {o:yX} (hq:pJ P H q o):pJ P H (iZ q) o:=by
 cases h:q with
 | iW rs f xs=>
  subst h;obtain ⟨c,f',g1,g2,g3,g4⟩:=RN hq;exact .inr (.inl ⟨c,f',[],g1,g2,by rw [g3,g4];rfl⟩)
 | jC rs sz x y=>
  subst h;obtain ⟨t,x',y',g1,g2,g3,g4⟩:=ahO hq;refine .inl ⟨0,?_⟩;simp only [iZ,aX,g1,g2,g3,g4]
 | kV rs sz b x y=>
  subst h;exact .inl (ahP hq)
 | _=>subst h;exact hq
def adr (hC:nR O self) (hH:fw O H) {o:yX} {q:Op} {v:AV} (hq:pJ O.P H q o) (hd:∀c,o.op≠.defer c) (hv:bf O.prog O.aC self tm hp ct q=some (v,aj,aM))
  (ht:b8 O m S w tm a.tmps) (hh:aU O m S w hp ct)
  (hn:∀u m' S' w',aU O m' S' w' aj aM->ct<=aM->ah O.af m' S' w' v u->ck m S w hp m' S' w' aj ct->next (a.put o.dst u) w'):o.wpIn (WF ro) 0 O.P a w next Q:=by
 have quiet:bB q<=1->o.wpIn (WF ro) 0 O.P a w next Q:=by
  intro hk;have hg:=abe hk hv hh.aW;obtain ⟨S1,g1,g2,g3,g4⟩:=Mu hh hg;refine quiet_step hC hH hk hq hd hv cZ.refl (yu _) hh.aW (fun id h1 h2=>?_) (AN (fun _ _ h=>h) g2 (fun _ _=>rfl) ht) g1 (fun u m' S' w' k1 k2 k3 k4 k5=>hn u m' S' w' k1 hg.pW k4 ((g4 ct).trans (k5.r9 hg.pW)))
  cases hm:m id with
  | none=>rfl
  | some p=>have:=hh.lt id p hm;omega
 have SO:∀{q':Op},(∃k,q'=aX O.P H k o)->cI tm hp ct q'=some (v,aj,aM)->o.wpIn (WF ro) 0 O.P a w next Q:=by
  intro q' jg hw;obtain ⟨k,rfl⟩:=jg;obtain ⟨n,u,w',m',S',h1,h2,h3,h4,h5,h6⟩:=atE hH ht hh hw;exact IC hd h1 h2 (hn u m' S' w' h3 (arJ hw) h4 h6)
 have write:cI tm hp ct q=some (v,aj,aM)->o.wpIn (WF ro) 0 O.P a w next Q:=by
  intro hw;refine SO ?_ hw;rcases hq with h | ⟨c,f,rs,_,_,rfl⟩ | ⟨_,_,_,_,_,_,_,rfl⟩ | ⟨_,_,_,_,_,_,_,rfl⟩ | ⟨_,_,_,_,_,_,rfl⟩
  ·exact h
  ·simp [cI] at hw
  ·simp [cI] at hw
  ·simp [cI] at hw
  ·simp [cI] at hw
 have heap:∀{c:tg} {f:xu} {g:Nat} {first cap:List AV},o.op= .call c->c.callee= .value f->aA tm (aQ H f)= .fn (.f g) first cap->
   il O.prog O.aC self hp ct g (first++(dD tm (gY H c.args.toList)++cap))=some (v,aj,aM)->o.wpIn (WF ro) 0 O.P a w next Q:=by
  intro c f g first cap ho iP hx he;obtain ⟨fi,ca,h1,h2⟩:=Mt hH ht (args:=c.args) hx;refine LW ho iP h1 (hC.heap _ _ _ _ _ _ _ he m S w _ hh h2) ?_;rintro e w' ⟨u,m',S',rfl,k1,k2,k3,k4⟩;exact ⟨u,rfl,hn u m' S' w' k1 k2 k3 k4⟩
 have round:∀{c:tg} {f:xu} {l:Nat} {x y:List AV},o.op= .call c->c.callee= .value f->aA tm (aQ H f)= .fn (.y l) x y->
   nQ self hp ct l (dD tm (gY H c.args.toList))=some (v,aj,aM)->o.wpIn (WF ro) 0 O.P a w next Q:=by
  intro c f l x y ho iP hx he;have rf:=cy hH ht f;rw [hx] at rf;simp only [ah] at rf;obtain ⟨p,hm,hf⟩:=rf;have fV:=CJ hH ht c.args.toList;obtain ⟨g,tmps,cM,body,h1,h2⟩:=hC.round _ _ _ _ _ _ _ he m S w (c.args.map a.eval) p hh hm (by simpa using fV);refine arE ho iP hf h1 h2 ?_;rintro e w' ⟨u,m',S',rfl,k1,k2,k3,k4⟩;exact ⟨u,rfl,hn u m' S' w' k1 k2 k3 k4⟩
 have dyn:∀{c:tg} {f:xu},o.op= .call c->c.callee= .value f->eB O.prog O.aC self hp ct .dyn (aA tm (aQ H f)) (dD tm (gY H c.args.toList))=some (v,aj,aM)->o.wpIn (WF ro) 0 O.P a w next Q:=by
  intro c f ho iP he;unfold eB at he
  split at he
  ·rename_i g first cap hx
   (try simp only at he)
   cases hp0:aG (first++(dD tm (gY H c.args.toList)++cap)) with
   | true=>
    rw [hp0] at he;simp only [yA] at he
    cases hr:bL O.prog O.aC self g (first++(dD tm (gY H c.args.toList)++cap)) with
    | none=>simp [hr] at he
    | some r=>
     simp only [hr,yd,yo] at he;obtain ⟨rfl,rfl,rfl⟩:=he;obtain ⟨fi,ca,h1,h2⟩:=Mt hH ht (args:=c.args) hx;refine LW ho iP h1 (hC.pure g _ r hr w S _ (Sk hh) hh.slt (zd (fun _ h=>h) (fun _ _=>rfl) _ _ hp0 h2) hp0) ?_;rintro e w' ⟨u,S',rfl,hw,g1,g2,g3,g4⟩;obtain ⟨S2,k1,k2,k3⟩:=aco g4 m;have hS:∀b,S b->S2 b:=fun b hb=>k1 b (g1 b hb)
     have KP:∀b,S2 b->S b\/w.heap.size<=b:=fun b hb=>(k2 b hb).elim (g2 b) (fun h=> .inr h.1)
     have hl:∀b,S2 b->b<w'.heap.size:=fun b hb=>(k2 b hb).elim (g3 b) (fun h=>h.2)
     exact ⟨u,rfl,hn u m S2 w' (Cx hh hw hS KP hl) (yu _) k3 (AR hh hw hS KP)⟩
   | false=>
    rw [hp0] at he;simp only [yT] at he;exact heap ho iP hx he
  ·rename_i l x y hx;exact round ho iP hx he
  ·cases he
 cases bR:q with
 | iW rs x xs=>
  subst bR;simp only [bf] at hv;have key:=RN hq;obtain ⟨c,f,ho,iP,rfl,rfl⟩:=key
  cases hc:eB O.prog O.aC self hp ct .dyn (aA tm (aQ H f)) (dD tm (gY H c.args.toList)) with
  | none=>simp [hc] at hv
  | some r=>
   obtain ⟨v1,bc,oI⟩:=r;simp only [hc] at hv
   cases hs:pc tm hp bc rs with
   | false=>rw [hs] at hv;cases hv
   | true=>
    rw [hs] at hv;simp only [yA,yd,yo] at hv;obtain ⟨rfl,rfl,rfl⟩:=hv;exact dyn ho iP hc
 | call md x xs=>
  subst bR;have jg:∃k,Op.call md x xs=aX O.P H k o:=by
   rcases hq with h | ⟨c,f,rs,_,_,h⟩ | ⟨_,_,_,_,_,_,_,h⟩ | ⟨_,_,_,_,_,_,_,h⟩ | ⟨_,_,_,_,_,_,h⟩
   ·exact h
   ·cases h
   ·cases h
   ·cases h
   ·cases h
  obtain ⟨k,hk⟩:=jg
  cases md with
  | pure=>exact quiet (by simp [bB])
  | own=>exact quiet (by simp [bB])
  | heap=>
   simp only [bf] at hv;obtain ⟨c,f,ho,iP,rfl,rfl⟩:=MU hk.symm (by rintro rfl;simp [aA,eB] at hv);unfold eB at hv
   split at hv
   ·rename_i g first cap hx;exact heap ho iP hx hv
   ·rename_i l x y hx;exact round ho iP hx hv
   ·cases hv
  | dyn=>
   simp only [bf] at hv;obtain ⟨c,f,ho,iP,rfl,rfl⟩:=MU hk.symm (by rintro rfl;simp [aA,eB] at hv);exact dyn ho iP hv
 | jC rs s x y=>
  subst bR;obtain ⟨t,x',y',g1,g2,g3,g4⟩:=ahO hq;simp only [bf] at hv
  split at hv
  ·rename_i id off hx
   cases hf:nS tm id rs with
   | false=>rw [hf] at hv;cases hv
   | true=>
    rw [hf] at hv;simp only [yA] at hv
    exact SO (q':= .st s x y) ⟨0,by simp only [aX,g1,g2,g3,g4]⟩ hv
  ·cases hv
 | kV rs s b x y=>
  subst bR;simp only [bf] at hv
  cases hc:cI tm hp ct (.aR s b x y) with
  | none=>simp [hc] at hv
  | some r=>
   obtain ⟨v1,bc,oI⟩:=r;simp only [hc] at hv
   cases hs:pc tm hp bc rs with
   | false=>rw [hs] at hv;cases hv
   | true=>
    rw [hs] at hv;simp only [yA,yd,yo] at hv;obtain ⟨rfl,rfl,rfl⟩:=hv
    exact SO (q':= .aR s b x y) (ahP hq) hc
 | st s x y=>subst bR;exact write (by simpa only [bf] using hv)
 | pR kk x y z=>subst bR;exact write (by simpa only [bf] using hv)
 | pU x=>subst bR;exact write (by simpa only [bf] using hv)
 | aR s b x y=>subst bR;exact write (by simpa only [bf] using hv)
 | mD s x y=>subst bR;exact write (by simpa only [bf] using hv)
 | dO k x lo hi=>subst bR;exact quiet (by cases k<;>simp [bB])
 | len k x=>subst bR;exact quiet (by rcases k with _ | _ | k<;>simp [bB])
 | _=>subst bR;exact quiet (by simp [bB])
end
end
section
open Go
def pz (tm:Env) (g:Option (Nat×Bool)):Option Bool:=
 match g with
 | none=>some true
 | some (t,b)=>match ai tm t with | .bool c=>some (c==b) | .ae []=>some false | _=>none
def e9 (P:aK) (L:Lib) (self:cA) (tm:Env) (hp:Hp) (ct:Nat) (r:a8):fY:=
 match pz tm r.guard with
 | some true=>bf P L self tm hp ct r.op
 | some false=>some (.ae [],hp,ct)
 | none=>none
def abF {P:aK} {L:Lib} {self:cA} {r:a8} {rs:List a8} {s:St}:
  dI P L self (r::rs) s=match e9 P L self s.tm s.hp s.ct r with | some (v,hp,ct)=>dI P L self rs {s with tm:=put r.dst v s.tm,hp:=hp,ct:=ct} | none=>none:=by
 obtain ⟨d,g,o⟩:=r;simp only [dI,e9]
 cases g with
 | none=>rfl
 | some q=>
  obtain ⟨t,b⟩:=q;simp only [pz];generalize ai s.tm t=x
  cases x with
  | bool c=>
   simp only;cases (c==b)<;>rfl
  | ae vs=>cases vs<;>rfl
  | _=>rfl
def aeF (ops:Array yX) (g:Option (Nat×Bool)) (g':Option (Nat×Bool)):Prop:=
 (g=none/\g'=none)\/∃t b j,g=some (t,b)/\g'=some (j,b)/\(ops[j]?).bind (·.dst)=some t
structure NB (P:y5) (H:Hint) (ops:Array yX) (r:a8) (o:yX):Prop where
 op:pJ P H r.op o
 dst:r.dst=o.dst
 ok:Jc H o.dst=true
 guard:aeF ops r.guard o.guard
def gj (P:y5) (H:Hint) (ops:Array yX):List a8->List yX->Prop
 | [],[]=>True
 | r::rs,o::l=>(NB P H ops r o\/(r.guard=none/\r.op=bad))/\gj P H ops rs l
 | _,_=>False
def abG {P:y5} {H:Hint} {ops:Array yX}:∀(l:List yX) (k:Nat),gj P H ops (CC P H ops l k).1 l
 | [],k=>by simp [CC,gj]
 | o::l,k=>by
  have ih:=abG (P:=P) (H:=H) (ops:=ops) l (k+(bif SK o then 1 else 0));simp only [CC];generalize hq:CC P H ops l (k+(bif SK o then 1 else 0))=q at ih;obtain ⟨l',k'⟩:=q;simp only;have TV:gj P H ops (⟨o.dst,none,bad⟩::l') (o::l):=⟨.inr ⟨rfl,rfl⟩,ih⟩
  cases hg:o.guard with
  | none=>
   simp only
   cases hd:Jc H o.dst with
   | false=>exact TV
   | true=>exact ⟨.inl ⟨.inl ⟨k,rfl⟩,rfl,hd,.inl ⟨rfl,hg⟩⟩,ih⟩
  | some p=>
   obtain ⟨j,b⟩:=p;simp only
   cases ht:(ops[j]?).bind (·.dst) with
   | none=>exact TV
   | some t=>
    simp only
    cases hd:Jc H o.dst with
    | false=>exact TV
    | true=>exact ⟨.inl ⟨.inl ⟨k,rfl⟩,rfl,hd,.inr ⟨t,b,j,rfl,hg,ht⟩⟩,ih⟩
section
variable {O:bl} {H:Hint} {m:Mp} {S:Nat->Prop} {w:yi} {tm:Env} {a:Act} {hp aj:Hp} {ct aM:Nat} {self:cA} {ro:Option Nat} {Q:uy->Act->yi->Prop} {ops:Array yX}
def RO {d:Option Nat} {v:AV} {tm:Env} {t:Nat}:ai (put d v tm) t=if d=some t then v else ai tm t:=by
 cases d with
 | none=>simp [put]
 | some i=>
  simp only [put,ai];by_cases h:i=t
  ·subst h;simp
  ·have:yv i t=false:=by
    cases hq:yv i t with
    | false=>rfl
    | true=>exact absurd (yp hq) h
   simp [this,h]
def Mv (a:Act) (d:Option Nat) (u:yh):(a.put d u).tmps.size=a.tmps.size:=by
 cases d with
 | none=>rfl
 | some i=>simp [Act.put]
def Q1 (a:Act) (d:Option Nat) (u:yh):(a.put d u).defers=a.defers:=by
 cases d with
 | none=>rfl
 | some i=>rfl
def RP {a:Act} {d:Option Nat} {u:yh} {t:Nat} (hd:∀i,d=some i->i<a.tmps.size):(a.put d u).tmps.getD t undef=if d=some t then u else a.tmps.getD t undef:=by
 cases d with
 | none=>simp [Act.put]
 | some i=>
  have hi:=hd i rfl;by_cases h:i=t
  ·subst h;simp [Act.put,hi]
  ·simp only [Act.put,yd,h,xg];simp [Array.getElem?_setIfInBounds_ne h]
def ads {n:Nat} {d:Option Nat} (h:Jc H d=true) (hn:H.n<=n):∀i,d=some i->i<n:=by
 rintro i rfl
 have:=zo.1 h
 omega
def RQ {d:Option Nat} {v:AV} {u:yh} (ht:b8 O m S w tm a.tmps) (hd:∀i,d=some i->i<a.tmps.size) (hv:ah O.af m S w v u):b8 O m S w (put d v tm) (a.put d u).tmps:=fun t=>by
 rw [RO,RP hd]
 split
 ·exact hv
 ·exact ht t
def acv {o:yX} {g:Option (Nat×Bool)} {b:Bool} (hg:aeF ops g o.guard) (ht:∀t,t∈Tn g->ah O.af m S w (ai tm t) (a.tmps.getD t undef)) (hw:pz tm g=some b):Region.wanted o (yielded ops a.tmps)=b:=by
 rcases hg with ⟨rfl,h2⟩ | ⟨t,c,j,rfl,h2,h3⟩
 ·simp only [pz,yd] at hw;subst hw;simp [Region.wanted,h2]
 ·simp only [pz] at hw;have h4:=ht t (by simp [Tn]);simp only [Region.wanted,h2]
  split at hw
  ·rename_i d hd;rw [hd] at h4;simp only [ah] at h4;simp only [yd] at hw
   have:yielded ops a.tmps j=some d:=by
    simp only [yielded,h3,xR];have h5:a.tmps[t]? =some (.bool d):=by
     simp only [vh] at h4
     cases hq:a.tmps[t]? with
     | none=>rw [hq] at h4;simp [undef] at h4
     | some x=>rw [hq] at h4;simp at h4;rw [h4]
    rw [h5]
   rw [this,<-hw];cases d<;>cases c<;>rfl
  ·rename_i hd;rw [hd] at h4;simp only [ah,ay] at h4;obtain ⟨xs,h4,h5⟩:=h4;simp only [yd] at hw;subst hw
   have:yielded ops a.tmps j=none:=by
    simp only [yielded,h3,xR];simp only [vh] at h4
    cases hq:a.tmps[t]? with
    | none=>rfl
    | some x=>rw [hq] at h4;simp at h4;rw [h4]
   rw [this];rfl
  ·cases hw
def abf {o:yX} {q:Op} (hq:pJ O.P H q o) {r:AV×Hp×Nat} (hv:bf O.prog O.aC self tm hp ct q=some r):∀c,o.op≠.defer c:=by
 rcases hq with ⟨k,rfl⟩ | ⟨c,f,rs,h1,_,_⟩ | ⟨_,_,_,_,_,h1,_,_⟩ | ⟨k,rs,sz,b,x,y,h1,rfl⟩ | ⟨k,sz,b,x,y,h1,rfl⟩
 ·exact aoN hv
 ·intro c' h;rw [h1] at h;cases h
 ·intro c' h;rw [h1] at h;cases h
 ·intro c' h;simp only [aX,h] at h1;simp [bad] at h1
 ·intro c' h;simp only [aX,h] at h1;simp [bad] at h1
def atG (hC:nR O self) (hH:fw O H) {i:Nat} {r:a8} {o:yX} {v:AV} (hi:ops[i]? =some o) (hr:NB O.P H ops r o\/(r.guard=none/\r.op=bad)) (hv:e9 O.prog O.aC self tm hp ct r=some (v,aj,aM))
  (ht:b8 O m S w tm a.tmps) (hh:aU O m S w hp ct) (hn:H.n<=a.tmps.size) {K:Act->yi->Prop}
  (hK:∀u m' S' w',aU O m' S' w' aj aM->ct<=aM->b8 O m' S' w' (put r.dst v tm) (a.put o.dst u).tmps->ck m S w hp m' S' w' aj ct->K (a.put o.dst u) w'):wpOpIn (WF ro) 0 O.P ops Q i K a w:=by
 rcases hr with hr | ⟨h1,h2⟩
 case inr=>
  simp only [e9,h1,pz,h2,bad,bf,eB,aA] at hv;cases hv
 unfold wpOpIn;simp only [hi];unfold e9 at hv
 cases hw:pz tm r.guard with
 | none=>simp [hw] at hv
 | some b=>
  have Zx:=acv hr.guard (fun t _=>ht t) hw;have hd:=ads hr.ok hn;rw [Zx]
  cases b with
  | true=>
   simp only [hw] at hv;simp only [xE];refine adr hC hH hr.op (abf hr.op hv) hv ht hh (fun u m' S' w' k1 k2 k3 k4=>hK u m' S' w' k1 k2 ?_ k4);rw [hr.dst];exact RQ (AN (fun id p h=>k4.old id p (hh.lt id p h) h) k4.sub (fun b hb=>k4.still b hb) ht) hd k3
  | false=>
   simp only [hw,yd,yo] at hv;obtain ⟨rfl,rfl,rfl⟩:=hv;simp only [yI,xg];refine ⟨fun _ _=>trivial,hK undef m S w hh (yu _) ?_ ck.refl⟩;rw [hr.dst];exact RQ ht hd (by simp [ah,ay,undef])
def aeG (hC:nR O self) (hH:fw O H):∀(l:List yX) (rs:List a8) (i:Nat) (s s':St) (a:Act) (m:Mp) (S:Nat->Prop) (w:yi),(∀j,l[j]? =ops[i+j]?)->gj O.P H ops rs l->
  dI O.prog O.aC self rs s=some s'->b8 O m S w s.tm a.tmps->aU O m S w s.hp s.ct->H.n<=a.tmps.size->
  (∀a' m' S' w',aU O m' S' w' s'.hp s'.ct->s.ct<=s'.ct->b8 O m' S' w' s'.tm a'.tmps->ck m S w s.hp m' S' w' s'.hp s.ct->a'.tmps.size=a.tmps.size->a'.defers=a.defers->s'.base=s.base->Q .normal a' w')->
  wpOpsIn (WF ro) 0 O.P ops Q (List.range' i l.length) a w
 | [],rs,i,s,s',a,m,S,w,hl,hr,hv,ht,hh,hn,hQ=>by
  cases rs with
  | cons _ _=>simp [gj] at hr
  | nil=>
   simp only [dI,yd] at hv;subst hv;simp only [yK,List.range'_zero,wpOpsIn];exact hQ a m S w hh (yu _) ht ck.refl rfl rfl rfl
 | o::l,rs,i,s,s',a,m,S,w,hl,hr,hv,ht,hh,hn,hQ=>by
  cases rs with
  | nil=>simp [gj] at hr
  | cons r rs=>
   simp only [gj] at hr;rw [abF] at hv
   cases h1:e9 O.prog O.aC self s.tm s.hp s.ct r with
   | none=>simp [h1] at hv
   | some q=>
    obtain ⟨v,bc,oI⟩:=q;simp only [h1] at hv;have hi:ops[i]? =some o:=by have:=hl 0;simpa using this.symm
    rw [yz,List.range'_succ,wpOpsIn_cons];refine atG hC hH hi hr.1 h1 ht hh hn (fun u m1 S1 w1 k1 k2 k3 k4=>?_)
    refine aeG hC hH l rs (i+1) {s with tm:=put r.dst v s.tm,hp:=bc,ct:=oI} s' _ m1 S1 w1 (fun j=>?_) hr.2 hv k3 k1 (by rw [Mv];exact hn) (fun a' m' S' w' g1 g2 g3 g4 g5 g6 g7=>?_)
    ·have:=hl (j+1)
     rw [List.getElem?_cons_succ] at this;rw [this];congr 1;omega
    ·exact hQ a' m' S' w' g1 (xm k2 g2) g3 (k4.trans (g4.r9 k2)) (by rw [g5,Mv]) (by rw [g6,Q1]) g7
end
end
section
open Go
section
variable {ops:Array yX}
def QP {acc:List Nat} {i:Nat}:∀{es:List Edge},uJ (A2 acc es) i=true->∃e,e∈es/\Region.binds .any e=true/\(i=e.on\/uJ (acc.getD e.on 0) i=true)
 | [],h=>by simp [A2] at h
 | e::r,h=>by
  simp only [A2] at h
  cases hb:Region.binds .any e with
  | false=>
   rw [hb] at h;obtain ⟨e',h1,h2⟩:=QP h
   grind
  | true=>
   rw [hb] at h;simp only [yA,Nat.testBit_or,tv] at h;rcases h with (h | h) | h
   ·grind
   ·grind
   ·obtain ⟨e',h1,h2⟩:=QP h
    grind
def acw {l:List yX} {acc:List Nat} {j:Nat} (hj:j<acc.length):(kM acc l)[j]? =acc[j]? :=by
 induction l generalizing acc with
 | nil=>rfl
 | cons o l ih=>
  simp only [kM]
  grind
def aoU {l:List yX} {acc:List Nat} {j:Nat} {o:yX} (h:l[j]? =some o):∃zS:List Nat,(kM acc l)[acc.length+j]? =some (A2 zS o.after.toList)/\zS.length=acc.length+j/\∀k,k<zS.length->zS[k]? =(kM acc l)[k]? :=by
 induction l generalizing acc j with
 | nil=>simp at h
 | cons x l ih=>
  cases j with
  | zero=>
   simp only [vP,yd] at h;subst h;refine ⟨acc,?_,by simp,fun k hk=>?_⟩
   ·simp only [kM];rw [acw (by simp)]
    simp
   ·simp only [kM];rw [acw (by rw [yG];omega),List.getElem?_append_left hk]
  | succ j=>
   obtain ⟨zS,h1,h2,h3⟩:=ih (acc:=acc++[A2 acc x.after.toList]) h;simp only [yG,yz,yK] at h1 h2;refine ⟨zS,?_,by omega,fun k hk=>?_⟩
   ·simp only [kM]
    grind
   ·simp only [kM];exact h3 k hk
def Ord (ops:Array yX) (i j:Nat):Prop:=uJ ((kM [] ops.toList).getD j 0) i=true
def SP (ops:Array yX) (D:Nat->Prop):Prop:=∀j o,ops[j]? =some o->D j->∀e,e∈o.after->Region.binds .any e=true->D e.on
def acx {D:Nat->Prop} (hc:SP ops D):∀(j:Nat) (o:yX),ops[j]? =some o->(∀e,e∈o.after->Region.binds .any e=true->D e.on)->∀i,Ord ops i j->D i:=by
 intro j
 induction j using vQ with
 | _ j ih=>
  intro o ho hr i hi;have jQ:ops.toList[j]? =some o:=by simp_all
  obtain ⟨zS,h1,h2,h3⟩:=aoU (acc:=[]) jQ;simp only [yK,ye] at h1 h2;unfold Ord at hi;rw [y9,h1,ue] at hi;obtain ⟨e,g1,g2,g3⟩:=QP hi;have he:D e.on:=hr e (by simpa using g1) g2;rcases g3 with rfl | g3
  ·grind
  ·rcases vC e.on j with aW | jS
   ·have h4:=h3 e.on (by omega);have hol:e.on<ops.size:=by
     grind
    have Zu:ops[e.on]? =some ops[e.on]:=by simp_all
    refine ih e.on aW _ Zu (fun e' he' cw=>hc e.on _ Zu he e' he' cw) i ?_;unfold Ord
    grind
   ·grind
def arK {D:Nat->Prop} (hc:SP ops D) {i j:Nat} {o:yX} (ho:ops[j]? =some o) (hj:D j) (hi:Ord ops i j):D i:=
 acx hc j o ho (fun e he hb=>hc j o ho hj e he hb) i hi
def aaX:∀{l:List yX} {k j:Nat} {o:yX},AM l k=true->l[j]? =some o->∀e,e∈o.after->Region.binds .any e=true->e.on<k+j
 | [],k,j,o,_,h=>by simp at h
 | x::l,k,j,o,hb,h=>by
  simp only [AM,yg] at hb
  cases j with
  | zero=>
   simp only [vP,yd] at h;subst h;intro e he sK
   have:=List.all_eq_true.1 hb.1 e (by simpa using he)
   simp_all
  | succ j=>
   intro e he sK
   have:=aaX hb.2 h e he sK
   omega
end
def NX (a b:a8) (r:List a8):Prop:=Mn a b=false/\(HY a b=false\/Im a b r=true)
def aaZ {m:Nat} {b:a8}:∀{l:List a8} {k i:Nat} {a:a8},Mo m b l k=true->l[i]? =some a->uJ m (k+i)=true\/NX a b (l.drop (i+1))
 | [],k,i,a,_,h=>by simp at h
 | x::l,k,i,a,hp,h=>by
  simp only [Mo,yg] at hp
  cases i with
  | zero=>
   simp only [vP,yd] at h;subst h;have h1:=hp.1;simp only [tv,uC,yak,Bool.and_eq_false_iff,Bool.not_eq_false'] at h1;rcases h1 with h1 | ⟨h1,h2⟩
   ·grind
   ·exact .inr ⟨h1,by simpa using h2⟩
  | succ i=>
   rcases aaZ hp.2 h with h1 | h1
   ·grind
   ·grind
def aa2:∀{l done:List a8} {ms:List Nat} {i j:Nat} {a b:a8},zm done l ms=true->(done++l)[i]? =some a->l[j]? =some b->i<done.length+j->
  ∃m,ms[j]? =some m/\(uJ m i=true\/NX a b (((done++l).take (done.length+j)).drop (i+1)))
 | [],done,ms,i,j,a,b,_,_,h,_=>by simp at h
 | x::l,done,[],i,j,a,b,hp,_,h,_=>by simp [zm] at hp
 | x::l,done,m::ms,i,j,a,b,hp,ha,h,BV=>by
  simp only [zm,yg] at hp
  cases j with
  | zero=>
   have DM:done[i]? =some a:=by grind
   have:=aaZ hp.1 DM
   grind
  | succ j=>
   have e:done++x::l=(done++[x])++l:=by simp
   obtain ⟨m',h1,h2⟩:=aa2 (i:=i) (a:=a) hp.2 (by rw [<-e];exact ha) h (by simp;omega)
   grind
def LI {a b:a8} (h:Mn a b=false):(∀d,a.dst=some d->d∉CI b/\b.dst≠some d)/\(∀d,b.dst=some d->d∉CI a):=by
 have mem:∀{i:Nat} {l:List Nat},jz i l=false->i∉l:=by
  intro i l
  induction l with
  | nil=>intro _ h;cases h
  | cons j r ih=>
   intro h hm;simp only [jz] at h
   cases hb:yv j i with
   | true=>rw [hb] at h;cases h
   | false=>
    simp_all
 simp only [Mn,yak] at h;obtain ⟨⟨h1,h2⟩,h3⟩:=h;refine ⟨fun d hd=>⟨mem (by simpa [hd,Fi] using h1),fun hb=>?_⟩,fun d hd=>mem (by simpa [hd,Fi] using h2)⟩;rw [hd,hb] at h3;simp [aiX] at h3
def abH {t:Nat}:∀{l:List a8},C8 t l=true->∀r,r∈l->r.dst≠some t
 | [],_,r,h=>by cases h
 | x::l,h,r,hr=>by
  simp only [C8,yg,uC] at h;rcases wP.1 hr with rfl | hr
  ·intro hd;rw [hd] at h;simp [Fi,jz] at h
  ·exact abH h.2 r hr
def Ma {sz t:Nat} {ag:Bool}:∀{l:List (Nat×Bool×Nat)},Dg sz ag t l=true->(sz,ag,t)∈l
 | [],h=>by simp [Dg] at h
 | (s,g,u)::r,h=>by
  simp only [Dg,tv,yg] at h;rcases h with ⟨h1,h2,h3⟩ | h
  ·simp_all
  ·exact we _ (Ma h)
def RR:∀{a b:List Nat},cY a b=true->a=b
 | [],[],_=>rfl
 | [],_::_,h=>by simp [cY] at h
 | _::_,[],h=>by simp [cY] at h
 | x::a,y::b,h=>by
  simp only [cY,yg] at h;rw [yp h.1,RR h.2]
def apW {a b:AV} (h:TM a b=true):a=b:=by
 unfold TM at h
 split at h
 ·grind
 ·grind
 ·rw [RR h]
 ·rfl
 ·rfl
 ·simp_all
 ·simp_all
 ·simp_all
 ·cases h
def QI {tm:Env} {hp aj:Hp} {sz t:Nat} {ag:Bool} {v:AV}:∀{l:List (Nat×Bool×Nat)},pc tm hp aj l=true->(sz,ag,t)∈l->jc hp sz ag (ai tm t)=some v->jc aj sz ag (ai tm t)=some v
 | [],_,h,_=>by cases h
 | (s,g,u)::r,h,hm,hv=>by
  simp only [pc] at h
  cases h1:jc hp s g (ai tm u) with
  | none=>simp [h1] at h
  | some x=>
   cases h2:jc aj s g (ai tm u) with
   | none=>simp [h1,h2] at h
   | some y=>
    simp only [h1,h2,yg] at h;rcases wP.1 hm with e | hm
    ·simp only [yo] at e;obtain ⟨rfl,rfl,rfl⟩:=e;rw [h1] at hv;rw [h2,<-apW h.1,hv]
    ·exact QI h.2 hm hv
structure NY (P:aK) (L:Lib) (run:cA) (rs:List a8) (b4:Nat->Env) (bO:Nat->Hp) (bI:Nat->Nat) (vF:Nat->AV):Prop where
 step:∀i r,rs[i]? =some r->e9 P L run (b4 i) (bO i) (bI i) r=some (vF i,bO (i+1),bI (i+1))
 tm:∀i r,rs[i]? =some r->b4 (i+1)=put r.dst (vF i) (b4 i)
def aeH {P:aK} {L:Lib} {self:cA}:∀{rs:List a8} {s s':St},dI P L self rs s=some s'->
  ∃b4 bO bI vF,NY P L self rs b4 bO bI vF/\b4 0=s.tm/\bO 0=s.hp/\bI 0=s.ct/\b4 rs.length=s'.tm/\bO rs.length=s'.hp/\bI rs.length=s'.ct/\s'.base=s.base
 | [],s,s',h=>by
  simp only [dI,yd] at h;subst h;exact ⟨fun _=>s.tm,fun _=>s.hp,fun _=>s.ct,fun _=> .undef,⟨fun i r h=>by simp at h,fun i r h=>by simp at h⟩,rfl,rfl,rfl,rfl,rfl,rfl,rfl⟩
 | r::rs,s,s',h=>by
  rw [abF] at h
  cases h1:e9 P L self s.tm s.hp s.ct r with
  | none=>simp [h1] at h
  | some q=>
   obtain ⟨v,bc,oI⟩:=q;simp only [h1] at h;obtain ⟨b4,bO,bI,vF,g1,g2,g3,g4,g5,g6,g7,g8⟩:=aeH h;refine ⟨fun i=>match i with | 0=>s.tm | i+1=>b4 i,fun i=>match i with | 0=>s.hp | i+1=>bO i,fun i=>match i with | 0=>s.ct | i+1=>bI i,fun i=>match i with | 0=>v | i+1=>vF i,⟨?_,?_⟩,rfl,rfl,rfl,by simpa using g5,by simpa using g6,by simpa using g7,g8⟩
   ·intro i r' hi
    cases i with
    | zero=>
     grind
    | succ i=>exact g1.step i r' (by simpa using hi)
   ·intro i r' hi
    cases i with
    | zero=>
     grind
    | succ i=>exact g1.tm i r' (by simpa using hi)
section
variable {P:aK} {L:Lib} {self:cA} {rs:List a8} {b4:Nat->Env} {bO:Nat->Hp} {bI:Nat->Nat} {vF:Nat->AV}
def H4 (hR:NY P L self rs b4 bO bI vF) {t i:Nat}:∀(k:Nat),i+k<=rs.length->(∀j r,i<=j->j<i+k->rs[j]? =some r->r.dst≠some t)->ai (b4 (i+k)) t=ai (b4 i) t
 | 0,_,_=>rfl
 | k+1,hk,h=>by
  have hr:rs[i+k]? =some rs[i+k]:=by simp_all
  rw [show i+(k+1)=i+k+1 by omega,hR.tm _ _ hr,RO,yx (h (i+k) _ (by omega) (by omega) hr)];exact H4 hR k (by omega) (fun j r h1 h2=>h j r h1 (by omega))
def acy {r:a8} {tm:Env} {hp aj:Hp} {ct aM:Nat} {v:AV} (hk:bB r.op<=1) (hv:e9 P L self tm hp ct r=some (v,aj,aM)) (aW:∀id o,au hp id=some o->id<ct):iG hp ct aj aM:=by
 unfold e9 at hv
 cases hw:pz tm r.guard with
 | none=>simp [hw] at hv
 | some b=>
  cases b with
  | true=>simp only [hw] at hv;exact abe hk hv aW
  | false=>
   simp only [hw,yd,yo] at hv;obtain ⟨rfl,rfl,rfl⟩:=hv;exact iG.refl aW
def Mb (hR:NY P L self rs b4 bO bI vF) {i:Nat} (aW:∀id o,au (bO i) id=some o->id<bI i):∀(k:Nat),i+k<=rs.length->(∀j r,i<=j->j<i+k->rs[j]? =some r->bB r.op<=1)->iG (bO i) (bI i) (bO (i+k)) (bI (i+k))
 | 0,_,_=>iG.refl aW
 | k+1,hk,h=>by
  have ih:=Mb hR aW k (by omega) (fun j r h1 h2=>h j r h1 (by omega));have hr:rs[i+k]? =some rs[i+k]:=by simp_all
  exact ih.trans (acy (h (i+k) _ (by omega) (by omega) hr) (hR.step _ _ hr) ih.lt)
end
end
section
open Go
def Mw {tm:Env} {t:Nat}:∀{l:List Nat},t∈l->ai (cg tm l) t=ai tm t
 | [],h=>by cases h
 | i::r,h=>by
  simp only [cg,ai]
  cases hb:yv i t with
  | true=>rw [yp hb];rfl
  | false=>
   rcases wP.1 h with e | h
   ·simp_all
   ·exact Mw h
def apX {P:aK} {L:Lib} {self:cA} {tm tm':Env} {hp:Hp} {ct:Nat} {o:Op} {r:AV×Hp×Nat} (h:∀t,t∈j8 o->ai tm' t=ai tm t) (hv:bf P L self tm hp ct o=some r):bf P L self tm' hp ct (iZ o)=some r:=by
 cases o with
 | iW rs f xs=>
  simp only [j8,xZ] at h;simp only [iZ,bf] at hv ⊢
  rw [dK (x:=f) fun t ht=>h t (.inl ht),Cu (xs:=xs) fun t ht=>h t (.inr ht)]
  cases hc:eB P L self hp ct .dyn (aA tm f) (dD tm xs) with
  | none=>simp [hc] at hv
  | some q=>
   obtain ⟨v1,bc,oI⟩:=q;simp only [hc] at hv
   cases hs:pc tm hp bc rs with
   | false=>rw [hs] at hv;cases hv
   | true=>
    rw [hs] at hv;simpa only [pc,yA] using hv
 | jC rs sz x v=>
  simp only [iZ,bf] at hv ⊢
  rw [Cr (o:= .st sz x v) (tm:=tm) h]
  split at hv
  ·rename_i id off hx
   cases hf:nS tm id rs with
   | false=>rw [hf] at hv;cases hv
   | true=>rw [hf] at hv;exact hv
  ·cases hv
 | kV rs sz b x v=>
  simp only [iZ,bf] at hv ⊢
  rw [Cr (o:= .aR sz b x v) (tm:=tm) h]
  cases hc:cI tm hp ct (.aR sz b x v) with
  | none=>simp [hc] at hv
  | some q=>
   obtain ⟨v1,bc,oI⟩:=q;simp only [hc] at hv
   cases hs:pc tm hp bc rs with
   | false=>rw [hs] at hv;cases hv
   | true=>rw [hs] at hv;exact hv
 | nn sz b x v=>
  rw [<-hv];simp only [j8,xZ] at h;simp only [iZ,bf]
  rw [dK (x:=x) fun t ht=>h t (.inl ht),dK (x:=v) fun t ht=>h t (.inr ht)]
 | call md f xs=>
  rw [<-hv];simp only [j8,xZ] at h;simp only [iZ,bf]
  rw [dK (x:=f) fun t ht=>h t (.inl ht),Cu (xs:=xs) fun t ht=>h t (.inr ht)]
 | st s x y=>rw [<-hv];simp only [iZ,bf];exact Cr h
 | pR kk x y z=>rw [<-hv];simp only [iZ,bf];exact Cr h
 | pU x=>rw [<-hv];simp only [iZ,bf];exact Cr h
 | aR s b x y=>rw [<-hv];simp only [iZ,bf];exact Cr h
 | mD s x y=>rw [<-hv];simp only [iZ,bf];exact Cr h
 | box s x=>rw [<-hv];simp only [iZ,bf];rw [HO (hp:=hp) h]
 | cW n s z ps=>rw [<-hv];simp only [iZ,bf];rw [HO (hp:=hp) h]
 | gO s b z x y=>rw [<-hv];simp only [iZ,bf];rw [HO (hp:=hp) h]
 | Ah=>exact hv
 | pT x=>rw [<-hv];simp only [iZ,bf];rw [HO (hp:=hp) h]
 | _=>rw [<-hv];simp only [iZ,bf];rw [aoh h]
def adt {P:aK} {L:Lib} {self:cA} {tm:Env} {hp aj:Hp} {ct aM:Nat} {q:Op} {v:AV} (hk:bB q=0\/∃sz ag x,q= .ld sz ag x) (hv:bf P L self tm hp ct q=some (v,aj,aM)):bA tm hp q=some v/\aj=hp/\aM=ct:=by
 have jU:∀{q:Op},(match bA tm hp q with | some v=>some (v,hp,ct) | none=>(none:fY))=some (v,aj,aM)->bA tm hp q=some v/\aj=hp/\aM=ct:=by
  intro q h
  cases hm:bA tm hp q with
  | none=>simp [hm] at h
  | some r=>
   simp only [hm,yd,yo] at h;obtain ⟨rfl,rfl,rfl⟩:=h;exact ⟨rfl,rfl,rfl⟩
 rcases hk with hk | ⟨sz,ag,x,rfl⟩
 ·cases bR:q with
  | call md f xs=>subst bR;cases md<;>simp [bB] at hk
  | iW rs f xs=>subst bR;simp [bB] at hk
  | jC rs s x y=>subst bR;simp [bB] at hk
  | kV rs s b x y=>subst bR;simp [bB] at hk
  | nn s b x y=>subst bR;simp [bB] at hk
  | st s x y=>subst bR;simp [bB] at hk
  | pR kk x y z=>subst bR;simp [bB] at hk
  | pU x=>subst bR;simp [bB] at hk
  | aR s b x y=>subst bR;simp [bB] at hk
  | mD s x y=>subst bR;simp [bB] at hk
  | box s x=>subst bR;simp [bB] at hk
  | cW n s z ps=>subst bR;simp [bB] at hk
  | gO s b z x y=>subst bR;simp [bB] at hk
  | Ah=>subst bR;simp [bB] at hk
  | pT x=>subst bR;simp [bB] at hk
  | _=>exact bR▸jU (q:=q) (by rw [bR] at hv ⊢;simp only [bf] at hv;exact hv)
 ·exact jU (q:= .ld sz ag x) (by simp only [bf] at hv;exact hv)
section
variable {O:bl} {H:Hint} {ops:Array yX} {rs:List a8} {b4:Nat->Env} {bO:Nat->Hp} {bI:Nat->Nat} {vF:Nat->AV} {self:cA} {ro:Option Nat} {Q:uy->Act->yi->Prop}
structure r5 (O:bl) (H:Hint) (slf:cA) (ops:Array yX) (rs:List a8) (b4:Nat->Env) (bO:Nat->Hp) (bI:Nat->Nat) (vF:Nat->AV):Prop where
 run:NY O.prog O.aC slf rs b4 bO bI vF
 len:rs.length=ops.size
 of:∀(i:Nat) (r:a8) (o:yX),rs[i]? =some r->ops[i]? =some o->NB O.P H ops r o
 pair:∀(i j:Nat) (a b:a8),i<j->rs[i]? =some a->rs[j]? =some b->Ord ops i j\/NX a b ((rs.take j).drop (i+1))
 back:∀(i:Nat) (o:yX),ops[i]? =some o->∀e,e∈o.after->Region.binds .any e=true->e.on<i
def jV (rs:List a8) (i:Nat):Prop:=∃r,rs[i]? =some r/\bB r.op=2
def SQ (rs:List a8):∀(k i:Nat),i+k=rs.length->∃c,i<=c/\c<=rs.length/\(∀j,i<=j->j<c->¬jV rs j)/\(c=rs.length\/jV rs c)
 | 0,i,h=>⟨i,yu _,by omega,fun j h1 h2=>by omega,.inl (by omega)⟩
 | k+1,i,h=>by
  rcases uk (jV rs i) with hw | hw
  ·grind
  ·obtain ⟨c,h1,h2,h3,h4⟩:=SQ rs k (i+1) (by omega)
   grind
def Iq {rs:List a8} {i:Nat} {r:a8} (hr:rs[i]? =some r) (hw:¬jV rs i):bB r.op<=1:=by
 have h:bB r.op≠2:=fun e=>hw ⟨r,hr,e⟩
 have:bB r.op<=2:=by
  cases r.op with
  | dO k x lo hi=>cases k<;>simp [bB]
  | len k x=>rcases k with _ | _ | k<;>simp [bB]
  | call md f xs=>cases md<;>simp [bB]
  | _=>simp [bB]
 omega
def PO (O:bl) (rs:List a8) (b4:Nat->Env) (D:Nat->Prop) (m:Mp) (S:Nat->Prop) (w:yi) (a:Act):Prop:=
 ∀t,∃j,j<=rs.length/\(∀(i:Nat) (r:a8),rs[i]? =some r->r.dst=some t->(D i↔i<j))/\ah O.af m S w (ai (b4 j) t) (a.tmps.getD t undef)
def atH {D:Nat->Prop} {m:Mp} {S:Nat->Prop} {w:yi} {a:Act} {i:Nat} {r:a8} (hG:r5 O H self ops rs b4 bO bI vF) (hT:PO O rs b4 D m S w a) (hr:rs[i]? =some r) (hi:¬D i)
  (fe:∀j,Ord ops j i->D j) (gl:∀j,Ord ops i j->¬D j):∀t,t∈CI r->ah O.af m S w (ai (b4 i) t) (a.tmps.getD t undef):=by
 intro t ht;obtain ⟨j,h1,h2,h3⟩:=hT t;have Gn:i<rs.length:=(wv.1 hr).1;have e:ai (b4 j) t=ai (b4 i) t:=by
  rcases Nat.le_total j i with BW | BV
  ·obtain ⟨k,rfl⟩:∃k,i=j+k:=⟨i-j,by omega⟩;refine (H4 hG.run k (by omega) (fun l rl g1 g2 hl hd=>?_)).symm;rcases hG.pair l (j+k) rl r (by omega) hl hr with ho | hf
   ·grind
   ·exact ((LI hf.1).1 t hd).1 ht
  ·obtain ⟨k,rfl⟩:∃k,j=i+k:=⟨j-i,by omega⟩;refine H4 hG.run k h1 (fun l rl g1 g2 hl hd=>?_);rcases vd g1 with rfl | g1
   ·grind
   ·rcases hG.pair i l r rl g1 hr hl with ho | hf
    ·grind
    ·exact (LI hf.1).2 t hd ht
 grind
def aeI {D D':Nat->Prop} {m m':Mp} {S S':Nat->Prop} {w w':yi} {a:Act} {i:Nat} {r:a8} {u:yh} (hG:r5 O H self ops rs b4 bO bI vF) (hT:PO O rs b4 D m S w a) (hr:rs[i]? =some r) (hi:¬D i)
  (fe:∀j,Ord ops j i->D j) (gl:∀j,Ord ops i j->¬D j) (hD:∀j,D' j↔D j\/j=i) (hm:dl m m') (hS:∀b,S b->S' b) (hw:fK S w w') (hd:∀d,r.dst=some d->d<a.tmps.size)
  (hv:ah O.af m' S' w' (vF i) u):PO O rs b4 D' m' S' w' (a.put r.dst u):=by
 intro t;have Gn:i<rs.length:=(wv.1 hr).1;by_cases KQ:r.dst=some t
 ·refine ⟨i+1,Gn,fun l rl hl Zy=>?_,?_⟩
  ·rw [hD];constructor
   ·rintro (h | h)
    ·rcases vC l (i+1) with g | g
     ·grind
     ·rcases hG.pair i l r rl (by omega) hr hl with ho | hf
      ·grind
      ·exact (((LI hf.1).1 t KQ).2 Zy).elim
    ·omega
   ·intro h;rcases vd (tO h) with h | h
    ·grind
    ·rcases hG.pair l i rl r h hl hr with ho | hf
     ·grind
     ·exact (((LI hf.1).1 t Zy).2 KQ).elim
  ·rw [hG.run.tm i r hr,RO,RP hd,yM KQ,yM KQ];exact hv
 ·obtain ⟨j,h1,h2,h3⟩:=hT t;refine ⟨j,h1,fun l rl hl Zy=>?_,?_⟩
  ·grind
  ·rw [RP hd,yx KQ];exact lz hm hS hw _ _ h3
def abg {tm:Env} {hp aj:Hp} {ct aM id off sz DL t:Nat} {ag:Bool} {x y:X} {v v':AV}:∀{l:List (Nat×Bool×Nat)},nS tm id l=true->(sz,ag,t)∈l->aA tm x= .ptr id off->
  cI tm hp ct (.st DL x y)=some (v',aj,aM)->jc hp sz ag (ai tm t)=some v->jc aj sz ag (ai tm t)=some v
 | [],_,h,_,_,_=>by cases h
 | (s,g,u)::r,h,hm,hx,hw,hv=>by
  simp only [nS,yg] at h;rcases wP.1 hm with e | hm
  ·simp only [yo] at e;obtain ⟨rfl,rfl,rfl⟩:=e;have h1:=h.1
   split at h1
   ·rename_i j o hj;have dd:j≠id:=by
     intro e
     simp_all
    rw [hj] at hv ⊢;simp only [cI,hx] at hw;have key:∀ob,au (a7 hp id ob) j=au hp j:=fun ob=>by rw [rH,yx (ybL dd)]
    split at hw
    ·rename_i pu ex z cs Gp;generalize (yv _ _&&yF _ _&&cp _)=bb at hw
     cases bb with
     | false=>cases hw
     | true=>
      obtain ⟨_,rfl,_⟩:=hw;simp only [jc,key] at hv ⊢;exact hv
    ·cases hw
   ·rename_i cs hj;rw [hj] at hv ⊢;simpa only [jc] using hv
   ·cases h1
  ·exact abg h.2 hm hx hw hv
def aa3 {D:Nat->Prop} {i c:Nat} {r:a8} {sz t:Nat} {ag:Bool} (hG:r5 O H self ops rs b4 bO bI vF) (hr:rs[i]? =some r) (hi:¬D i) (Gq:r.guard=none/\r.op= .ld sz ag (.t t)) (hc:c<=rs.length)
  (hW:∀j,j<c->jV rs j->D j) (gl:∀j,Ord ops i j->¬D j) (aW:∀j,j<=c->∀id o,au (bO j) id=some o->id<bI j):∀k,i+1+k<=c->jc (bO (i+1+k)) sz ag (ai (b4 i) t)=some (vF i)
 | 0,hk=>by
  have h1:=hG.run.step i r hr;simp only [e9,Gq.1,pz,Gq.2] at h1;obtain ⟨h2,h3,h4⟩:=adt (.inr ⟨_,_,_,rfl⟩) h1;simp only [bA,aA] at h2;rw [Nat.add_zero,h3];exact h2
 | k+1,hk=>by
  have ih:=aa3 hG hr hi Gq hc hW gl aW k (by omega);have hl:i+1+k<rs.length:=by omega
  have hj:rs[i+1+k]? =some rs[i+1+k]:=by simp [hl]
  have aO:=hG.run.step _ _ hj;rw [show i+1+(k+1)=i+1+k+1 by omega];rcases uk (jV rs (i+1+k)) with hw | hw
  ·have hD:=hW _ (by omega) hw;rcases hG.pair i (i+1+k) r _ (by omega) hr hj with ho | hf
   ·exact (gl _ ho hD).elim
   ·obtain ⟨Gm,kC⟩:=hf;obtain ⟨rw',h5,h6⟩:=hw;rw [hj] at h5;injection h5 with h5
    subst h5;rcases kC with kC | kC
    ·have h1k:bB r.op=1:=by rw [Gq.2];rfl
     simp only [HY,h1k,h6] at kC;cases kC
    ·unfold Im at kC;simp only [Gq.1,Gq.2] at kC;generalize jg:(rs[i+1+k]).op=q at kC;have Tt:C8 t (r::(rs.take (i+1+k)).drop (i+1))=true->ai (b4 (i+1+k)) t=ai (b4 i) t:=by
      intro aBr;have kB:=abH aBr;rw [show i+1+k=i+(1+k) by omega];refine H4 hG.run (1+k) (by omega) (fun l rl g1 g2 DN=>kB rl ?_);rcases vd g1 with rfl | g1
      ·rw [hr] at DN;injection DN with DN;subst DN;exact wF
      ·refine we _ ?_
       have:((rs.take (i+1+k)).drop (i+1))[l-(i+1)]? =some rl:=by
        rw [List.getElem?_drop,List.getElem?_take_of_lt (by omega),show i+1+(l-(i+1))=l by omega];exact DN
       exact List.mem_of_getElem? this
     unfold e9 at aO
     cases hg:pz (b4 (i+1+k)) (rs[i+1+k]).guard with
     | none=>simp [hg] at aO
     | some b=>
      cases b with
      | false=>
       simp only [hg,yd,yo] at aO;rw [<-aO.2.1];exact ih
      | true=>
       simp only [hg,jg] at aO;cases q<;>simp only [yI] at kC
       case iW DO fx xs=>
        simp only [yg] at kC;have Fk:=Ma kC.1;have BX:=Tt kC.2;simp only [bf] at aO
        cases fZ:eB O.prog O.aC self (bO (i+1+k)) (bI (i+1+k)) .dyn (aA (b4 (i+1+k)) fx) (dD (b4 (i+1+k)) xs) with
        | none=>simp [fZ] at aO
        | some z=>
         obtain ⟨v1,bc,oI⟩:=z;simp only [fZ] at aO
         cases hs:pc (b4 (i+1+k)) (bO (i+1+k)) bc DO with
         | false=>rw [hs] at aO;cases aO
         | true=>
          rw [hs] at aO;simp only [yA,yd,yo] at aO;obtain ⟨_,h8,_⟩:=aO;rw [<-h8,<-BX];exact QI hs Fk (by rw [BX];exact ih)
       case jC DO DL x v=>
        simp only [yg] at kC;have Fk:=Ma kC.1;have BX:=Tt kC.2;simp only [bf] at aO
        split at aO
        ·rename_i id off hx
         cases hs:nS (b4 (i+1+k)) id DO with
         | false=>rw [hs] at aO;cases aO
         | true=>
          rw [hs] at aO;simp only [yA] at aO;rw [<-BX];exact abg hs Fk hx aO (by rw [BX];exact ih)
        ·cases aO
       case kV DO DL b x v=>
        simp only [yg] at kC;have Fk:=Ma kC.1;have BX:=Tt kC.2;simp only [bf] at aO
        cases fZ:cI (b4 (i+1+k)) (bO (i+1+k)) (bI (i+1+k)) (.aR DL b x v) with
        | none=>simp [fZ] at aO
        | some z=>
         obtain ⟨v1,bc,oI⟩:=z;simp only [fZ] at aO
         cases hs:pc (b4 (i+1+k)) (bO (i+1+k)) bc DO with
         | false=>rw [hs] at aO;cases aO
         | true=>
          rw [hs] at aO;simp only [yA,yd,yo] at aO;obtain ⟨_,h8,_⟩:=aO;rw [<-h8,<-BX];exact QI hs Fk (by rw [BX];exact ih)
  ·exact aeA (acy (Iq hj hw) aO (aW _ (by omega))).le ih
structure Inv (O:bl) (ops:Array yX) (rs:List a8) (b4:Nat->Env) (bO:Nat->Hp) (bI:Nat->Nat) (D:Nat->Prop) (m0:Mp) (S0:Nat->Prop) (w0:yi) (n0:Nat) (d0:List tx) (st c:Nat) (m:Mp) (S:Nat->Prop) (w:yi) (a:Act):Prop where
 Zz:st<=c
 cn:c<=rs.length
 before:∀i,i<st->jV rs i->D i
 Gr:∀i,st<=i->i<c->¬jV rs i
 cut:c=rs.length\/(jV rs c/\¬D c)
 behind:∀(i:Nat) (r:a8),c<=i->rs[i]? =some r->1<=bB r.op->¬D i
 hp:aU O m S w (bO c) (bI c)
 ZA:∀id p,m id=some p->id<bI st\/∃i,st<=i/\i<c/\D i/\bI i<=id/\id<bI (i+1)
 tm:PO O rs b4 D m S w a
 PP:ck m0 S0 w0 (bO 0) m S w (bO c) (bI 0)
 ge:bI 0<=bI c
 size:a.tmps.size=n0
 defers:a.defers=d0
 nC:st=0\/jV rs (st-1)
 Gs:∀j,j<=c->∀id o,au (bO j) id=some o->id<bI j
end
end
section
open Go
section
variable {O:bl} {H:Hint} {ops:Array yX} {rs:List a8} {b4:Nat->Env} {bO:Nat->Hp} {bI:Nat->Nat} {vF:Nat->AV} {self:cA} {ro:Option Nat} {Q:uy->Act->yi->Prop}
variable {D D':Nat->Prop} {m0:Mp} {S0:Nat->Prop} {w0:yi} {n0:Nat} {d0:List tx} {st c i:Nat} {m:Mp} {S:Nat->Prop} {w:yi} {a:Act} {r:a8} {o:yX}
def Mc (hG:r5 O H self ops rs b4 bO bI vF) (hI:Inv O ops rs b4 bO bI D m0 S0 w0 n0 d0 st c m S w a) {x y:Nat} (hx:st<=x) (hxy:x<=y) (hy:y<=c):iG (bO x) (bI x) (bO y) (bI y):=by
 obtain ⟨k,rfl⟩:∃k,y=x+k:=⟨y-x,by omega⟩
 have:=hI.cn
 exact Mb hG.run (hI.Gs x (by omega)) k (by omega) (fun j r h1 h2 hr=>Iq hr (hI.Gr j (by omega) (by omega)))
def RS (hG:r5 O H self ops rs b4 bO bI vF) (hI:Inv O ops rs b4 bO bI D m0 S0 w0 n0 d0 st c m S w a) (hr:rs[i]? =some r) (hi:¬D i) (fe:∀j,Ord ops j i->D j) (gl:∀j,Ord ops i j->¬D j) (hD:∀j,D' j↔D j\/j=i)
  (hd:∀d,r.dst=some d->d<a.tmps.size) (hw:¬jV rs i) (mH:bB r.op=0\/i<c) {m':Mp} {S':Nat->Prop} {w':yi} {u:yh} (k1:aU O m' S' w' (bO c) (bI c)) (k2:dl m m')
  (k3:∀id p,m' id=some p->m id=some p\/(st<=i/\i<c/\bI i<=id/\id<bI (i+1))) (k4:ah O.af m' S' w' (vF i) u) (k5:ck m S w (bO c) m' S' w' (bO c) (bI c)):
  Inv O ops rs b4 bO bI D' m0 S0 w0 n0 d0 st c m' S' w' (a.put r.dst u) where
 Zz:=hI.Zz
 cn:=hI.cn
 before j hj DP:=(hD j).2 (.inl (hI.before j hj DP))
 Gr:=hI.Gr
 cut:=hI.cut.imp (fun h=>h) (fun h=>⟨h.1,fun hc=>((hD c).1 hc).elim h.2 (fun e=>hw (e▸h.1))⟩)
 behind j rj hj DQ hk KR:=((hD j).1 KR).elim (hI.behind j rj hj DQ hk) (fun e=>by
  subst e;rw [hr] at DQ;injection DQ with DQ
  subst DQ
  rcases mH with h | h<;>omega)
 hp:=k1
 ZA id p hp:=by
  rcases k3 id p hp with h | ⟨h1,h2,h3,h4⟩
  ·rcases hI.ZA id p h with h | ⟨j,g1,g2,g3,g4,g5⟩
   ·exact .inl h
   ·exact .inr ⟨j,g1,g2,(hD j).2 (.inl g3),g4,g5⟩
  ·exact .inr ⟨i,h1,h2,(hD i).2 (.inr rfl),h3,h4⟩
 tm:=aeI hG hI.tm hr hi fe gl hD k2 k5.sub (fun b hb=>k5.still b hb) hd k4
 PP:=hI.PP.trans (k5.r9 hI.ge)
 ge:=hI.ge
 size:=by rw [Mv];exact hI.size
 defers:=by rw [Q1];exact hI.defers
 nC:=hI.nC
 Gs:=hI.Gs
def aeJ (hG:r5 O H self ops rs b4 bO bI vF) (hI:Inv O ops rs b4 bO bI D m0 S0 w0 n0 d0 st c m S w a) (hr:rs[c]? =some r) (hi:¬D c) (fe:∀j,Ord ops j c->D j) (gl:∀j,Ord ops c j->¬D j) (hD:∀j,D' j↔D j\/j=c)
  (hd:∀d,r.dst=some d->d<a.tmps.size) (hw:jV rs c) {m':Mp} {S':Nat->Prop} {w':yi} {u:yh} (k1:aU O m' S' w' (bO (c+1)) (bI (c+1))) (k2:bI c<=bI (c+1))
  (k4:ah O.af m' S' w' (vF c) u) (k5:ck m S w (bO c) m' S' w' (bO (c+1)) (bI c)):
  ∃c' BQ,Inv O ops rs b4 bO bI D' m0 S0 w0 n0 d0 (c+1) c' m' BQ w' (a.put r.dst u):=by
 have fZ:c<rs.length:=(wv.1 hr).1;obtain ⟨c',h1,h2,h3,h4⟩:=SQ rs (rs.length-(c+1)) (c+1) (by omega);obtain ⟨k,rfl⟩:∃k,c'=c+1+k:=⟨c'-(c+1),by omega⟩;have hg:∀k',k'<=k->iG (bO (c+1)) (bI (c+1)) (bO (c+1+k')) (bI (c+1+k')):=fun k' nt=>
  Mb hG.run k1.aW k' (by omega) (fun j r g1 g2 hr=>Iq hr (h3 j g1 (by omega)))
 obtain ⟨BQ,g1,g2,g3,g4⟩:=Mu k1 (hg k (yu _));have hml:dl m m':=fun id p h=>k5.old id p (hI.hp.lt id p h) h
 refine ⟨c+1+k,BQ,⟨by omega,h2,?_,h3,?_,?_,g1,fun id p h=> .inl (k1.lt id p h),?_,?_,?_,by rw [Mv];exact hI.size,by rw [Q1];exact hI.defers,.inr (by simpa using hw),?_⟩⟩
 ·intro j hj DP;rcases vd (tO hj) with e | hj
  ·exact (hD j).2 (.inr e)
  ·rcases vC j st with g | g
   ·exact (hD j).2 (.inl (hI.before j g DP))
   ·exact (hI.Gr j g hj DP).elim
 ·refine h4.imp (fun h=>h) (fun h=>⟨h,fun hc=>?_⟩);obtain ⟨rc,ZB,mH⟩:=h;rcases (hD _).1 hc with g | g
  ·exact hI.behind _ rc (by omega) ZB (by omega) g
  ·omega
 ·intro j rj hj DQ hk KR;rcases (hD j).1 KR with g | g
  ·exact hI.behind j rj (by omega) DQ hk g
  ·omega
 ·exact aeI hG hI.tm hr hi fe gl hD hml (fun b hb=>g2 b (k5.sub b hb)) (fun b hb=>k5.still b hb) hd (lz (fun _ _ h=>h) g2 (fun _ _=>rfl) _ _ k4)
 ·exact (hI.PP.trans (k5.r9 hI.ge)).trans (g4 (bI 0))
 ·have:=(hg k (yu _)).pW
  have:=hI.ge
  omega
 ·intro j hj;rcases vC c j with g | g
  ·obtain ⟨k',rfl⟩:∃k',j=c+1+k':=⟨j-(c+1),by omega⟩;exact (hg k' (by omega)).lt
  ·exact hI.Gs j g
def arL {q:Op} (h:bB q≠2):iZ q=q:=by
 cases q<;>first
  | rfl
  | exact absurd rfl h
def abI {x y:a8} {l:List a8} (h:NX x y l):¬(bB x.op=2/\1<=bB y.op)/\(1<=bB x.op->bB y.op=2->x.guard=none/\∃sz ag t,x.op= .ld sz ag (.t t)):=by
 obtain ⟨_,h⟩:=h;have ex:Im x y l=true->x.guard=none/\∃sz ag t,x.op= .ld sz ag (.t t):=by
  intro he;unfold Im at he
  split at he
  ·rename_i sz ag t DO fx xs h1 h2 h3;exact ⟨h1,sz,ag,t,h2⟩
  ·rename_i h1 h2 h3;exact ⟨h1,_,_,_,h2⟩
  ·rename_i h1 h2 h3;exact ⟨h1,_,_,_,h2⟩
  ·cases he
 have k2:∀q:Op,bB q<=2:=fun q=>by
  cases q with
  | dO k x lo hi=>cases k<;>simp [bB]
  | len k x=>rcases k with _ | _ | k<;>simp [bB]
  | call md f xs=>cases md<;>simp [bB]
  | _=>simp [bB]
 constructor
 ·rintro ⟨h1,h2⟩;rcases h with h | h
  ·have:bB y.op=1\/bB y.op=2:=by have:=k2 y.op;omega
   rcases this with e | e<;>(simp only [HY,h1,e] at h;cases h)
  ·obtain ⟨_,sz,ag,t,e⟩:=ex h;rw [e] at h1;cases h1
 ·intro h1 h2;rcases h with h | h
  ·have:bB x.op=1\/bB x.op=2:=by have:=k2 x.op;omega
   rcases this with e | e<;>(simp only [HY,h2,e] at h;cases h)
  ·exact ex h
def arM (hC:nR O self) (hH:fw O H) (hG:r5 O H self ops rs b4 bO bI vF) (hn:H.n<=n0) (hI:Inv O ops rs b4 bO bI D m0 S0 w0 n0 d0 st c m S w a) (hr:rs[i]? =some r) (ho:ops[i]? =some o) (hi:¬D i)
  (fe:∀j,Ord ops j i->D j) (gl:∀j,Ord ops i j->¬D j) (hD:∀j,D' j↔D j\/j=i) {K:Act->yi->Prop}
  (hK:∀st' c' m' S' w' a',Inv O ops rs b4 bO bI D' m0 S0 w0 n0 d0 st' c' m' S' w' a'->K a' w'):wpOpIn (WF ro) 0 O.P ops Q i K a w:=by
 have cO:=hG.of i r o hr ho;have TW:=atH hG hI.tm hr hi fe gl;have aO:=hG.run.step i r hr;have hd:∀d,r.dst=some d->d<a.tmps.size:=by
  rw [cO.dst];exact ads cO.ok (by rw [hI.size];exact hn)
 have kX:=hI.Zz;have jS:1<=bB r.op->i<=c:=by
  intro hk;rcases vC c i with ZC | ZC
  ·have Gn:i<rs.length:=(wv.1 hr).1;rcases hI.cut with h | ⟨⟨rc,ZB,mH⟩,KG⟩
   ·omega
   ·rcases hG.pair c i rc r ZC ZB hr with h | h
    ·exact (KG (fe c h)).elim
    ·exact ((abI h).1 ⟨mH,hk⟩).elim
  ·exact ZC
 have hwc:jV rs i->i=c:=by
  intro hw;obtain ⟨rw',h1,h2⟩:=hw;rw [hr] at h1;injection h1 with h1
  subst h1;have h3:=jS (by omega);rcases vd h3 with e | h3
  ·exact e
  ·rcases vC i st with g | g
   ·exact (hi (hI.before i g ⟨r,hr,h2⟩)).elim
   ·exact (hI.Gr i g h3 ⟨r,hr,h2⟩).elim
 have aW:1<=bB r.op->¬jV rs i->i<c:=by
  intro hk hw;rcases vd (jS hk) with e | h
  ·subst e;rcases hI.cut with h | h
   ·have Gn:i<rs.length:=(wv.1 hr).1;omega
   ·exact (hw h.1).elim
  ·exact h
 have mH:¬jV rs i->bB r.op=0\/i<c:=fun hw=>by
  rcases xp (bB r.op) with h | h
  ·exact .inl h
  ·exact .inr (aW h hw)
 unfold wpOpIn;simp only [ho];unfold e9 at aO
 cases PQ:pz (b4 i) r.guard with
 | none=>simp [PQ] at aO
 | some b=>
  have Zx:=acv cO.guard (fun t ht=>TW t (by simp [CI,ht])) PQ;rw [Zx]
  cases b with
  | false=>
   simp only [PQ,yd,yo] at aO;obtain ⟨hv,hh,hc⟩:=aO;simp only [yI,xg];refine ⟨fun _ _=>trivial,?_⟩;have dN:∀m S w,ah O.af m S w (vF i) undef:=fun m S w=>by rw [<-hv];simp [ah,ay,undef]
   rw [<-cO.dst];rcases uk (jV rs i) with hw | hw
   ·have e:=hwc hw;subst e;obtain ⟨c',BQ,h⟩:=aeJ hG hI hr hi fe gl hD hd hw (m':=m) (S':=S) (w':=w) (u:=undef) (by rw [<-hh,<-hc];exact hI.hp) (by omega) (dN _ _ _) (by rw [<-hh];exact ck.refl)
    exact hK _ _ _ _ _ _ h
   ·exact hK _ _ _ _ _ _ (RS hG hI hr hi fe gl hD hd hw (mH hw) (m':=m) (S':=S) (w':=w) (u:=undef) hI.hp dl.refl (fun _ _ h=> .inl h) (dN _ _ _) ck.refl)
  | true=>
   simp only [PQ] at aO;simp only [xE];have kB:=abf cO.op aO;have PR:b8 O m S w (cg (b4 i) (j8 r.op)) a.tmps:=fun t=>by
    rcases uk (t∈j8 r.op) with h | h
    ·rw [Mw h];exact TW t (by simp [CI,h])
    ·have:ai (cg (b4 i) (j8 r.op)) t= .undef:=by
      clear TW aO;revert h;generalize j8 r.op=l;intro h
      induction l with
      | nil=>rfl
      | cons x l ih=>
       simp only [cg,ai];have hx:yv x t=false:=by
        cases hq:yv x t with
        | false=>rfl
        | true=>exact absurd (by rw [yp hq];exact wF) h
       rw [hx];exact ih (fun h'=>h (we _ h'))
     rw [this];simp only [ah]
   have DR:bf O.prog O.aC self (cg (b4 i) (j8 r.op)) (bO i) (bI i) (iZ r.op)=some (vF i,bO (i+1),bI (i+1)):=
    apX (fun t ht=>Mw ht) aO
   have ahR:¬jV rs i->iZ r.op=r.op:=fun hw=>arL (fun h=>hw ⟨r,hr,h⟩)
   have now:¬jV rs i->bA (cg (b4 i) (j8 r.op)) (bO c) r.op=some (vF i)->Oper.wpIn (WF ro) 0 O.P o a w K Q:=by
    intro hw jU;have jg:∃k,r.op=aX O.P H k o:=by
     rcases cO.op with h | ⟨cc,f,rr,_,_,h⟩ | ⟨_,_,_,_,_,_,_,h⟩ | ⟨_,_,_,_,_,_,_,h⟩ | ⟨_,_,_,_,_,_,h⟩
     ·exact h
     ·rw [h] at jU;simp [bA] at jU
     ·rw [h] at jU;simp [bA] at jU
     ·rw [h] at jU;simp [bA] at jU
     ·rw [h] at jU;simp [bA] at jU
    obtain ⟨k,hk⟩:=jg;rw [hk] at jU;rw [hk] at PR;obtain ⟨u,h1,h2⟩:=aet hH PR hI.hp jU;refine IC kB h1 (.inl rfl) ?_;rw [<-cO.dst];exact hK _ _ _ _ _ _ (RS hG hI hr hi fe gl hD hd hw (mH hw) hI.hp dl.refl (fun _ _ h=> .inl h) h2 ck.refl)
   rcases uk (jV rs i) with hw | hw
   ·have e:=hwc hw;subst e;refine adr hC hH (aoT cO.op) kB DR PR hI.hp (fun u m' S' w' k1 k2 k3 k4=>?_);rw [<-cO.dst];obtain ⟨c',BQ,h⟩:=aeJ hG hI hr hi fe gl hD hd hw k1 k2 k3 k4;exact hK _ _ _ _ _ _ h
   ·rcases xp (bB r.op) with hk | hk
    ·have DR:=ahR hw▸DR;obtain ⟨h1,_,_⟩:=adt (.inl hk) DR;exact now hw (by rw [apO hk (bO c) (bO i)];exact h1)
    ·have Gg:=aW hk hw;rcases vC i st with TX | TX
     ·
      rcases hI.nC with h0 | h0
      ·omega
      ·have bc:D (st-1):=hI.before _ (by omega) h0;have dd:i≠st-1:=fun e=>hi (e▸bc)
       obtain ⟨rp,hrp,hkp⟩:=h0;rcases hG.pair i (st-1) r rp (by omega) hr hrp with h | h
       ·exact (gl _ h bc).elim
       ·obtain ⟨hg,sz,ag,t,jg⟩:=(abI h).2 hk hkp;have hl:=aa3 (c:=c) hG hr hi ⟨hg,jg⟩ hI.cn (fun j hj DP=>by
         rcases vC j st with g | g
         ·exact hI.before j g DP
         ·exact (hI.Gr j g hj DP).elim) gl hI.Gs (c-(i+1)) (by omega)
        rw [show i+1+(c-(i+1))=c by omega] at hl;refine now hw ?_;rw [jg];simp only [bA,aA];rw [Mw (by simp [j8,iY])];exact hl
     ·have iB:=Mc hG hI (x:=i+1) (y:=c) (by omega) Gg (yu _);have KS:=Mc hG hI (x:=st) (y:=i) (yu _) TX (by omega)
      refine quiet_step (Hq:=bO c) (cH:=bI c) hC hH (Iq hr hw) cO.op kB (ahR hw▸DR) iB.le iB.pW (hI.Gs i (by omega)) ?_ PR hI.hp (fun u m' S' w' k1 k2 k3 k4 k5=>?_)
      ·intro id h1 h2
       cases hm:m id with
       | none=>rfl
       | some p=>
        rcases hI.ZA id p hm with h | ⟨j,q1,q2,q3,q4,q5⟩
        ·have:=KS.pW;omega
        ·rcases Nat.lt_trichotomy j i with g | g | g
         ·have:=(Mc hG hI (x:=j+1) (y:=i) (by omega) g (by omega)).pW;omega
         ·subst g;exact (hi q3).elim
         ·have:=(Mc hG hI (x:=i+1) (y:=j) (by omega) g (by omega)).pW;omega
      ·rw [<-cO.dst];exact hK _ _ _ _ _ _ (RS hG hI hr hi fe gl hD hd hw (.inr Gg) k1 k2 (fun id p h=>(k3 id p h).imp (fun h=>h) (fun h=>⟨TX,Gg,h.1,h.2⟩)) k4 k5)
def left (n:Nat) (listed:Array Bool):Nat:=(List.range n).countP fun i=> !listed.getD i false
def arN {n:Nat} {listed:Array Bool} {i:Nat} (hi:i<n) (hs:listed.size=n) (hl:listed.getD i true=false):left n (listed.setIfInBounds i true)+1=left n listed:=by
 have key:∀(l:List Nat),l.Nodup->(i∈l->(l.countP fun j=> !(listed.setIfInBounds i true).getD j false)+1=l.countP fun j=> !listed.getD j false)/\(i∉l->(l.countP fun j=> !(listed.setIfInBounds i true).getD j false)=l.countP fun j=> !listed.getD j false):=by
  intro l
  induction l with
  | nil=>intro _;exact ⟨fun h=>(by cases h),fun _=>rfl⟩
  | cons x l ih=>
   intro kB;have hx:x≠i->(listed.setIfInBounds i true).getD x false=listed.getD x false:=fun h=>getD_set_ne false (ybL h)
   refine ⟨fun hm=>?_,fun hm=>?_⟩
   ·rw [yaP,yaP];by_cases e:x=i
    ·simp_all
    ·grind
   ·grind
 exact (key _ List.nodup_range).1 (List.mem_range.2 hi)
def apY {n:Nat} {listed:Array Bool} (h:left n listed=0):∀i,i<n->listed.getD i false=true:=by
 unfold left at h
 simp_all
def apZ {listed:Array Bool} (hs:listed.size=ops.size) (hb:∀(i:Nat) (o:yX),ops[i]? =some o->∀e,e∈o.after->Region.binds .any e=true->e.on<i) (h:Region.ready .any ops listed=[]):∀i,i<ops.size->listed.getD i false=true:=by
 intro i
 induction i using vQ with
 | _ i ih=>
  intro hi
  cases hq:listed.getD i false with
  | true=>rfl
  | false=>
   have:i∈Region.ready .any ops listed:=by
    refine mem_ready.2 ⟨?_,ops[i],by simp [hi],fun e he sK=>?_⟩
    ·have aW:i<listed.size:=by omega
     simp only [vh,aW,Array.getElem?_eq_getElem,ue] at hq ⊢;exact hq
    ·have:=hb i ops[i] (by simp [hi]) e he sK
     exact ih e.on this (by omega)
   rw [h] at this;cases this
def atI (hG:r5 O H self ops rs b4 bO bI vF) (hI:Inv O ops rs b4 bO bI D m0 S0 w0 n0 d0 st c m S w a) (mu:∀i,i<rs.length->D i):
  aU O m S w (bO rs.length) (bI rs.length)/\b8 O m S w (b4 rs.length) a.tmps/\ck m0 S0 w0 (bO 0) m S w (bO rs.length) (bI 0)/\bI 0<=bI rs.length:=by
 have hc:c=rs.length:=by
  rcases hI.cut with h | ⟨⟨r,h1,_⟩,h2⟩
  ·grind
  ·grind
 subst hc;refine ⟨hI.hp,fun t=>?_,hI.PP,hI.ge⟩;obtain ⟨j,h1,h2,h3⟩:=hI.tm t;obtain ⟨k,hk⟩:∃k,rs.length=j+k:=⟨rs.length-j,by omega⟩
 have:=H4 (t:=t) (i:=j) hG.run k (by omega) (fun l r g1 g2 hl hd=>by
  have:=(h2 l r hl hd).1 (mu l (wv.1 hl).1)
  omega)
 grind
def av5 (hC:nR O self) (hH:fw O H) (hG:r5 O H self ops rs b4 bO bI vF) (hn:H.n<=n0)
  (hQ:∀a' m' S' w',aU O m' S' w' (bO rs.length) (bI rs.length)->bI 0<=bI rs.length->b8 O m' S' w' (b4 rs.length) a'.tmps->ck m0 S0 w0 (bO 0) m' S' w' (bO rs.length) (bI 0)->a'.tmps.size=n0->a'.defers=d0->Q .normal a' w'):
  ∀(bq:Nat) (listed:Array Bool) (st c:Nat) (m:Mp) (S:Nat->Prop) (w:yi) (a:Act),listed.size=ops.size->left ops.size listed=bq->SP ops (fun i=>listed.getD i false=true)->
   Inv O ops rs b4 bO bI (fun i=>listed.getD i false=true) m0 S0 w0 n0 d0 st c m S w a->wpAnyIn (WF ro) 0 O.P .any ops Q bq listed a w:=by
 have fin:∀(listed:Array Bool) (st c:Nat) (m:Mp) (S:Nat->Prop) (w:yi) (a:Act),Inv O ops rs b4 bO bI (fun i=>listed.getD i false=true) m0 S0 w0 n0 d0 st c m S w a->(∀i,i<ops.size->listed.getD i false=true)->Q .normal a w:=by
  intro listed st c m S w a hI mu;obtain ⟨h1,h2,h3,h4⟩:=atI hG hI (fun i hi=>mu i (by rw [<-hG.len];exact hi))
  exact hQ a m S w h1 h4 h2 h3 hI.size hI.defers
 intro bq
 induction bq with
 | zero=>
  intro listed st c m S w a hs hl hc hI;have mu:=apY hl;refine ⟨?_,fin listed st c m S w a hI mu⟩;rw [List.eq_nil_iff_forall_not_mem];intro i hm;obtain ⟨h1,o,ho,_⟩:=mem_ready.1 hm
  grind
 | succ bq ih=>
  intro listed st c m S w a hs hl hc hI;refine ⟨fun h=>fin listed st c m S w a hI (apZ hs hG.back h),fun i hm=>?_⟩;obtain ⟨h1,o,ho,h2⟩:=mem_ready.1 hm;have hi:i<ops.size:=(xz.1 ho).1;have hr:rs[i]? =some (rs[i]'(by rw [hG.len];exact hi)):=by simp [hG.len,hi]
  have aW:i<listed.size:=by omega
  have Gt:¬listed.getD i false=true:=by
   grind
  have hD:∀j,(listed.setIfInBounds i true).getD j false=true↔listed.getD j false=true\/j=i:=by
   intro j;by_cases e:j=i
   ·simp_all
   ·rw [getD_set_ne false (ybL e)];simp [e]
  refine arM hC hH hG hn hI hr ho Gt (acx hc i o ho h2) (fun j hj KR=>?_) hD (fun st' c' m' S' w' a' ZD=>ih (listed.setIfInBounds i true) st' c' m' S' w' a' (by simp [hs]) ?_ ?_ ZD)
  ·have hjl:j<ops.size:=by
    grind
   exact Gt (arK hc (show ops[j]? =some ops[j] by simp [hjl]) KR hj)
  ·have:=arN hi hs h1
   omega
  ·intro j oj hoj hj e he hb;rw [hD];rcases (hD j).1 hj with g | g
   ·exact .inl (hc j oj hoj g e he hb)
   ·grind
end
end
section
open Go
def aoV {F:Fence} {n:Nat} {P:y5} {Q:uy->Act->yi->Prop} {a:Act} {w:yi} {c:wY} (h:c.wpIn F n P Q a w) (hg:∀l a w,¬Q (.goto l) a w):(Code.scope c).wpIn F n P Q a w:=by
 intro b k cs cO hb hr;have h0:(lone (b.atR a (.code (.scope c)::k)) cs w).fenced P F:=fenced_calm hb hr rfl;have s0:step P (lone (b.atR a (.code (.scope c)::k)) cs w)= .next (lone (b.atR a (.code c:: .inScope c::k)) cs w):=step_lone_go (by simp [stepG,stepG.exec,Frame.atR]);obtain ⟨e,a₁,w₁,hq,Dh⟩:=h b (.inScope c::k) cs cO hb hr;have hx:∀id,exitTo id (.inScope c::k)=exitTo id k:=fun id=>by simp [exitTo]
 cases e with
 | normal=>
  have s1:step P (lone (b.atR a₁ (.inScope c::k)) cs w₁)= .next (lone (b.atR a₁ k) cs w₁):=step_lone_go (by simp [stepG,stepG.exec,Frame.atR]);exact ⟨.normal,a₁,w₁,hq,.head h0 s0 (StepsIn.trans Dh (.one (fenced_calm hb hr rfl) s1))⟩
 | exit id=>
  exact ⟨.exit id,a₁,w₁,hq,fun k' hk=> .head h0 s0 (Dh.1 k' (by rw [hx];exact hk)),fun bP hk=>let ⟨k₁,h1,h2⟩:=Dh.2 bP (by rw [hx];exact hk);⟨k₁,h1,.head h0 s0 h2⟩⟩
 | goto l=>exact (hg _ _ _ hq).elim
 | ret=>exact ⟨_,a₁,w₁,hq,.of_steps (.one h0 s0) Dh⟩
 | panic ch=>exact ⟨_,a₁,w₁,hq,.of_steps (.one h0 s0) Dh⟩
 | outgrown=>exact ⟨_,a₁,w₁,hq,.of_steps (.one h0 s0) Dh⟩
def qQ:Ex->uy
 | .normal=> .normal
 | .ret=> .ret
 | .exit id=> .exit id
def Marks (lo:Nat) (S:Nat->Prop) (w:yi) (ds:List tx):Prop:=∃rs:List Nat,ds=rs.map (fun r=>{target:= .collected r,args:=#[]})/\rs.Nodup/\
 ∀r,r∈rs->w.heap[r]? =some (.deferred (some []))/\¬S r/\lo<=r
def zy (ro:Option Nat) (w:yi):Prop:=∀l,ro=some l->∃r:uR,w.heap[l]? =some (.loop r)
section
variable {O:bl} {m:Mp} {S:Nat->Prop} {w:yi} {hp:Hp} {ct:Nat}
def adu (hh:aU O m S w hp ct) {b:Nat} (h:ek m hp b):∀x,w.heap[b]?≠some (.deferred x):=by
 intro x hx;obtain ⟨id,o,p,h1,h2,rfl⟩:=h;have h3:=hh.obj id o p h1 h2
 cases o with
 | cells rw pu ex sz cs=>obtain ⟨q,arr,t,g1,g2,_⟩:=h3;rw [h2] at g1;injection g1 with g1;subst g1;rw [hx] at g2;cases g2
 | mp rw ks vs=>obtain ⟨q,es,clock,g1,g2,_⟩:=h3;rw [h2] at g1;injection g1 with g1;subst g1;rw [hx] at g2;cases g2
 | si s pos=>obtain ⟨q,t,g1,g2,_⟩:=h3;rw [h2] at g1;injection g1 with g1;subst g1;rw [hx] at g2;cases g2
 | lp tm ps cM body st pe=>obtain ⟨q,l,hi,g1,g2,_⟩:=h3;rw [h2] at g1;injection g1 with g1;subst g1;rw [hx] at g2;cases g2
def AO (hh:aU O m S w hp ct) {m':Mp} {S':Nat->Prop} {w':yi} {aj:Hp} {base lo:Nat} (hf:ck m S w hp m' S' w' aj base) {ds:List tx} (h:Marks lo S w ds):Marks lo S' w' ds:=by
 obtain ⟨rs,h1,h2,h3⟩:=h;refine ⟨rs,h1,h2,fun r hr=>?_⟩;obtain ⟨this,h4,h5⟩:=h3 r hr;have aW:=(xz.1 this).1;have oG:¬ek m hp r:=fun ho=>adu hh ho _ this
 refine ⟨(hf.same r aW oG).trans this,fun hs=>?_,h5⟩;rcases hf.new r hs with h | h | h
 ·grind
 ·grind
 ·omega
def Me {m':Mp} {S':Nat->Prop} {w':yi} {aj:Hp} {base:Nat} {ro:Option Nat} (hf:ck m S w hp m' S' w' aj base) (h:zy ro w):zy ro w':=fun l hl=>
 let ⟨r,hr⟩:=h l hl
 hf.loops l r hr
def eR (O:bl) (m:Mp) (S:Nat->Prop) (w:yi) (s:St) (ex:Ex) (s':St) (n lo:Nat) (e:uy) (a':Act) (w':yi):Prop:=
 e=qQ ex/\∃m' S',b8 O m' S' w' s'.tm a'.tmps/\aU O m' S' w' s'.hp s'.ct/\s'.base=s.base/\s.base<=s'.ct/\ck m S w s.hp m' S' w' s'.hp s.base/\a'.tmps.size=n/\Marks lo S' w' a'.defers
def Bh (O:bl) (h:Nat) (c:wY) (s:St) (ex:Ex) (s':St):Prop:=
 ∀(ro:Option Nat) (lo:Nat) (m:Mp) (S:Nat->Prop) (w:yi) (a:Act),zy ro w->b8 O m S w s.tm a.tmps->aU O m S w s.hp s.ct->s.base<=s.ct->(O.hint h).n<=a.tmps.size->O.w0.heap.size<=lo->lo<=w.heap.size->Marks lo S w a.defers->
  c.wpIn (WF ro) 0 O.P (eR O m S w s ex s' a.tmps.size lo) a w
structure eP (O:bl):Prop where
 hint:∀h,fw O (O.hint h)
 mixed:O.P.follows .mixedOrders=true
 prog:∀n F,O.prog n=some F->∃fn,O.P.funcs[O.af n]? =some fn/\EI O.P (O.hint n) fn=some F/\fn.name≠ "runtime.NumGoroutine"
 aC:∀n sp av r,O.aC.pure n=some sp->sp av=some r->eD O n av r
 Fl:∀n sp hp ct av v aj aM,O.aC.heap n=some sp->sp hp ct av=some (v,aj,aM)->Bg O n hp ct av v aj aM
def Ie {P:y5} {H:Hint} {ops:Array yX}:∀(rs:List a8) (l:List yX) (done:List a8) (ms:List Nat),gj P H ops rs l->gj P H ops (mV done rs ms) l
 | [],l,done,ms,h=>by
  cases ms<;>simpa only [mV] using h
 | r::rs,[],done,ms,h=>by simp [gj] at h
 | r::rs,o::l,done,[],h=>by
  obtain ⟨d,g,op⟩:=r;cases op<;>simpa only [mV] using h
 | r::rs,o::l,done,m::ms,h=>by
  simp only [gj] at h;obtain ⟨h1,h2⟩:=h;obtain ⟨d,g,op⟩:=r
  cases op with
  | iW DO f xs=>
   simp only [mV,gj];refine ⟨?_,Ie rs l _ ms h2⟩;rcases h1 with h1 | ⟨_,h1⟩
   ·refine .inl ⟨?_,h1.dst,h1.ok,h1.guard⟩;obtain ⟨c,f',g1,g2,g3,g4⟩:=RN h1.op;rw [g3,g4];exact .inr (.inl ⟨c,f',_,g1,g2,rfl⟩)
   ·simp [bad] at h1
  | st sz x y=>
   simp only [mV,gj];refine ⟨?_,Ie rs l _ ms h2⟩;rcases h1 with h1 | ⟨_,h1⟩
   ·refine .inl ⟨?_,h1.dst,h1.ok,h1.guard⟩;unfold stOp
    split
    ·exact h1.op
    ·obtain ⟨t,x',y',g1,g2,g3,g4⟩:=azQ h1.op;exact .inr (.inr (.inl ⟨t,x',y',sz,_,g1,g2,by rw [g3,g4]⟩))
   ·simp [bad] at h1
  | aR sz b x y=>
   simp only [mV,gj];refine ⟨?_,Ie rs l _ ms h2⟩;rcases h1 with h1 | ⟨_,h1⟩
   ·refine .inl ⟨?_,h1.dst,h1.ok,h1.guard⟩;unfold ajO
    split
    ·exact h1.op
    ·obtain ⟨k,hk⟩:=ahQ h1.op;exact .inr (.inr (.inr (.inl ⟨k,_,sz,b,x,y,hk,rfl⟩)))
   ·simp [bad] at h1
  | _=>
   simp only [mV,gj];exact ⟨h1,Ie rs l _ ms h2⟩
def adv {P:y5} {H:Hint} {ops:Array yX}:∀(rs:List a8) (l:List yX) (done:List a8),gj P H ops rs l->gj P H ops (E7 done rs) l
 | [],[],_,h=>h
 | [],_::_,_,h=>by simp [gj] at h
 | r::rs,[],done,h=>by simp [gj] at h
 | r::rs,o::l,done,h=>by
  simp only [gj] at h;obtain ⟨h1,h2⟩:=h;simp only [E7,gj];refine ⟨?_,adv rs l _ h2⟩;obtain ⟨d,g,op⟩:=r
  cases op with
  | aR sz b x y=>
   simp only
   cases ahM done x with
   | false=>exact h1
   | true=>
    simp only [yA];rcases h1 with h1 | ⟨_,h1⟩
    ·refine .inl ⟨?_,h1.dst,h1.ok,h1.guard⟩;obtain ⟨k,hk⟩:=ahQ h1.op;exact .inr (.inr (.inr (.inr ⟨k,sz,b,x,y,hk,rfl⟩)))
    ·simp [bad] at h1
  | _=>exact h1
end
section
variable {O:bl} {self:cA}
def adw {P:y5} {H:Hint} {ops:Array yX}:∀{rs:List a8} {l:List yX},gj P H ops rs l->rs.length=l.length/\∀(i:Nat) (r:a8) (o:yX),rs[i]? =some r->l[i]? =some o->NB P H ops r o\/(r.guard=none/\r.op=bad)
 | [],[],_=>⟨rfl,fun i r o h=>by simp at h⟩
 | [],_::_,h=>by simp [gj] at h
 | _::_,[],h=>by simp [gj] at h
 | r::rs,o::l,h=>by
  obtain ⟨h1,h2⟩:=adw h.2;refine ⟨by simp [h1],fun i r' o' hr ho=>?_⟩
  cases i with
  | zero=>simp at hr ho;subst hr;subst ho;exact h.1
  | succ i=>exact h2 i r' o' (by simpa using hr) (by simpa using ho)
def ap0 {m:Mp} {S:Nat->Prop} {w:yi} {hp:Hp} {ct:Nat} (hh:aU O m S w hp ct):Calm w {w with drawn:=w.drawn+1}:=⟨rfl,rfl,rfl,yu _,fun _ _=>rfl⟩
def av6 (hO:eP O) (hC:nR O self) (h:Nat) (id:Nat) (ops:Array yX) (draw:Bool) (k:Nat) {s s':St} (hv:dI O.prog O.aC self (MN O.P (O.hint h) ops draw k).1 s=some s'):Bh O h (.region id ops draw) s .normal s':=by
 intro ro lo m S w a cO ht hh hb hn bh fj cN;unfold MN at hv;have PS:=abG (P:=O.P) (H:=O.hint h) (ops:=ops) ops.toList k;generalize hq:CC O.P (O.hint h) ops ops.toList k=q at hv PS;obtain ⟨l,k'⟩:=q;simp only at hv PS;have post:∀{a':Act} {m':Mp} {S':Nat->Prop} {w':yi},aU O m' S' w' s'.hp s'.ct->s.ct<=s'.ct->b8 O m' S' w' s'.tm a'.tmps->ck m S w s.hp m' S' w' s'.hp s.ct->a'.tmps.size=a.tmps.size->a'.defers=a.defers->s'.base=s.base->eR O m S w s .normal s' a.tmps.size lo .normal a' w':=by
  intro a' m' S' w' h1 h2 h3 h4 h5 h6 h7;exact ⟨rfl,m',S',h3,h1,h7,by omega,h4.r9 hb,h5,by rw [h6];exact AO hh h4 cN⟩
 cases draw with
 | false=>
  simp only [yT] at hv;refine wpIn_region ?_;rw [List.range_eq_range'];have hl:ops.size=ops.toList.length:=by simp
  rw [hl];exact aeG hC (hO.hint h) ops.toList l 0 s s' a m S w (fun j=>by simp) PS hv ht hh hn (fun a' m' S' w' h1 h2 h3 h4 h5 h6 h7=>post h1 h2 h3 h4 h5 h6 h7)
 | true=>
  simp only [yA] at hv;have ZE:∃rs,(AM ops.toList 0&&zm [] rs (kM [] ops.toList))=true/\gj O.P (O.hint h) ops rs ops.toList/\dI O.prog O.aC self rs s=some s':=by
   have NZ:=Ie l ops.toList [] (kM [] ops.toList) PS
   cases nB:(AM ops.toList 0&&zm [] (mV [] l (kM [] ops.toList)) (kM [] ops.toList)) with
   | true=>
    rw [nB] at hv;exact ⟨_,nB,NZ,hv⟩
   | false=>
    rw [nB] at hv;simp only [yT] at hv
    cases TY:(AM ops.toList 0&&zm [] (E7 [] (mV [] l (kM [] ops.toList))) (kM [] ops.toList)) with
    | true=>
     rw [TY] at hv;exact ⟨_,TY,adv _ _ _ NZ,hv⟩
    | false=>
     rw [TY] at hv;simp [dI,bad,bf,eB,aA] at hv
  clear hv;obtain ⟨rs,nB,NZ,hv⟩:=ZE
  ·simp only [yg] at nB;obtain ⟨hlen,au⟩:=adw NZ;obtain ⟨b4,bO,bI,vF,hR,e1,e2,e3,e4,e5,e6,e7⟩:=aeH hv;have hG:r5 O (O.hint h) self ops rs b4 bO bI vF:=by
    refine ⟨hR,by rw [hlen];simp,fun i r o hr ho=>?_,fun i j x y BV hx hy=>?_,fun i o ho e he hbd=>?_⟩
    ·rcases au i r o hr (by simpa using ho) with g | ⟨g1,g2⟩
     ·exact g
     ·have:=hR.step i r hr
      simp [e9,g1,pz,g2,bad,bf,eB,aA] at this
    ·obtain ⟨mm,g1,g2⟩:=aa2 (done:=[]) (i:=i) (j:=j) (a:=x) (b:=y) nB.2 (by simpa using hx) hy (by simpa using BV);refine g2.imp (fun g=>?_) (fun g=>by simpa using g);unfold Ord;rw [y9,g1];exact g
    ·have:=aaX nB.1 (j:=i) (o:=o) (by simpa using ho) e he hbd
     omega
   refine wpIn_region_any hO.mixed ?_;have Jf:=ap0 hh;have ia:=Cx hh Jf (S':=S) (fun _ h=>h) (fun _ h=> .inl h) hh.slt
   have Gm:ck m S w s.hp m S {w with drawn:=w.drawn+1} s.hp (bI 0):=AR hh Jf (fun _ h=>h) (fun _ h=> .inl h);obtain ⟨c,c1,c2,c3,c4⟩:=SQ rs rs.length 0 (by omega);have hg:∀k',k'<=c->iG (bO 0) (bI 0) (bO (0+k')) (bI (0+k')):=fun k' nt=>
    Mb hR (by rw [e2,e3];exact hh.aW) k' (by omega) (fun j r g1 g2 hr=>Iq hr (c3 j g1 (by omega)))
   have iB:=hg c (yu _);rw [ye] at iB;obtain ⟨S1,g1,g2,g3,g4⟩:=Mu (by rw [e2,e3];exact ia:aU O m S {w with drawn:=w.drawn+1} (bO 0) (bI 0)) iB
   have rZ:∀i,(uT ops.size false).getD i false=true->False:=fun i hi=>by
    simp only [vh] at hi;by_cases aW:i<ops.size
    ·simp [aW] at hi
    ·rw [Array.getElem?_eq_none (by simpa using aW)] at hi;simp at hi
   refine av5 (m0:=m) (S0:=S) (w0:=w) (n0:=a.tmps.size) (d0:=a.defers) hC (hO.hint h) hG hn (fun a' m' S' w' h1 h2 h3 h4 h5 h6=>?_) ops.size _ 0 c m S1 _ a (by simp) ?_ (fun j o _ hj=>(rZ j hj).elim) ?_
   ·rw [e5,e6] at h1;rw [e3,e6] at h2;rw [e4] at h3;rw [e2,e3,e5] at h4;exact post h1 h2 h3 h4 h5 h6 e7
   ·unfold left;rw [List.countP_eq_length.2]
    ·simp
    ·intro i hi;simp only [uC]
     cases hq:(uT ops.size false).getD i false with
     | false=>rfl
     | true=>exact (rZ i hq).elim
   ·refine ⟨uf _,c2,fun i hi=>by omega,c3,c4.imp (fun h=>h) (fun h=>⟨h,fun hd=>rZ c hd⟩),fun i r _ _ _ hd=>rZ i hd,g1,fun id p hp=> .inl (by rw [e3];exact hh.lt id p hp),fun t=>⟨0,uf _,fun i r _ _=>⟨fun hd=>(rZ i hd).elim,fun h=>by omega⟩,?_⟩,?_,iB.pW,rfl,rfl,.inl rfl,fun j hj=>?_⟩
    ·rw [e1];exact lz (fun _ _ h=>h) (fun b hb=>g2 b hb) (fun b hb=>Jf.same b (hh.slt b hb)) _ _ (ht t)
    ·rw [e2];have g5:=g4 (bI 0);rw [e2] at g5;exact Gm.trans g5
    ·have:=(hg j hj).lt
     rw [ye] at this;exact this
end
end
section
open Go
section
variable {O:bl} {m:Mp} {S:Nat->Prop} {w:yi} {hp:Hp} {ct:Nat}
def abJ (hh:aU O m S w hp ct) {g:Nat} {w':yi} (hw:One w w' g) (hg:¬S g) (ho:¬ek m hp g) (bh:O.w0.heap.size<=g):aU O m S w' hp ct:=by
 have aO:fK S w w':=fun b hb=>hw.other b (fun e=>hg (e▸hb))
 refine ⟨fun id o p h1 h2=>?_,hh.lt,hh.inj,fun b hb=>by rw [hw.size];exact hh.slt b hb,fun id p h=>by rw [hw.size];exact hh.blt id p h,hh.low,fun b hb=>?_,by rw [hw.size];exact hh.fU,hh.aW⟩
 ·exact rG (fun _ _ h=>h) (fun _ h=>h) aO (fun q hq=>hw.other _ (fun e=>ho ⟨id,o,q,h1,hq,e⟩)) (fun _ _ h=>h) (hh.obj id o p h1 h2)
 ·rw [hw.other b (by omega)];exact hh.lJ b hb
def abK {P:y5} {b:Nat} {o:tu} (h:w.heap[b]? =some o) (hc:∀c t f,o≠.cells c t f):(getObj b).run P w= .ok o w:=by
 simp only [getObj,Sem.run,h]
def LX {P:y5} {b:Nat} {o x:tu} (h:w.heap[b]? =some o) (hc:∀c t f,o≠.cells c t f):(setObj b x).run P w= .ok () {w with heap:=w.heap.setIfInBounds b x}:=by
 simp only [setObj,Sem.run,h]
def HP {P:y5} {b:Nat} {r:uR} (h:w.heap[b]? =some (.loop r)):(Instr.getLoop b).run P w= .ok r w:=by
 simp only [Instr.getLoop,Sem.run_bind,abK (P:=P) h (fun _ _ _=>by simp),Result.andThen_ok,Sem.run_pure]
def Ir (hh:aU O m S w hp ct) {l:Nat} {tm:Env} {ps:List Nat} {cM body:VC} {st:Nat} {pe:zQ} {p:Pl} (hg:au hp l=some (.lp tm ps cM body st pe)) (hm:m l=some p):
  ∃(r:uR) (h:Nat),w.heap[p.b]? =some (.loop r)/\¬S p.b/\r.state=Bo st/\st<=2/\r.pending=zx pe/\b8 O m S w tm r.tmps/\r.params.toList=ps/\BP O.P (O.hint h) cM r.assign/\BP O.P (O.hint h) body r.body/\
   (O.hint h).n<=r.tmps.size/\zF (O.hint h).n ps=true:=by
 obtain ⟨q,r,h,g1,g2,g3⟩:=hh.obj l _ p hg hm
 grind
def acz (hh:aU O m S w hp ct) {l:Nat} {tm:Env} {ps:List Nat} {cM body:VC} {st:Nat} {pe:zQ} {p:Pl} (hg:au hp l=some (.lp tm ps cM body st pe)) (hm:m l=some p) {r:uR} (hr:w.heap[p.b]? =some (.loop r))
  {st':Nat} {pe':zQ} (h2:st'<=2):
  aU O m S {w with heap:=w.heap.setIfInBounds p.b (.loop {r with state:=Bo st',pending:=zx pe'})} (a7 hp l (.lp tm ps cM body st' pe')) ct/\
  ck m S w hp m S {w with heap:=w.heap.setIfInBounds p.b (.loop {r with state:=Bo st',pending:=zx pe'})} (a7 hp l (.lp tm ps cM body st' pe')) ct:=by
 obtain ⟨r',h,g1,g2,g3,g4,g5,g6,g7,g8,g9,g10,g11⟩:=Ir hh hg hm;rw [hr] at g1;injection g1 with g1
 injection g1 with g1
 subst g1;have eh:=Ek w p.b (.loop {r with state:=Bo st',pending:=zx pe'})
 refine Ib hh hg hm g2 eh ⟨p,{r with state:=Bo st',pending:=zx pe'},h,hm,LS hr,g2,rfl,h2,rfl,?_,g7,g8,g9,g10,g11⟩ (fun _ _=>⟨_,LS hr⟩);exact AN (fun _ _ h=>h) (fun _ h=>h) (fun b hb=>eh.other b (fun e=>g2 (e▸hb))) g6
def acA {n:Nat}:∀{ps:List Nat} {vs:List AV} {us:List yh} {tm tm':Env} {tmps:Array yh},rS tm ps vs=some tm'->ay O.af m S w vs us->b8 O m S w tm tmps->n<=tmps.size->zF n ps=true->
  ps.length=us.length/\b8 O m S w tm' ((ps.zip us).foldl (fun t (x:Nat×yh)=>t.setIfInBounds x.1 x.2) tmps)/\((ps.zip us).foldl (fun t (x:Nat×yh)=>t.setIfInBounds x.1 x.2) tmps).size=tmps.size
 | [],[],us,tm,tm',tmps,h,hr,ht,hn,ha=>by
  simp only [rS,yd] at h;simp only [ay] at hr
  simp_all
 | [],_::_,us,tm,tm',tmps,h,hr,ht,hn,ha=>by simp [rS] at h
 | _::_,[],us,tm,tm',tmps,h,hr,ht,hn,ha=>by simp [rS] at h
 | p::ps,v::vs,us,tm,tm',tmps,h,hr,ht,hn,ha=>by
  simp only [rS] at h;obtain ⟨u,t,rfl,h1,h2⟩:=hr;simp only [zF,yg] at ha;have hp:=zo.1 ha.1;have ht1:b8 O m S w ((p,v)::tm) (tmps.setIfInBounds p u):=RQ (a:=⟨tmps,[]⟩) (d:=some p) ht (fun i hi=>by injection hi with hi;show i<tmps.size;omega) h1
  obtain ⟨g1,g2,g3⟩:=acA (n:=n) h h2 ht1 (by simpa using hn) ha.2
  simp_all
def arO (ps:Array Tmp) (args:Array yh) (tmps:Array yh):(ps.zip args).foldl (fun tmps (x:Tmp×yh)=>tmps.setIfInBounds x.1 x.2) tmps=(ps.toList.zip args.toList).foldl (fun t (x:Nat×yh)=>t.setIfInBounds x.1 x.2) tmps:=by
 rw [<-Array.foldl_toList,Array.toList_zip]
def an2 {P:y5} {b:Nat} {r:uR} (h:w.heap[b]? =some (.loop r)) (jump:Option wY):
  (Instr.endRound b jump).run P w= .ok (.bool jump.isNone) {w with heap:=w.heap.setIfInBounds b (.loop {r with state:=if jump.isNone then .ready else .done,pending:=jump})}:=by
 simp only [Instr.endRound,Sem.run_bind,HP h,Result.andThen_ok,LX (P:=P) h (fun _ _ _=>by simp),Sem.run_pure]
def anP {P:y5} {b:Nat} {r:uR} (h:w.heap[b]? =some (.loop r)) (hs:r.state= .ready):
  (Instr.beginRound b).run P w= .ok () {w with heap:=w.heap.setIfInBounds b (.loop {r with state:= .busy})}:=by
 simp only [Instr.beginRound,Sem.run_bind,HP h,Result.andThen_ok,LX (P:=P) h (fun _ _ _=>by simp),hs,Sem.run_pure]
def arP {self:cA} (hS:∀v s ex s',self v s=some (ex,s')->∀c h l k,(comp O.P (O.hint h) c l k).1=v->Bh O h c s ex s') {l:Nat} {xs:List AV} {v:AV} {aj:Hp} {aM:Nat}
  (hv:nQ self hp ct l xs=some (v,aj,aM)):ahN O hp ct l xs v aj aM:=by
 intro m S w args p hh hm fV;unfold nQ at hv
 split at hv
 case h_2=>cases hv
 rename_i tm ps cM body pe hg;obtain ⟨r,h,g1,g2,g3,g4,g5,g6,g7,⟨ca,ka,g8⟩,⟨cb,kb,g9⟩,g10,g11⟩:=Ir hh hg hm
 cases hb:rS tm ps xs with
 | none=>simp [hb] at hv
 | some tm'=>
  simp only [hb] at hv;obtain ⟨b1,b2,b3⟩:=acA hb fV g6 g10 g11;rw [<-g7] at b1 b2 b3;have eT:args.size=r.params.size:=by
   grind
  let tmps:Array yh:=(r.params.zip args).foldl (fun tmps (x:Tmp×yh)=>tmps.setIfInBounds x.1 x.2) r.tmps
  have ajW:tmps=(r.params.toList.zip args.toList).foldl (fun t (x:Nat×yh)=>t.setIfInBounds x.1 x.2) r.tmps:=arO _ _ _;refine ⟨r.fn,tmps,r.assign,r.body,?_,?_⟩
  ·simp only [Instr.yield,Sem.run_bind,HP g1,Result.andThen_ok,eT,ug,ybV,xg,Sem.run_pure];rfl
  refine roundIn_of_wpIn (F:=Fence.wide) trivial ?_
  cases h1:self cM ⟨tm',hp,ct,ct⟩ with
  | none=>simp [h1] at hv
  | some q=>
   obtain ⟨ex1,s1⟩:=q
   cases ex1 with
   | ret=>simp [h1] at hv
   | exit id=>simp [h1] at hv
   | normal=>
    simp only [h1] at hv;have ew:=hS _ _ _ _ h1 r.assign h ca ka g8;have cO:∀w',ck m S w hp m S w' hp ct->zy (some p.b) w':=fun w' hf=>Me hf (fun l hl=>⟨r,by injection hl with hl;subst hl;exact g1⟩)
    refine wpIn_mono (ew (some p.b) w.heap.size m S w ⟨tmps,[]⟩ (cO w ck.refl) (by rw [ajW];exact b2) hh (yu _) (by show _<=tmps.size;rw [ajW,b3];exact g10) hh.fU (yu _) ⟨[],rfl,by simp,by simp⟩) ?_
    rintro e a1 w1 ⟨rfl,m1,S1,k1,k2,k3,k4,k5,k6,k7⟩;simp only [qQ,Exit.then];have BY:m1 l=some p:=k5.old l p (hh.lt l p hm) hm
    split at hv
    case h_2=>cases hv
    rename_i jP DG BO C9 Ai iB;obtain ⟨r1,ia,f1,f2,f3,f4,f5,f6,f7,f8,f9,f10,f11⟩:=Ir k2 iB BY;have ZF:=anP (P:=O.P) f1 f3;obtain ⟨q1,q2⟩:=acz k2 iB BY f1 (st':=1) (pe':=Ai) (by omega)
    have cC:({r1 with state:=Bo 1,pending:=zx Ai}:uR)={r1 with state:= .busy}:=by rw [<-f5];rfl
    rw [cC] at q1 q2;refine ⟨_,ZF,?_⟩
    cases h2:self body ⟨s1.tm,a7 s1.hp l (.lp jP DG BO C9 1 Ai),s1.ct,s1.ct⟩ with
    | none=>simp [h2] at hv
    | some q=>
     obtain ⟨ex,s2⟩:=q;simp only [h2] at hv;have sN:=hS _ _ _ _ h2 r.body h cb kb g9
     have Bp:zy (some p.b) {w1 with heap:=w1.heap.setIfInBounds p.b (.loop {r1 with state:= .busy})}:=fun l hl=>by
      grind
     have ZG:b8 O m1 S1 {w1 with heap:=w1.heap.setIfInBounds p.b (.loop {r1 with state:= .busy})} s1.tm a1.tmps:=
      AN (fun _ _ h=>h) (fun _ h=>h) (fun b hb=>q2.still b hb) k1
     have aBs:(O.hint h).n<=a1.tmps.size:=by
      grind
     refine wpIn_mono (sN (some p.b) w.heap.size m1 S1 _ a1 Bp ZG q1 (yu _) aBs hh.fU (xm k5.size q2.size) (AO k2 q2 k7)) ?_;rintro e a2 w2 ⟨rfl,m2,S2,j1,j2,j3,j4,j5,j6,j7⟩;have hm2:m2 l=some p:=j5.old l p (k2.lt l p BY) BY
     split at hv
     case h_2=>cases hv
     rename_i sE KD KE Jb pe2 Gu;obtain ⟨r2,KT,d1,d2,d3,d4,d5,d6,d7,d8,d9,d10,d11⟩:=Ir j2 Gu hm2;have aBt:ck m S w hp m2 S2 w2 s2.hp ct:=(k5.trans (q2.r9 k4)).trans (j5.r9 k4);have ajX:ct<=s2.ct:=xm k4 j4;have fin:∀(jump:Option wY) (st':Nat) (pe':zQ),zx pe'=jump->Bo st'=(if jump.isNone then .ready else .done)->st'<=2->
       ∃v' w',(Instr.endRound p.b jump).run O.P w2= .ok v' w'/\ze O m S w hp ct (.bool jump.isNone) (a7 s2.hp l (.lp sE KD KE Jb st' pe')) s2.ct (.returned v') w':=by
      intro jump st' pe' e1 e2 e3;obtain ⟨z1,z2⟩:=acz j2 Gu hm2 d1 (st':=st') (pe':=pe') e3;rw [e1,e2] at z1 z2;exact ⟨_,_,an2 d1 jump,_,m2,S2,rfl,z1,ajX,by simp [ah],aBt.trans (z2.r9 ajX)⟩
     cases ex with
     | normal=>
      simp only [yd,yo] at hv;obtain ⟨rfl,rfl,rfl⟩:=hv;simp only [qQ,roundPost];exact fin none 0 .none rfl rfl (by omega)
     | ret=>
      simp only [SJ,yd,yo] at hv;obtain ⟨rfl,rfl,rfl⟩:=hv;simp only [qQ,roundPost];exact fin (some .ret) 2 .ret rfl rfl (by omega)
     | exit id=>
      simp only [SJ,yd,yo] at hv;obtain ⟨rfl,rfl,rfl⟩:=hv;simp only [qQ,roundPost];exact fin (some (.exit id)) 2 (.exit id) rfl rfl (by omega)
end
end
section
open Go
section
variable {O:bl} {self:cA}
def My {P:y5} {f:yac} {fn:Func} {args:Array yh} {w:yi} (hf:P.funcs[f]? =some fn) (hb:fn.body.isSome=true) (hn:fn.name≠ "runtime.NumGoroutine"):(callFunc f args).run P w= .ok (.enter f args) w:=by
 have h1:fn.body≠none:=fun e=>by rw [e] at hb;cases hb
 simp [callFunc,program,Sem.run,hf,h1,hn]
def QQ {P:y5} {H:Hint} {fn:Func} {F:aV} (h:EI P H fn=some F):∃c,fn.body=some c/\F.body=(comp P H c 0 0).1/\ph P fn.results.toList=some F.fO/\H.n<=fn.ntmps:=by
 unfold EI at h
 split at h
 ·rename_i c rs h1 h2
  cases hb:yF H.n fn.ntmps with
  | false=>rw [hb] at h;cases h
  | true=>
   rw [hb] at h;simp only [yA,yd] at h;subst h
   simp_all
 ·cases h
def arQ {m:Mp} {S:Nat->Prop} {w:yi} {hp:Hp} {ct:Nat} {tm:Env} {a:Act} {ro:Option Nat} (fn:yac) (ps:Array Tmp) (assign body:wY) {cM b':VC} {h:Nat} (hh:aU O m S w hp ct) (ht:b8 O m S w tm a.tmps) (cO:zy ro w)
  (ZH:BP O.P (O.hint h) cM assign) (ZI:BP O.P (O.hint h) b' body) (hn:(O.hint h).n<=a.tmps.size) (iz:zF (O.hint h).n ps.toList=true) {lo:Nat} (fj:lo<=w.heap.size) (cN:Marks lo S w a.defers):
  ∃l mark w1,(Instr.enterLoop fn a.tmps ps assign body ro).run O.P w= .ok (l,mark) w1/\aU O (fE m ct ⟨l,0,0,0⟩) S w1 ((ct,.lp tm ps.toList cM b' 0 .none)::hp) (ct+1)/\
   ck m S w hp (fE m ct ⟨l,0,0,0⟩) S w1 ((ct,.lp tm ps.toList cM b' 0 .none)::hp) ct/\m ct=none/\Marks lo S w1 (mark++a.defers)/\w.heap.size<=l:=by
 have bM:m ct=none:=by
  cases hq:m ct with
  | none=>rfl
  | some p=>have:=hh.lt ct p hq;omega
 have lay:∀(w':yi) (d:Nat),Calm w w'->Marks lo S w' a.defers->
   aU O (fE m ct ⟨w'.heap.size,0,0,0⟩) S (w'.alloc (.loop {state:= .ready,pending:=none,fn:=fn,tmps:=a.tmps,params:=ps,assign:=assign,body:=body,defers:=d})) ((ct,.lp tm ps.toList cM b' 0 .none)::hp) (ct+1)/\
   ck m S w hp (fE m ct ⟨w'.heap.size,0,0,0⟩) S (w'.alloc (.loop {state:= .ready,pending:=none,fn:=fn,tmps:=a.tmps,params:=ps,assign:=assign,body:=body,defers:=d})) ((ct,.lp tm ps.toList cM b' 0 .none)::hp) ct:=by
  intro w' d hw ajY;have ia:aU O m S w' hp ct:=Cx hh hw (fun _ h=>h) (fun _ h=> .inl h) (fun b hb=>yU (hh.slt b hb) hw.size);have Gm:ck m S w hp m S w' hp ct:=AR hh hw (fun _ h=>h) (fun _ h=> .inl h);have hg:iG hp ct ((ct,.lp tm ps.toList cM b' 0 .none)::hp) (ct+1):=by
   refine ⟨fun id o ho=>⟨o,?_,ji.refl o⟩,by omega,fun id o ho=>?_,fun id o ho hi=>?_⟩
   ·rw [fI,yx (by have:=hh.aW id o ho;omega)];exact ho
   ·rw [fI] at ho;by_cases hc:ct=id
    ·omega
    ·simp only [hc,xg] at ho;have:=hh.aW id o ho;omega
   ·rw [fI,yx (by omega)] at ho;exact ⟨o,ho⟩
  have eF:∀i q,au ((ct,Obj.lp tm ps.toList cM b' 0 .none)::hp) i=some q->i≠ct->au hp i=some q:=fun i q h hi=>by
   rw [fI,yx (fun e=>hi e.symm)] at h;exact h
  have KT:aU O m S w' ((ct,.lp tm ps.toList cM b' 0 .none)::hp) (ct+1):=by
   have dd:∀id p,m id=some p->id≠ct:=fun id p hm e=>by have:=hh.lt id p hm;omega
   exact ⟨fun id o p ho hm=>ia.obj id o p (eF id o ho (dd id p hm)) hm,fun id p hm=>by have:=hh.lt id p hm;omega,
    fun i j oi oj pi pj hi hj bM gD e=>ia.inj i j oi oj pi pj (eF i oi hi (dd i pi bM)) (eF j oj hj (dd j pj gD)) bM gD e,ia.slt,ia.blt,ia.low,ia.lJ,ia.fU,hg.lt⟩
  have oF:fg O (fE m ct ⟨w'.heap.size,0,0,0⟩) S (w'.alloc (.loop {state:= .ready,pending:=none,fn:=fn,tmps:=a.tmps,params:=ps,assign:=assign,body:=body,defers:=d})) ct (.lp tm ps.toList cM b' 0 .none):=by
   refine ⟨⟨w'.heap.size,0,0,0⟩,_,h,dS,heap_alloc_new w' _,?_,rfl,by omega,rfl,?_,rfl,ZH,ZI,hn,iz⟩
   ·intro hS
    have:=ia.slt _ hS
    simp at this
   ·exact AN (jt bM) (fun _ h=>h) (fun b hb=>(HR ia _ b hb).trans (hw.same b (hh.slt b hb))) ht
  obtain ⟨S',k1,k2,k3⟩:=RJ (i:=ct) (p:=⟨w'.heap.size,0,0,0⟩) KT bM (by omega) rfl (fun o ho=>by
   rw [fI] at ho;simp only [xE,yd] at ho;subst ho
   exact .inl ⟨oF,by simp [iF]⟩)
  have k1':aU O (fE m ct ⟨w'.heap.size,0,0,0⟩) S (w'.alloc (.loop {state:= .ready,pending:=none,fn:=fn,tmps:=a.tmps,params:=ps,assign:=assign,body:=body,defers:=d})) ((ct,.lp tm ps.toList cM b' 0 .none)::hp) (ct+1):=by
   have KK:∀id q,m id=some q->q.b≠w'.heap.size:=fun id q hq=>by have:=ia.blt id q hq;omega
   refine ⟨?_,k1.lt,k1.inj,fun b hb=>k1.slt b (k2 b hb),k1.blt,k1.low,k1.lJ,k1.fU,k1.aW⟩;intro id o q ho hm;by_cases hc:id=ct
   ·subst hc;rw [fI] at ho
    grind
   ·rw [er hc] at hm;exact rG (jt bM) (fun _ h=>h) (HR ia _) (fun q' bR=>alloc_old (ia.blt id q' bR)) (fun _ _ h=>h) (ia.obj id o q (eF id o ho hc) hm)
  refine ⟨k1',Gm.trans ⟨rfl,rfl,rfl,by simp,fun b hb _=>alloc_old hb,fun _ h=>h,fun b hb=>HR ia _ b hb,fun b hb=> .inl hb,?_,fun i q _ hq=>jt bM i q hq,fun b r hb=>⟨r,(alloc_old (xz.1 hb).1).trans hb⟩⟩⟩;rintro b ⟨i,o,q,g1,g2,g3⟩;by_cases hc:i=ct
  ·subst hc;rw [dS] at g2
   grind
  ·rw [er hc] at g2;exact .inl ⟨i,o,q,eF i o g1 hc,g2,g3⟩
 cases ro with
 | none=>
  have Jf:Calm w (w.alloc (.deferred (some []))):=⟨rfl,rfl,rfl,by simp,fun b hb=>alloc_old hb⟩;obtain ⟨rs,r1,r2,r3⟩:=cN;have aBu:Marks lo S (w.alloc (.deferred (some []))) a.defers:=⟨rs,r1,r2,fun r hr=>⟨(alloc_old (xz.1 (r3 r hr).1).1).trans (r3 r hr).1,(r3 r hr).2⟩⟩;obtain ⟨k1,k2⟩:=lay (w.alloc (.deferred (some []))) w.heap.size Jf aBu
  refine ⟨(w.alloc (.deferred (some []))).heap.size,[{target:= .collected w.heap.size,args:=#[]}],_,?_,k1,k2,bM,?_,by simp⟩
  ·simp [Instr.enterLoop,newObj,Sem.run]
  ·have hold:∀(b:Nat) (x:tu),(w.alloc (.deferred (some []))).heap[b]? =some x->((w.alloc (.deferred (some []))).alloc (.loop {state:= .ready,pending:=none,fn:=fn,tmps:=a.tmps,params:=ps,assign:=assign,body:=body,defers:=w.heap.size})).heap[b]? =some x:=fun b x hb=>
    (alloc_old (xz.1 hb).1).trans hb
   refine ⟨w.heap.size::rs,by rw [r1];rfl,?_,?_⟩
   ·grind
   ·intro r hr;rcases wP.1 hr with rfl | hr
    ·exact ⟨hold _ _ (heap_alloc_new w _),fun hs=>by have:=hh.slt _ hs;omega,fj⟩
    ·exact ⟨hold _ _ ((alloc_old (xz.1 (r3 r hr).1).1).trans (r3 r hr).1),(r3 r hr).2⟩
 | some l0=>
  obtain ⟨r0,fa⟩:=cO l0 rfl;obtain ⟨k1,k2⟩:=lay w r0.defers Calm.refl cN;refine ⟨w.heap.size,[],_,?_,k1,k2,bM,?_,yu _⟩
  ·simp [Instr.enterLoop,HP fa,newObj,Sem.run]
  ·exact AO hh k2 cN
def azR (hO:eP O) (hC:nR O self) {h:Nat} {f:xu} {ps:Array Tmp} {assign body:wY} {cM b':VC} (ZH:BP O.P (O.hint h) cM assign) (ZI:BP O.P (O.hint h) b' body) (iz:zF (O.hint h).n ps.toList=true)
  {s:St} {ex:Ex} {s':St} (hv:bH O.prog O.aC self (.rf (aQ (O.hint h) f) ps.toList cM b') s=some (ex,s')):Bh O h (.rangeFunc f ps assign body) s ex s':=by
 intro ro lo m S w a cO ht hh hb hn bh fj cN;simp only [bH] at hv
 split at hv
 case h_2=>cases hv
 rename_i n first cap hx
 split at hv
 case h_1=>cases hv
 rename_i hL
 cases he:il O.prog O.aC self ((s.ct,.lp s.tm ps.toList cM b' 0 .none)::s.hp) (s.ct+1) n (first++(.fn (.y s.ct) [] []::cap)) with
 | none=>simp [he] at hv
 | some q=>
  obtain ⟨v,bc,oI⟩:=q;simp only [he] at hv
  split at hv
  case h_2=>cases hv
  rename_i sE KD KE Jb st pe Gu
  cases aO:yv st 1 with
  | true=>rw [aO] at hv;cases hv
  | false=>
   rw [aO] at hv;simp only [yT] at hv;refine wpIn_rangeFunc (fun fn _=>?_);obtain ⟨l,mark,w1,e1,e2,e3,e4,e5,e6⟩:=arQ (ro:=ro) fn ps assign body hh ht cO ZH ZI hn iz fj cN;have rf:=cy (hO.hint h) ht f;rw [hx] at rf;simp only [ah] at rf;obtain ⟨fi,ca,hf,r2,r3⟩:=rf;have hle:=jt e4 (p:=⟨l,0,0,0⟩);have Fm:fK S w w1:=fun b hb=>e3.still b hb
   have fV:ay O.af (fE m s.ct ⟨l,0,0,0⟩) S w1 (first++(.fn (.y s.ct) [] []::cap)) (fi++#[Value.func (.yield l) #[] #[]]++ca).toList:=by
    have:=lj (gS hle (fun _ h=>h) Fm _ _ r2) (lj (a:=[.fn (.y s.ct) [] []]) (x:=[Value.func (.yield l) #[] #[]]) (by
     simp only [ay]
     exact ⟨_,[],rfl,by simp only [ah];exact ⟨_,dS,rfl⟩,rfl⟩) (gS hle (fun _ h=>h) Fm _ _ r3))
    grind
   have Tu:=hC.heap _ _ _ _ _ _ _ he _ S w1 _ e2 fV;have hP:∃F,O.prog n=some F:=by
    unfold il at he;rw [hL] at he
    cases hq:O.prog n with
    | none=>simp [hq] at he
    | some F=>exact ⟨F,rfl⟩
   obtain ⟨F,hF⟩:=hP;obtain ⟨fn',q1,q2,q3⟩:=hO.prog n F hF;obtain ⟨cb,q4,_⟩:=QQ q2;have fM:(callFunc (O.af n) (fi++#[Value.func (.yield l) #[] #[]]++ca)).run O.P w1= .ok (.enter (O.af n) (fi++#[Value.func (.yield l) #[] #[]]++ca)) w1:=My q1 (by rw [q4];rfl) q3
   refine ⟨l,mark,w1,{target:= .fn (.func (O.af n)) ca,args:=fi++#[Value.func (.yield l) #[] #[]]},w1,O.af n,fi++#[Value.func (.yield l) #[] #[]]++ca,w1,e1,?_,fun _ _=>trivial,?_,fun hd=>by simp [WF,Fence.wide] at hd,?_⟩
   ·show Sem.run O.P (Deferred.ofValue (a.eval f) _) w1=_
    rw [hf];simp [Deferred.ofValue,Act.eval]
   ·simp only [invoke];exact fM
   ·rcases Tu with ⟨_,Tu⟩ | ⟨u,w',h1,_⟩
    case inr=>rw [fM] at h1;cases h1
    have av7:CallsIn (WF ro) 0 O.P (O.af n) (fi++#[Value.func (.yield l) #[] #[]]++ca) w1 (ze O (fE m s.ct ⟨l,0,0,0⟩) S w1 ((s.ct,.lp s.tm ps.toList cM b' 0 .none)::s.hp) (s.ct+1) v bc oI):=Tu;refine CallsIn.mono av7 ?_;rintro e w3 ⟨u,m',S',rfl,k1,k2,k3,k4⟩;have hZ:m' s.ct=some ⟨l,0,0,0⟩:=k4.old s.ct _ (tq _) dS;obtain ⟨r,KT,d1,d2,d3,d4,d5,d6,_⟩:=Ir k1 Gu hZ;have pX:(r.state==LoopState.busy)=false:=by
     rw [d3];rcases st with _ | _ | st
     ·rfl
     ·simp_all
     ·have:st=0:=by omega
      subst this;rfl
    have eh:=Ek w3 l (.loop {r with state:= .exhausted});have hdl:=adq k1 s.ct;have oG:¬ek m' (dJ bc s.ct) l:=abc k1 Gu hZ
    have z1:aU O m' S' {w3 with heap:=w3.heap.setIfInBounds l (.loop {r with state:= .exhausted})} (VE.dJ bc s.ct) oI:=abJ hdl eh d2 oG (by have:=hh.fU;omega)
    have z2:ck m' S' w3 bc m' S' {w3 with heap:=w3.heap.setIfInBounds l (.loop {r with state:= .exhausted})} (VE.dJ bc s.ct) s.base:=by
     refine ⟨rfl,rfl,rfl,by rw [eh.size];exact yu _,fun b _ hb=>eh.other b (fun e=>hb (e▸IB Gu hZ)),fun _ h=>h,fun b hb=>eh.other b (fun e=>d2 (e▸hb)),fun b hb=> .inl hb,fun b hb=> .inl (aeE hb),fun _ _ _ h=>h,fun b x hb=>?_⟩
     grind
    have TZ:ck m S w s.hp m' S' {w3 with heap:=w3.heap.setIfInBounds l (.loop {r with state:= .exhausted})} (VE.dJ bc s.ct) s.base:=
     ((e3.r9 hb).trans (k4.r9 (by omega))).trans z2
    have N1:(Instr.endLoop l).run O.P w3= .ok (zx pe) {w3 with heap:=w3.heap.setIfInBounds l (.loop {r with state:= .exhausted})}:=by
     simp only [Instr.endLoop,Sem.run_bind,HP d1,Result.andThen_ok,pX,yI,xg,Sem.run_pure,LX (P:=O.P) d1 (fun _ _ _=>by simp),d5]
    have ajY:Marks lo S' {w3 with heap:=w3.heap.setIfInBounds l (.loop {r with state:= .exhausted})} (mark++a.defers):=AO k1 z2 (AO e2 k4 e5)
    have Aq:b8 O m' S' {w3 with heap:=w3.heap.setIfInBounds l (.loop {r with state:= .exhausted})} s.tm a.tmps:=by
     refine AN (fun id p hp=>?_) TZ.sub (fun b hb=>TZ.still b hb) ht;have h1:=hh.lt id p hp;exact k4.old id p (by omega) (hle id p hp)
    have post:∀ZJ,s'={s with hp:=VE.dJ bc s.ct,ct:=oI}->ex=ZJ->eR O m S w s ex s' a.tmps.size lo (qQ ZJ) {a with defers:=mark++a.defers} {w3 with heap:=w3.heap.setIfInBounds l (.loop {r with state:= .exhausted})}:=by
     rintro ZJ rfl rfl;exact ⟨rfl,m',S',Aq,z1,rfl,by show s.base<=oI;omega,TZ,rfl,ajY⟩
    refine ⟨_,_,N1,?_⟩
    cases pe with
    | none=>
     simp only [yd,yo] at hv;exact post .normal hv.2.symm hv.1.symm
    | ret=>
     simp only [yd,yo] at hv;exact wpIn_ret (post .ret hv.2.symm hv.1.symm)
    | exit id=>
     simp only [yd,yo] at hv;exact wpIn_exit (post (.exit id) hv.2.symm hv.1.symm)
end
end
end VE
