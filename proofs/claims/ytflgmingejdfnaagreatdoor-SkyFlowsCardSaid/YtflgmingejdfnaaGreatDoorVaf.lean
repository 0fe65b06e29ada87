import Derived.OrdersIn
import Derived.Test.YtflgmingejdfnaaGreatDoorVae
set_option linter.all false
set_option maxRecDepth 100000
open Array renaming getD_eq_getD_getElem?→wT
open Bool renaming and_eq_true→yf,false_eq_true→yC,not_eq_true'→uR,or_eq_false_iff→tN,or_eq_true→uM
open Classical renaming em→vO
open Go renaming Call→yag,Deferred→ybz,Exit→uI,Oper→yY,Operand→xB,Program→y5,Value→ye,World→yh
open List renaming countP_cons→yax,getElem?_cons_zero→vn,getElem?_eq_some_iff→we,length_append→yQ,length_cons→yv,length_nil→yF,mem_append→wQ,mem_cons→wo,mem_cons_of_mem→wk
open Nat renaming beq→yr,ble→yE,eq_of_beq_eq_true→yo,eq_or_lt_of_le→wR,eq_zero_or_pos→xr,le_of_lt_succ→uW,le_refl→yD,le_trans→xi,lt_or_ge→wV,strongRecOn→vR,testBit→ua
open Ne renaming symm→ybG
open Option renaming bind_some→xG,getD_some→vK
open Option.some renaming injEq→yc
open Prod.mk renaming injEq→yk
namespace VE
section
open Go
section
variable {O:bw} {H:Hint} {m:Mp} {S:Nat->Prop} {w:yh} {tm:Env} {a:Act} {hp ao:Hp} {ct bh:Nat} {self:cJ} {ro:Option Nat} {next:Act->yh->Prop} {Q:uI->Act->yh->Prop}
def cu.ru {m':Mp} {S':Nat->Prop} {w':yh} {b b':Nat} (h:cu m S w hp m' S' w' ao b) (hb:b'<=b):cu m S w hp m' S' w' ao b':=
 ⟨h.os,h.tape,h.output,h.size,h.same,h.sub,h.still,h.new,h.own,fun i q hi hq=>h.old i q (by omega) hq,h.loops⟩
def ap1 {hp:Hp} {ct:Nat} {r:AV} (bi:∀id o,ap hp id=some o->id<ct):∀id o,ap (own hp ct r).2.1 id=some o->id<(own hp ct r).2.2:=by
 have hL:∀(vs:List AV) (hp:Hp) (ct:Nat),(∀id o,ap hp id=some o->id<ct)->∀id o,ap (jA hp ct vs).2.1 id=some o->id<(jA hp ct vs).2.2:=by
  intro vs
  induction vs with
  | nil=>intro hp ct h id o ho;exact h id o ho
  | cons v r ih=>intro hp ct h id o ho;exact ih _ _ (HE h) id o ho
 cases r with
 | aq vs=>exact hL vs hp ct bi
 | _=>exact HE bi
def ap2 {hp:Hp} {ct:Nat} {r:AV} (bi:∀id o,ap hp id=some o->id<ct):∀id o,ap hp id=some o->ap (own hp ct r).2.1 id=some o:=by
 cases r with
 | aq vs=>exact LP bi
 | _=>exact QZ bi
def ap3 {hp:Hp} {ct:Nat} {r:AV}:ct<=(own hp ct r).2.2:=by
 cases r with
 | aq vs=>exact LO
 | _=>exact LM
def alz {hp:Hp} {ct:Nat} {r:AV}:∀id o,ap (own hp ct r).2.1 id=some o->id<ct->ap hp id=some o:=by
 have h1:∀(hp:Hp) (ct:Nat) (r:AV) id o,ap (fu hp ct r).2.1 id=some o->id<ct->ap hp id=some o:=by
  intro hp ct r id o h hc;cases r<;>simp only [fu] at h<;>try exact h
  rw [gU,yz (by omega)] at h;exact h
 have hL:∀(vs:List AV) (hp:Hp) (ct:Nat) id o,ap (jA hp ct vs).2.1 id=some o->id<ct->ap hp id=some o:=by
  intro vs
  induction vs with
  | nil=>intro hp ct id o ho _;exact ho
  | cons v r ih=>intro hp ct id o ho hc;exact h1 hp ct v id o (ih _ _ id o ho (by have:=LM (hp:=hp) (ct:=ct) (r:=v);omega)) hc
 cases r with
 | aq vs=>exact hL vs hp ct
 | _=>exact h1 hp ct _
structure il (hp:Hp) (ct:Nat) (ao:Hp) (bh:Nat):Prop where
 le:dt hp ao
 pq:ct<=bh
 lt:∀id o,ap ao id=some o->id<bh
 back:∀id o,ap ao id=some o->id<ct->∃o',ap hp id=some o'
def il.refl (bi:∀id o,ap hp id=some o->id<ct):il hp ct hp ct:=⟨dt.refl,yD _,bi,fun _ o h _=>⟨o,h⟩⟩
def il.trans {IL:Hp} {aeY:Nat} (h:il hp ct ao bh) (k:il ao bh IL aeY):il hp ct IL aeY:=
 ⟨h.le.trans k.le,xi h.pq k.pq,k.lt,fun id o ho hi=>let ⟨o1,h1⟩:=k.back id o ho (Nat.lt_of_lt_of_le hi h.pq);h.back id o1 h1 hi⟩
def YE {Mr vals:List AV} {bD:Hp} (hz:cN deep hp Mr=some (vals,bD)) (bi:∀id o,ap hp id=some o->id<ct):il hp ct bD ct:=by
 obtain ⟨z1,z2,_⟩:=PH (O:=⟨default,⟨fun _=>none,fun _=>none⟩,fun _=>0,fun _=>none,fun _=>⟨0,fun _=>none,fun _=>[],fun _=>none,fun _=> .pure,fun _=>[]⟩,default⟩) hz;have hb:∀id o,ap bD id=some o->∃o',ap hp id=some o':=fun id o h=>by
  have:=z2 id
  rw [h] at this
  cases hq:ap hp id with
  | none=>rw [hq] at this;cases this
  | some q=>exact ⟨q,rfl⟩
 exact ⟨z1,yD _,fun id o h=>let ⟨o',h'⟩:=hb id o h;bi id o' h',fun id o h _=>hb id o h⟩
def ajC {r:AV} (bi:∀id o,ap hp id=some o->id<ct):il hp ct (own hp ct r).2.1 (own hp ct r).2.2:=
 ⟨fun id o h=>⟨o,ap2 bi id o h,jk.refl o⟩,ap3,ap1 bi,fun id o h hi=>⟨o,alz id o h hi⟩⟩
def Xn {P:aK} {L:Lib} {q:Op} {v:AV} (hk:bG q<=1) (hv:bt P L self tm hp ct q=some (v,ao,bh)) (bi:∀id o,ap hp id=some o->id<ct):il hp ct ao bh:=by
 have cQ:∀{q:Op},(match cU tm hp ct q with | some (v,b)=>some (v,(ct,b)::hp,ct+1) | none=>(none:fQ))=some (v,ao,bh)->il hp ct ao bh:=by
  intro q h
  cases hm:cU tm hp ct q with
  | none=>simp [hm] at h
  | some r=>
   obtain ⟨v1,b⟩:=r;simp only [hm,yc,yk] at h;obtain ⟨rfl,rfl,rfl⟩:=h;refine ⟨fun id o ho=>⟨o,?_,jk.refl o⟩,by omega,fun id o ho=>?_,fun id o ho hi=>?_⟩
   ·rw [gU,yz (by have:=bi id o ho;omega)];exact ho
   ·rw [gU] at ho
    grind
   ·rw [gU,yz (by omega)] at ho;exact ⟨o,ho⟩
 have kW:∀{q:Op},(match bC tm hp q with | some v=>some (v,hp,ct) | none=>(none:fQ))=some (v,ao,bh)->il hp ct ao bh:=by
  intro q h
  cases hm:bC tm hp q with
  | none=>simp [hm] at h
  | some r=>
   simp only [hm,yc,yk] at h;obtain ⟨rfl,rfl,rfl⟩:=h;exact il.refl bi
 cases cf:q with
 | st _ _ _=>simp [cf,bG] at hk
 | oX _ _ _ _=>simp [cf,bG] at hk
 | oZ _=>simp [cf,bG] at hk
 | dH _ _ _ _=>simp [cf,bG] at hk
 | pc _ _ _=>simp [cf,bG] at hk
 | gY _ _ _=>simp [cf,bG] at hk
 | jE _ _ _ _=>simp [cf,bG] at hk
 | box s x=>exact cQ (q:=q) (by rw [cf] at hv ⊢;simp only [bt] at hv;exact hv)
 | bV n s z ps=>exact cQ (q:=q) (by rw [cf] at hv ⊢;simp only [bt] at hv;exact hv)
 | gP s b z x y=>exact cQ (q:=q) (by rw [cf] at hv ⊢;simp only [bt] at hv;exact hv)
 | zS=>exact cQ (q:=q) (by rw [cf] at hv ⊢;simp only [bt] at hv;exact hv)
 | oY x=>exact cQ (q:=q) (by rw [cf] at hv ⊢;simp only [bt] at hv;exact hv)
 | call md x xs=>
  subst cf;simp only [bt,dC] at hv
  split at hv
  ·rename_i g first cap hx
   cases md with
   | heap=>simp [bG] at hk
   | dyn=>simp [bG] at hk
   | pure=>
    simp only at hv
    cases hz:cN deep hp (first++(dD tm xs++cap)) with
    | none=>simp [hz] at hv
    | some z=>
     obtain ⟨vals,bD⟩:=z;simp only [hz] at hv
     cases hr:bR P L self g vals with
     | none=>simp [hr] at hv
     | some r=>
      simp only [hr,yc,yk] at hv;obtain ⟨rfl,rfl,rfl⟩:=hv;exact YE hz bi
   | own=>
    simp only at hv
    cases hz:cN deep hp (first++(dD tm xs++cap)) with
    | none=>simp [hz] at hv
    | some z=>
     obtain ⟨vals,bD⟩:=z;simp only [hz] at hv
     cases hr:bR P L self g vals with
     | none=>simp [hr] at hv
     | some r=>
      simp only [hr,yc] at hv;have e2:ao=(own bD ct r).2.1:=by rw [hv]
      have e3:bh=(own bD ct r).2.2:=by rw [hv]
      subst e2;subst e3;have g1:=YE hz bi;exact g1.trans (ajC g1.lt)
  ·cases md with
   | heap=>simp [bG] at hk
   | dyn=>simp [bG] at hk
   | _=>simp at hv
  ·cases hv
 | _=>exact kW (q:=q) (by rw [cf] at hv ⊢;simp only [bt] at hv;exact hv)
def Lm (hh:aZ O m S w hp ct) (hg:il hp ct ao bh):∃S',aZ O m S' w ao bh/\(∀b,S b->S' b)/\(∀b,S' b->S b\/ej m hp b)/\∀base,cu m S w hp m S' w ao base:=by
 have hd:∀id o p,ap ao id=some o->m id=some p->∃o',ap hp id=some o':=fun id o p h hm=>hg.back id o h (hh.lt id p hm)
 obtain ⟨S',g1,g2,g3⟩:=aaw hh hg.le hd hg.pq hg.lt;refine ⟨S',g1,g2,g3,fun base=>⟨rfl,rfl,rfl,yD _,fun _ _ _=>rfl,g2,fun _ _=>rfl,fun b hb=>(g3 b hb).imp (fun h=>h) .inl,?_,fun _ _ _ h=>h,fun _ r h=>⟨r,h⟩⟩⟩;rintro b ⟨i,o,p,h1,h2,h3⟩;obtain ⟨o',h4⟩:=hd i o p h1 h2;exact .inl ⟨i,o',p,h4,h2,h3⟩
def alA {q:Op} {v:AV} (hv:dc tm hp ct q=some (v,ao,bh)):ct<=bh:=by
 cases q<;>simp only [dc,reduceCtorEq] at hv
 all_goals
  grind
def Qu {P:y5} {H:Hint} {o:yY} {rs:List (Nat×Bool×Nat)} {x:X} {xs:List X} (hq:zt P H (.gY rs x xs) o):∃c f,o.op= .call c/\c.callee= .value f/\x=aR H f/\xs=gN H c.args.toList:=by
 rcases hq with ⟨k,hk⟩ | ⟨c,f,rs',h1,h2,h3⟩ | ⟨_,_,_,_,_,_,_,h3⟩
 ·cases ho:o.op with
  | call c=>
   obtain ⟨callee,args,ts⟩:=c;simp only [br,ho] at hk
   split at hk
   ·grind
   ·repeat' split at hk
    all_goals first
     | (cases hk;done)
     | (simp only [bad] at hk;cases hk;done)
     | (revert hk;generalize yr _ _=bb;intro hk;cases bb<;>simp [bad] at hk)
   ·simp only [bad] at hk;cases hk
  | binOp op t x' y ty=>
   cases op<;>simp only [br,ho,qZ,sM] at hk
   case eql=>
         repeat' split at hk
         all_goals first
          | (cases hk;done)
          | (simp only [bad] at hk;cases hk;done)
          | (cases cS:(P.stoodInHeld t||P.eqGuardType P.depth t)<;>rw [cS] at hk<;>simp [bad] at hk)
   case neq=>
         repeat' split at hk
         all_goals first
          | (cases hk;done)
          | (simp only [bad] at hk;cases hk;done)
          | (cases cS:(P.stoodInHeld t||P.eqGuardType P.depth t)<;>rw [cS] at hk<;>simp [bad] at hk)
   all_goals cases hk
  | buildSlice t n parts=>
   simp only [br,ho] at hk
   repeat' split at hk
   all_goals first
    | (cases hk;done)
    | (simp only [bad] at hk;cases hk;done)
    | (revert hk;generalize yE _ _=bb;intro hk;cases bb<;>simp [bad] at hk)
  | makeMap t r=>
   cases r<;>simp only [br,ho] at hk
   ·repeat' split at hk
    all_goals first
     | (cases hk;done)
     | (simp only [bad] at hk;cases hk;done)
   ·simp only [bad] at hk;cases hk
  | next x' b=>
   cases b<;>simp only [br,ho] at hk
   ·simp only [bad] at hk;cases hk
   ·cases hk
  | _=>
   simp only [br,ho] at hk
   (repeat' split at hk)
   all_goals first
    | contradiction
    | (cases hk;done)
    | (simp only [bad] at hk;cases hk;done)
 ·simp only [Op.gY.injEq] at h3;exact ⟨c,f,h1,h2,h3.2.1,h3.2.2⟩
 ·cases h3
def aiu {P:y5} {H:Hint} {o:yY} {k:Nat} {rs:List (Nat×Bool×Nat)} {sz:Nat} {x y:X} (hk:Op.jE rs sz x y=br P H k o):False:=by
 cases ho:o.op with
 | call c=>
  obtain ⟨callee,args,ts⟩:=c;simp only [br,ho] at hk
  split at hk
  ·grind
  ·repeat' split at hk
   all_goals first
    | (cases hk;done)
    | (simp only [bad] at hk;cases hk;done)
    | (revert hk;generalize yr _ _=bb;intro hk;cases bb<;>simp [bad] at hk)
  ·simp only [bad] at hk;cases hk
 | binOp op t x' y ty=>
  cases op<;>simp only [br,ho,qZ,sM] at hk
  case eql=>
        repeat' split at hk
        all_goals first
         | (cases hk;done)
         | (simp only [bad] at hk;cases hk;done)
         | (cases cS:(P.stoodInHeld t||P.eqGuardType P.depth t)<;>rw [cS] at hk<;>simp [bad] at hk)
  case neq=>
        repeat' split at hk
        all_goals first
         | (cases hk;done)
         | (simp only [bad] at hk;cases hk;done)
         | (cases cS:(P.stoodInHeld t||P.eqGuardType P.depth t)<;>rw [cS] at hk<;>simp [bad] at hk)
  all_goals cases hk
 | buildSlice t n parts=>
  simp only [br,ho] at hk
  repeat' split at hk
  all_goals first
   | (cases hk;done)
   | (simp only [bad] at hk;cases hk;done)
   | (revert hk;generalize yE _ _=bb;intro hk;cases bb<;>simp [bad] at hk)
 | makeMap t r=>
  cases r<;>simp only [br,ho] at hk
  ·repeat' split at hk
   all_goals first
    | (cases hk;done)
    | (simp only [bad] at hk;cases hk;done)
  ·simp only [bad] at hk;cases hk
 | next x' b=>
  cases b<;>simp only [br,ho] at hk
  ·simp only [bad] at hk;cases hk
  ·cases hk
 | _=>
  simp only [br,ho] at hk
  (repeat' split at hk)
  all_goals first
   | contradiction
   | (cases hk;done)
   | (simp only [bad] at hk;cases hk;done)
def asp {P:y5} {H:Hint} {o:yY} {sz:Nat} {x y:X} (hq:zt P H (.st sz x y) o):∃t x' y',o.op= .store t x' y'/\cP P t=some sz/\x=aR H x'/\y=aR H y':=by
 obtain ⟨k,hk⟩:∃k,Op.st sz x y=br P H k o:=by
  rcases hq with h | ⟨_,_,_,_,_,h⟩ | ⟨_,_,_,_,_,_,_,h⟩
  ·grind
  ·grind
  ·cases h
 cases ho:o.op with
 | call c=>
  obtain ⟨callee,args,ts⟩:=c;simp only [br,ho] at hk
  split at hk
  ·grind
  ·repeat' split at hk
   all_goals first
    | (cases hk;done)
    | (simp only [bad] at hk;cases hk;done)
    | (revert hk;generalize yr _ _=bb;intro hk;cases bb<;>simp [bad] at hk)
  ·simp only [bad] at hk;cases hk
 | binOp op t x' y ty=>
  cases op<;>simp only [br,ho,qZ,sM] at hk
  case eql=>
        repeat' split at hk
        all_goals first
         | (cases hk;done)
         | (simp only [bad] at hk;cases hk;done)
         | (cases cS:(P.stoodInHeld t||P.eqGuardType P.depth t)<;>rw [cS] at hk<;>simp [bad] at hk)
  case neq=>
        repeat' split at hk
        all_goals first
         | (cases hk;done)
         | (simp only [bad] at hk;cases hk;done)
         | (cases cS:(P.stoodInHeld t||P.eqGuardType P.depth t)<;>rw [cS] at hk<;>simp [bad] at hk)
  all_goals cases hk
 | buildSlice t n parts=>
  simp only [br,ho] at hk
  repeat' split at hk
  all_goals first
   | (cases hk;done)
   | (simp only [bad] at hk;cases hk;done)
   | (revert hk;generalize yE _ _=bb;intro hk;cases bb<;>simp [bad] at hk)
 | makeMap t r=>
  cases r<;>simp only [br,ho] at hk
  ·repeat' split at hk
   all_goals first
    | (cases hk;done)
    | (simp only [bad] at hk;cases hk;done)
  ·simp only [bad] at hk;cases hk
 | next x' b=>
  cases b<;>simp only [br,ho] at hk
  ·simp only [bad] at hk;cases hk
  ·cases hk
 | store t x' y'=>
  simp only [br,ho] at hk
  split at hk
  ·rename_i s hs;simp only [Op.st.injEq] at hk;obtain ⟨rfl,rfl,rfl⟩:=hk;exact ⟨t,x',y',rfl,hs,rfl,rfl⟩
  ·simp only [bad] at hk;cases hk
 | _=>
  simp only [br,ho] at hk
  (repeat' split at hk)
  all_goals first
   | contradiction
   | (cases hk;done)
   | (simp only [bad] at hk;cases hk;done)
def abp {P:y5} {H:Hint} {o:yY} {rs:List (Nat×Bool×Nat)} {sz:Nat} {x y:X} (hq:zt P H (.jE rs sz x y) o):∃t x' y',o.op= .store t x' y'/\cP P t=some sz/\x=aR H x'/\y=aR H y':=by
 rcases hq with ⟨k,hk⟩ | ⟨_,_,_,_,_,h3⟩ | ⟨t,x',y',Uw,rs',h1,h2,h3⟩
 ·exact (aiu hk).elim
 ·grind
 ·grind
def aiv {P:y5} {H:Hint} {q:Op} {o:yY} (hq:zt P H q o):zt P H (mT q) o:=by
 cases h:q with
 | gY rs f xs=>
  subst h;obtain ⟨c,f',g1,g2,g3,g4⟩:=Qu hq;exact .inr (.inl ⟨c,f',[],g1,g2,by rw [g3,g4];rfl⟩)
 | jE rs sz x y=>
  subst h;obtain ⟨t,x',y',g1,g2,g3,g4⟩:=abp hq;refine .inl ⟨0,?_⟩;simp only [mT,br,g1,g2,g3,g4]
 | _=>subst h;exact hq
def ZD (hC:nv O self) (hH:fF O H) {o:yY} {q:Op} {v:AV} (hq:zt O.P H q o) (hd:∀c,o.op≠.defer c) (hv:bt O.prog O.aU self tm hp ct q=some (v,ao,bh))
  (ht:cp O m S w tm a.tmps) (hh:aZ O m S w hp ct)
  (hn:∀u m' S' w',aZ O m' S' w' ao bh->ct<=bh->aj O.ah m' S' w' v u->cu m S w hp m' S' w' ao ct->next (a.put o.dst u) w'):o.wpIn (WF ro) 0 O.P a w next Q:=by
 have quiet:bG q<=1->o.wpIn (WF ro) 0 O.P a w next Q:=by
  intro hk;have hg:=Xn hk hv hh.bi;obtain ⟨S1,g1,g2,g3,g4⟩:=Lm hh hg;refine quiet_step hC hH hk hq hd hv dt.refl (yD _) hh.bi (fun id h1 h2=>?_) (Ay (fun _ _ h=>h) g2 (fun _ _=>rfl) ht) g1 (fun u m' S' w' k1 k2 k3 k4 k5=>hn u m' S' w' k1 hg.pq k4 ((g4 ct).trans (k5.ru hg.pq)))
  cases hm:m id with
  | none=>rfl
  | some p=>have:=hh.lt id p hm;omega
 have abq:∀{q':Op},(∃k,q'=br O.P H k o)->dc tm hp ct q'=some (v,ao,bh)->o.wpIn (WF ro) 0 O.P a w next Q:=by
  intro q' jF hw;obtain ⟨k,rfl⟩:=jF;obtain ⟨n,u,w',m',S',h1,h2,h3,h4,h5,h6⟩:=anR hH ht hh hw;exact L7 hd h1 h2 (hn u m' S' w' h3 (alA hw) h4 h6)
 have write:dc tm hp ct q=some (v,ao,bh)->o.wpIn (WF ro) 0 O.P a w next Q:=by
  intro hw;refine abq ?_ hw;rcases hq with h | ⟨c,f,rs,_,_,rfl⟩ | ⟨_,_,_,_,_,_,_,rfl⟩
  ·exact h
  ·simp [dc] at hw
  ·simp [dc] at hw
 have heap:∀{c:yag} {f:xB} {g:Nat} {first cap:List AV},o.op= .call c->c.callee= .value f->az tm (aR H f)= .fn (.f g) first cap->
   ik O.prog O.aU self hp ct g (first++(dD tm (gN H c.args.toList)++cap))=some (v,ao,bh)->o.wpIn (WF ro) 0 O.P a w next Q:=by
  intro c f g first cap ho iB hx he;obtain ⟨fi,ca,h1,h2⟩:=Ll hH ht (args:=c.args) hx;refine KQ ho iB h1 (hC.heap _ _ _ _ _ _ _ he m S w _ hh h2) ?_;rintro e w' ⟨u,m',S',rfl,k1,k2,k3,k4⟩;exact ⟨u,rfl,hn u m' S' w' k1 k2 k3 k4⟩
 have round:∀{c:yag} {f:xB} {l:Nat} {x y:List AV},o.op= .call c->c.callee= .value f->az tm (aR H f)= .fn (.y l) x y->
   iT self hp ct l (dD tm (gN H c.args.toList))=some (v,ao,bh)->o.wpIn (WF ro) 0 O.P a w next Q:=by
  intro c f l x y ho iB hx he;have rf:=cF hH ht f;rw [hx] at rf;simp only [aj] at rf;obtain ⟨p,hm,hf⟩:=rf;have gL:=Cm hH ht c.args.toList;obtain ⟨g,tmps,as_,body,h1,h2⟩:=hC.round _ _ _ _ _ _ _ he m S w (c.args.map a.eval) p hh hm (by simpa using gL);refine aly ho iB hf h1 h2 ?_;rintro e w' ⟨u,m',S',rfl,k1,k2,k3,k4⟩;exact ⟨u,rfl,hn u m' S' w' k1 k2 k3 k4⟩
 have dyn:∀{c:yag} {f:xB},o.op= .call c->c.callee= .value f->dC O.prog O.aU self hp ct .dyn (az tm (aR H f)) (dD tm (gN H c.args.toList))=some (v,ao,bh)->o.wpIn (WF ro) 0 O.P a w next Q:=by
  intro c f ho iB he;unfold dC at he
  split at he
  ·rename_i g first cap hx
   (try simp only at he)
   cases hp0:aJ (first++(dD tm (gN H c.args.toList)++cap)) with
   | true=>
    rw [hp0] at he;simp only [ym] at he
    cases hr:bR O.prog O.aU self g (first++(dD tm (gN H c.args.toList)++cap)) with
    | none=>simp [hr] at he
    | some r=>
     simp only [hr,yc,yk] at he;obtain ⟨rfl,rfl,rfl⟩:=he;obtain ⟨fi,ca,h1,h2⟩:=Ll hH ht (args:=c.args) hx;refine KQ ho iB h1 (hC.pure g _ r hr w S _ (Q0 hh) hh.slt (sF (fun _ h=>h) (fun _ _=>rfl) _ _ hp0 h2) hp0) ?_;rintro e w' ⟨u,S',rfl,hw,g1,g2,g3,g4⟩;obtain ⟨S2,k1,k2,k3⟩:=YA g4 m;have hS:∀b,S b->S2 b:=fun b hb=>k1 b (g1 b hb)
     have JI:∀b,S2 b->S b\/w.heap.size<=b:=fun b hb=>(k2 b hb).elim (g2 b) (fun h=> .inr h.1)
     have hl:∀b,S2 b->b<w'.heap.size:=fun b hb=>(k2 b hb).elim (g3 b) (fun h=>h.2)
     exact ⟨u,rfl,hn u m S2 w' (DO hh hw hS JI hl) (yD _) k3 (Cc hh hw hS JI)⟩
   | false=>
    rw [hp0] at he;simp only [yB] at he;exact heap ho iB hx he
  ·rename_i l x y hx;exact round ho iB hx he
  ·cases he
 cases cf:q with
 | gY rs x xs=>
  subst cf;simp only [bt] at hv;have key:=Qu hq;obtain ⟨c,f,ho,iB,rfl,rfl⟩:=key
  cases hc:dC O.prog O.aU self hp ct .dyn (az tm (aR H f)) (dD tm (gN H c.args.toList)) with
  | none=>simp [hc] at hv
  | some r=>
   obtain ⟨v1,bD,rY⟩:=r;simp only [hc] at hv
   cases hs:pN tm hp bD rs with
   | false=>rw [hs] at hv;cases hv
   | true=>
    rw [hs] at hv;simp only [ym,yc,yk] at hv;obtain ⟨rfl,rfl,rfl⟩:=hv;exact dyn ho iB hc
 | call md x xs=>
  subst cf;have jF:∃k,Op.call md x xs=br O.P H k o:=by
   rcases hq with h | ⟨c,f,rs,_,_,h⟩ | ⟨_,_,_,_,_,_,_,h⟩
   ·exact h
   ·cases h
   ·cases h
  obtain ⟨k,hk⟩:=jF
  cases md with
  | pure=>exact quiet (by simp [bG])
  | own=>exact quiet (by simp [bG])
  | heap=>
   simp only [bt] at hv;obtain ⟨c,f,ho,iB,rfl,rfl⟩:=LQ hk.symm (by rintro rfl;simp [az,dC] at hv);unfold dC at hv
   split at hv
   ·rename_i g first cap hx;exact heap ho iB hx hv
   ·rename_i l x y hx;exact round ho iB hx hv
   ·cases hv
  | dyn=>
   simp only [bt] at hv;obtain ⟨c,f,ho,iB,rfl,rfl⟩:=LQ hk.symm (by rintro rfl;simp [az,dC] at hv);exact dyn ho iB hv
 | jE rs s x y=>
  subst cf;obtain ⟨t,x',y',g1,g2,g3,g4⟩:=abp hq;simp only [bt] at hv
  split at hv
  ·rename_i id off hx
   cases hf:oD tm id rs with
   | false=>rw [hf] at hv;cases hv
   | true=>
    rw [hf] at hv;simp only [ym] at hv
    exact abq (q':= .st s x y) ⟨0,by simp only [br,g1,g2,g3,g4]⟩ hv
  ·cases hv
 | st s x y=>subst cf;exact write (by simpa only [bt] using hv)
 | oX kk x y z=>subst cf;exact write (by simpa only [bt] using hv)
 | oZ x=>subst cf;exact write (by simpa only [bt] using hv)
 | dH s b x y=>subst cf;exact write (by simpa only [bt] using hv)
 | pc s x y=>subst cf;exact write (by simpa only [bt] using hv)
 | ef k x lo hi=>subst cf;exact quiet (by cases k<;>simp [bG])
 | len k x=>subst cf;exact quiet (by rcases k with _ | _ | k<;>simp [bG])
 | _=>subst cf;exact quiet (by simp [bG])
end
end
section
open Go
def oI (tm:Env) (g:Option (Nat×Bool)):Option Bool:=
 match g with
 | none=>some true
 | some (t,b)=>match af tm t with | .bool c=>some (c==b) | .aq []=>some false | _=>none
def eT (P:aK) (L:Lib) (self:cJ) (tm:Env) (hp:Hp) (ct:Nat) (r:bl):fQ:=
 match oI tm r.guard with
 | some true=>bt P L self tm hp ct r.op
 | some false=>some (.aq [],hp,ct)
 | none=>none
def XR {P:aK} {L:Lib} {self:cJ} {r:bl} {rs:List bl} {s:St}:
  dP P L self (r::rs) s=match eT P L self s.tm s.hp s.ct r with | some (v,hp,ct)=>dP P L self rs {s with tm:=put r.dst v s.tm,hp:=hp,ct:=ct} | none=>none:=by
 obtain ⟨d,g,o⟩:=r;simp only [dP,eT]
 cases g with
 | none=>rfl
 | some q=>
  obtain ⟨t,b⟩:=q;simp only [oI];generalize af s.tm t=x
  cases x with
  | bool c=>
   simp only;cases (c==b)<;>rfl
  | aq vs=>cases vs<;>rfl
  | _=>rfl
def aaG (ops:Array yY) (g:Option (Nat×Bool)) (g':Option (Nat×Bool)):Prop:=
 (g=none/\g'=none)\/∃t b j,g=some (t,b)/\g'=some (j,b)/\(ops[j]?).bind (·.dst)=some t
structure Ms (P:y5) (H:Hint) (ops:Array yY) (r:bl) (o:yY):Prop where
 op:zt P H r.op o
 dst:r.dst=o.dst
 ok:Iv H o.dst=true
 guard:aaG ops r.guard o.guard
def mO (P:y5) (H:Hint) (ops:Array yY):List bl->List yY->Prop
 | [],[]=>True
 | r::rs,o::l=>(Ms P H ops r o\/(r.guard=none/\r.op=bad))/\mO P H ops rs l
 | _,_=>False
def XS {P:y5} {H:Hint} {ops:Array yY}:∀(l:List yY) (k:Nat),mO P H ops (Cg P H ops l k).1 l
 | [],k=>by simp [Cg,mO]
 | o::l,k=>by
  have ih:=XS (P:=P) (H:=H) (ops:=ops) l (k+(bif Rw o then 1 else 0));simp only [Cg];generalize hq:Cg P H ops l (k+(bif Rw o then 1 else 0))=q at ih;obtain ⟨l',k'⟩:=q;simp only;have SC:mO P H ops (⟨o.dst,none,bad⟩::l') (o::l):=⟨.inr ⟨rfl,rfl⟩,ih⟩
  cases hg:o.guard with
  | none=>
   simp only
   cases hd:Iv H o.dst with
   | false=>exact SC
   | true=>exact ⟨.inl ⟨.inl ⟨k,rfl⟩,rfl,hd,.inl ⟨rfl,hg⟩⟩,ih⟩
  | some p=>
   obtain ⟨j,b⟩:=p;simp only
   cases ht:(ops[j]?).bind (·.dst) with
   | none=>exact SC
   | some t=>
    simp only
    cases hd:Iv H o.dst with
    | false=>exact SC
    | true=>exact ⟨.inl ⟨.inl ⟨k,rfl⟩,rfl,hd,.inr ⟨t,b,j,rfl,hg,ht⟩⟩,ih⟩
section
variable {O:bw} {H:Hint} {m:Mp} {S:Nat->Prop} {w:yh} {tm:Env} {a:Act} {hp ao:Hp} {ct bh:Nat} {self:cJ} {ro:Option Nat} {Q:uI->Act->yh->Prop} {ops:Array yY}
def Qv {d:Option Nat} {v:AV} {tm:Env} {t:Nat}:af (put d v tm) t=if d=some t then v else af tm t:=by
 cases d with
 | none=>simp [put]
 | some i=>
  simp only [put,af];by_cases h:i=t
  ·subst h;simp
  ·have:yr i t=false:=by
    cases hq:yr i t with
    | false=>rfl
    | true=>exact absurd (yo hq) h
   simp [this,h]
def Lo (a:Act) (d:Option Nat) (u:ye):(a.put d u).tmps.size=a.tmps.size:=by
 cases d with
 | none=>rfl
 | some i=>simp [Act.put]
def PL (a:Act) (d:Option Nat) (u:ye):(a.put d u).defers=a.defers:=by
 cases d with
 | none=>rfl
 | some i=>rfl
def Qw {a:Act} {d:Option Nat} {u:ye} {t:Nat} (hd:∀i,d=some i->i<a.tmps.size):(a.put d u).tmps.getD t undef=if d=some t then u else a.tmps.getD t undef:=by
 cases d with
 | none=>simp [Act.put]
 | some i=>
  have hi:=hd i rfl;by_cases h:i=t
  ·subst h;simp [Act.put,hi]
  ·simp only [Act.put,yc,h,yR];simp [Array.getElem?_setIfInBounds_ne h]
def ZE {n:Nat} {d:Option Nat} (h:Iv H d=true) (hn:H.n<=n):∀i,d=some i->i<n:=by
 rintro i rfl
 have:=sO.1 h
 omega
def Qx {d:Option Nat} {v:AV} {u:ye} (ht:cp O m S w tm a.tmps) (hd:∀i,d=some i->i<a.tmps.size) (hv:aj O.ah m S w v u):cp O m S w (put d v tm) (a.put d u).tmps:=fun t=>by
 rw [Qv,Qw hd]
 split
 ·exact hv
 ·exact ht t
def YF {o:yY} {g:Option (Nat×Bool)} {b:Bool} (hg:aaG ops g o.guard) (ht:∀t,t∈R3 g->aj O.ah m S w (af tm t) (a.tmps.getD t undef)) (hw:oI tm g=some b):Region.wanted o (yielded ops a.tmps)=b:=by
 rcases hg with ⟨rfl,h2⟩ | ⟨t,c,j,rfl,h2,h3⟩
 ·simp only [oI,yc] at hw;subst hw;simp [Region.wanted,h2]
 ·simp only [oI] at hw;have h4:=ht t (by simp [R3]);simp only [Region.wanted,h2]
  split at hw
  ·rename_i d hd;rw [hd] at h4;simp only [aj] at h4;simp only [yc] at hw
   have:yielded ops a.tmps j=some d:=by
    simp only [yielded,h3,xG];have h5:a.tmps[t]? =some (.bool d):=by
     simp only [wT] at h4
     cases hq:a.tmps[t]? with
     | none=>rw [hq] at h4;simp [undef] at h4
     | some x=>rw [hq] at h4;simp at h4;rw [h4]
    rw [h5]
   rw [this,<-hw];cases d<;>cases c<;>rfl
  ·rename_i hd;rw [hd] at h4;simp only [aj,au] at h4;obtain ⟨xs,h4,h5⟩:=h4;simp only [yc] at hw;subst hw
   have:yielded ops a.tmps j=none:=by
    simp only [yielded,h3,xG];simp only [wT] at h4
    cases hq:a.tmps[t]? with
    | none=>rfl
    | some x=>rw [hq] at h4;simp at h4;rw [h4]
   rw [this];rfl
  ·cases hw
def Xo {o:yY} {q:Op} (hq:zt O.P H q o) {r:AV×Hp×Nat} (hv:bt O.prog O.aU self tm hp ct q=some r):∀c,o.op≠.defer c:=by
 rcases hq with ⟨k,rfl⟩ | ⟨c,f,rs,h1,_,_⟩ | ⟨_,_,_,_,_,h1,_,_⟩
 ·exact ais hv
 ·intro c' h;rw [h1] at h;cases h
 ·intro c' h;rw [h1] at h;cases h
def anT (hC:nv O self) (hH:fF O H) {i:Nat} {r:bl} {o:yY} {v:AV} (hi:ops[i]? =some o) (hr:Ms O.P H ops r o\/(r.guard=none/\r.op=bad)) (hv:eT O.prog O.aU self tm hp ct r=some (v,ao,bh))
  (ht:cp O m S w tm a.tmps) (hh:aZ O m S w hp ct) (hn:H.n<=a.tmps.size) {K:Act->yh->Prop}
  (hK:∀u m' S' w',aZ O m' S' w' ao bh->ct<=bh->cp O m' S' w' (put r.dst v tm) (a.put o.dst u).tmps->cu m S w hp m' S' w' ao ct->K (a.put o.dst u) w'):wpOpIn (WF ro) 0 O.P ops Q i K a w:=by
 rcases hr with hr | ⟨h1,h2⟩
 case inr=>
  simp only [eT,h1,oI,h2,bad,bt,dC,az] at hv;cases hv
 unfold wpOpIn;simp only [hi];unfold eT at hv
 cases hw:oI tm r.guard with
 | none=>simp [hw] at hv
 | some b=>
  have Ux:=YF hr.guard (fun t _=>ht t) hw;have hd:=ZE hr.ok hn;rw [Ux]
  cases b with
  | true=>
   simp only [hw] at hv;simp only [y7];refine ZD hC hH hr.op (Xo hr.op hv) hv ht hh (fun u m' S' w' k1 k2 k3 k4=>hK u m' S' w' k1 k2 ?_ k4);rw [hr.dst];exact Qx (Ay (fun id p h=>k4.old id p (hh.lt id p h) h) k4.sub (fun b hb=>k4.still b hb) ht) hd k3
  | false=>
   simp only [hw,yc,yk] at hv;obtain ⟨rfl,rfl,rfl⟩:=hv;simp only [yC,yR];refine ⟨fun _ _=>trivial,hK undef m S w hh (yD _) ?_ cu.refl⟩;rw [hr.dst];exact Qx ht hd (by simp [aj,au,undef])
def aaH (hC:nv O self) (hH:fF O H):∀(l:List yY) (rs:List bl) (i:Nat) (s s':St) (a:Act) (m:Mp) (S:Nat->Prop) (w:yh),(∀j,l[j]? =ops[i+j]?)->mO O.P H ops rs l->
  dP O.prog O.aU self rs s=some s'->cp O m S w s.tm a.tmps->aZ O m S w s.hp s.ct->H.n<=a.tmps.size->
  (∀a' m' S' w',aZ O m' S' w' s'.hp s'.ct->s.ct<=s'.ct->cp O m' S' w' s'.tm a'.tmps->cu m S w s.hp m' S' w' s'.hp s.ct->a'.tmps.size=a.tmps.size->a'.defers=a.defers->s'.base=s.base->Q .normal a' w')->
  wpOpsIn (WF ro) 0 O.P ops Q (List.range' i l.length) a w
 | [],rs,i,s,s',a,m,S,w,hl,hr,hv,ht,hh,hn,hQ=>by
  cases rs with
  | cons _ _=>simp [mO] at hr
  | nil=>
   simp only [dP,yc] at hv;subst hv;simp only [yF,List.range'_zero,wpOpsIn];exact hQ a m S w hh (yD _) ht cu.refl rfl rfl rfl
 | o::l,rs,i,s,s',a,m,S,w,hl,hr,hv,ht,hh,hn,hQ=>by
  cases rs with
  | nil=>simp [mO] at hr
  | cons r rs=>
   simp only [mO] at hr;rw [XR] at hv
   cases h1:eT O.prog O.aU self s.tm s.hp s.ct r with
   | none=>simp [h1] at hv
   | some q=>
    obtain ⟨v,bD,rY⟩:=q;simp only [h1] at hv;have hi:ops[i]? =some o:=by have:=hl 0;simpa using this.symm
    rw [yv,List.range'_succ,wpOpsIn_cons];refine anT hC hH hi hr.1 h1 ht hh hn (fun u m1 S1 w1 k1 k2 k3 k4=>?_)
    refine aaH hC hH l rs (i+1) {s with tm:=put r.dst v s.tm,hp:=bD,ct:=rY} s' _ m1 S1 w1 (fun j=>?_) hr.2 hv k3 k1 (by rw [Lo];exact hn) (fun a' m' S' w' g1 g2 g3 g4 g5 g6 g7=>?_)
    ·have:=hl (j+1)
     rw [List.getElem?_cons_succ] at this;rw [this];congr 1;omega
    ·exact hQ a' m' S' w' g1 (xi k2 g2) g3 (k4.trans (g4.ru k2)) (by rw [g5,Lo]) (by rw [g6,PL]) g7
end
end
section
open Go
section
variable {ops:Array yY}
def Py {acc:List Nat} {i:Nat}:∀{es:List Edge},ua (AO acc es) i=true->∃e,e∈es/\Region.binds .any e=true/\(i=e.on\/ua (acc.getD e.on 0) i=true)
 | [],h=>by simp [AO] at h
 | e::r,h=>by
  simp only [AO] at h
  cases hb:Region.binds .any e with
  | false=>
   rw [hb] at h;obtain ⟨e',h1,h2⟩:=Py h
   grind
  | true=>
   rw [hb] at h;simp only [ym,Nat.testBit_or,uM] at h;rcases h with (h | h) | h
   ·grind
   ·grind
   ·obtain ⟨e',h1,h2⟩:=Py h
    grind
def YG {l:List yY} {acc:List Nat} {j:Nat} (hj:j<acc.length):(mh acc l)[j]? =acc[j]? :=by
 induction l generalizing acc with
 | nil=>rfl
 | cons o l ih=>
  simp only [mh]
  grind
def aiw {l:List yY} {acc:List Nat} {j:Nat} {o:yY} (h:l[j]? =some o):∃CL:List Nat,(mh acc l)[acc.length+j]? =some (AO CL o.after.toList)/\CL.length=acc.length+j/\∀k,k<CL.length->CL[k]? =(mh acc l)[k]? :=by
 induction l generalizing acc j with
 | nil=>simp at h
 | cons x l ih=>
  cases j with
  | zero=>
   simp only [vn,yc] at h;subst h;refine ⟨acc,?_,by simp,fun k hk=>?_⟩
   ·simp only [mh];rw [YG (by simp)]
    simp
   ·simp only [mh];rw [YG (by rw [yQ];omega),List.getElem?_append_left hk]
  | succ j=>
   obtain ⟨CL,h1,h2,h3⟩:=ih (acc:=acc++[AO acc x.after.toList]) h;simp only [yQ,yv,yF] at h1 h2;refine ⟨CL,?_,by omega,fun k hk=>?_⟩
   ·simp only [mh]
    grind
   ·simp only [mh];exact h3 k hk
def Ord (ops:Array yY) (i j:Nat):Prop:=ua ((mh [] ops.toList).getD j 0) i=true
def Rz (ops:Array yY) (D:Nat->Prop):Prop:=∀j o,ops[j]? =some o->D j->∀e,e∈o.after->Region.binds .any e=true->D e.on
def YH {D:Nat->Prop} (hc:Rz ops D):∀(j:Nat) (o:yY),ops[j]? =some o->(∀e,e∈o.after->Region.binds .any e=true->D e.on)->∀i,Ord ops i j->D i:=by
 intro j
 induction j using vR with
 | _ j ih=>
  intro o ho hr i hi;have kV:ops.toList[j]? =some o:=by simp_all
  obtain ⟨CL,h1,h2,h3⟩:=aiw (acc:=[]) kV;simp only [yF,Nat.zero_add] at h1 h2;unfold Ord at hi;rw [List.getD_eq_getElem?_getD,h1,vK] at hi;obtain ⟨e,g1,g2,g3⟩:=Py hi;have he:D e.on:=hr e (by simpa using g1) g2;rcases g3 with rfl | g3
  ·grind
  ·rcases wV e.on j with bi | lO
   ·have h4:=h3 e.on (by omega);have hol:e.on<ops.size:=by
     grind
    have Ur:ops[e.on]? =some ops[e.on]:=by simp_all
    refine ih e.on bi _ Ur (fun e' Uy cS=>hc e.on _ Ur he e' Uy cS) i ?_;unfold Ord
    grind
   ·grind
def alB {D:Nat->Prop} (hc:Rz ops D) {i j:Nat} {o:yY} (ho:ops[j]? =some o) (hj:D j) (hi:Ord ops i j):D i:=
 YH hc j o ho (fun e he hb=>hc j o ho hj e he hb) i hi
def W2:∀{l:List yY} {k j:Nat} {o:yY},He l k=true->l[j]? =some o->∀e,e∈o.after->Region.binds .any e=true->e.on<k+j
 | [],k,j,o,_,h=>by simp at h
 | x::l,k,j,o,hb,h=>by
  simp only [He,yf] at hb
  cases j with
  | zero=>
   simp only [vn,yc] at h;subst h;intro e he rU
   have:=List.all_eq_true.1 hb.1 e (by simpa using he)
   simp_all
  | succ j=>
   intro e he rU
   have:=W2 hb.2 h e he rU
   omega
end
def MX (a b:bl) (r:List bl):Prop:=Lg a b=false/\(Hd a b=false\/HC a b r=true)
def W4 {m:Nat} {b:bl}:∀{l:List bl} {k i:Nat} {a:bl},Lh m b l k=true->l[i]? =some a->ua m (k+i)=true\/MX a b (l.drop (i+1))
 | [],k,i,a,_,h=>by simp at h
 | x::l,k,i,a,hp,h=>by
  simp only [Lh,yf] at hp
  cases i with
  | zero=>
   simp only [vn,yc] at h;subst h;have h1:=hp.1;simp only [uM,uR,tN,Bool.and_eq_false_iff,Bool.not_eq_false'] at h1;rcases h1 with h1 | ⟨h1,h2⟩
   ·grind
   ·exact .inr ⟨h1,by simpa using h2⟩
  | succ i=>
   rcases W4 hp.2 h with h1 | h1
   ·grind
   ·grind
def Xa:∀{l done:List bl} {ms:List Nat} {i j:Nat} {a b:bl},DW done l ms=true->(done++l)[i]? =some a->l[j]? =some b->i<done.length+j->
  ∃m,ms[j]? =some m/\(ua m i=true\/MX a b (((done++l).take (done.length+j)).drop (i+1)))
 | [],done,ms,i,j,a,b,_,_,h,_=>by simp at h
 | x::l,done,[],i,j,a,b,hp,_,h,_=>by simp [DW] at hp
 | x::l,done,m::ms,i,j,a,b,hp,ha,h,Uz=>by
  simp only [DW,yf] at hp
  cases j with
  | zero=>
   have Dc:done[i]? =some a:=by grind
   have:=W4 hp.1 Dc
   grind
  | succ j=>
   have e:done++x::l=(done++[x])++l:=by simp
   obtain ⟨m',h1,h2⟩:=Xa (i:=i) (a:=a) hp.2 (by rw [<-e];exact ha) h (by simp;omega)
   grind
def KB {a b:bl} (h:Lg a b=false):(∀d,a.dst=some d->d∉Cl b/\b.dst≠some d)/\(∀d,b.dst=some d->d∉Cl a):=by
 have mem:∀{i:Nat} {l:List Nat},lD i l=false->i∉l:=by
  intro i l
  induction l with
  | nil=>intro _ h;cases h
  | cons j r ih=>
   intro h hm;simp only [lD] at h
   cases hb:yr j i with
   | true=>rw [hb] at h;cases h
   | false=>
    simp_all
 simp only [Lg,tN] at h;obtain ⟨⟨h1,h2⟩,h3⟩:=h;refine ⟨fun d hd=>⟨mem (by simpa [hd,EF] using h1),fun hb=>?_⟩,fun d hd=>mem (by simpa [hd,EF] using h2)⟩;rw [hd,hb] at h3;simp [adf] at h3
def XT {t:Nat}:∀{l:List bl},Eu t l=true->∀r,r∈l->r.dst≠some t
 | [],_,r,h=>by cases h
 | x::l,h,r,hr=>by
  simp only [Eu,yf,uR] at h;rcases wo.1 hr with rfl | hr
  ·intro hd;rw [hd] at h;simp [EF,lD] at h
  ·exact XT h.2 r hr
def P7 {sz t:Nat} {ag:Bool}:∀{l:List (Nat×Bool×Nat)},EG sz ag t l=true->(sz,ag,t)∈l
 | [],h=>by simp [EG] at h
 | (s,g,u)::r,h=>by
  simp only [EG,uM,yf] at h;rcases h with ⟨h1,h2,h3⟩ | h
  ·simp_all
  ·exact wk _ (P7 h)
def Qy:∀{a b:List Nat},cI a b=true->a=b
 | [],[],_=>rfl
 | [],_::_,h=>by simp [cI] at h
 | _::_,[],h=>by simp [cI] at h
 | x::a,y::b,h=>by
  simp only [cI,yf] at h;rw [yo h.1,Qy h.2]
def ajD {a b:AV} (h:MT a b=true):a=b:=by
 unfold MT at h
 split at h
 ·grind
 ·grind
 ·rw [Qy h]
 ·rfl
 ·rfl
 ·simp_all
 ·simp_all
 ·simp_all
 ·cases h
def Xb {tm:Env} {hp ao:Hp} {sz t:Nat} {ag:Bool} {v:AV}:∀{l:List (Nat×Bool×Nat)},pN tm hp ao l=true->(sz,ag,t)∈l->iK hp sz ag (af tm t)=some v->iK ao sz ag (af tm t)=some v
 | [],_,h,_=>by cases h
 | (s,g,u)::r,h,hm,hv=>by
  simp only [pN] at h
  cases h1:iK hp s g (af tm u) with
  | none=>simp [h1] at h
  | some x=>
   cases h2:iK ao s g (af tm u) with
   | none=>simp [h1,h2] at h
   | some y=>
    simp only [h1,h2,yf] at h;rcases wo.1 hm with e | hm
    ·simp only [yk] at e;obtain ⟨rfl,rfl,rfl⟩:=e;rw [h1] at hv;rw [h2,<-ajD h.1,hv]
    ·exact Xb h.2 hm hv
structure MY (P:aK) (L:Lib) (run:cJ) (rs:List bl) (ck:Nat->Env) (bP:Nat->Hp) (bL:Nat->Nat) (vF:Nat->AV):Prop where
 step:∀i r,rs[i]? =some r->eT P L run (ck i) (bP i) (bL i) r=some (vF i,bP (i+1),bL (i+1))
 tm:∀i r,rs[i]? =some r->ck (i+1)=put r.dst (vF i) (ck i)
def aaI {P:aK} {L:Lib} {self:cJ}:∀{rs:List bl} {s s':St},dP P L self rs s=some s'->
  ∃ck bP bL vF,MY P L self rs ck bP bL vF/\ck 0=s.tm/\bP 0=s.hp/\bL 0=s.ct/\ck rs.length=s'.tm/\bP rs.length=s'.hp/\bL rs.length=s'.ct/\s'.base=s.base
 | [],s,s',h=>by
  simp only [dP,yc] at h;subst h;exact ⟨fun _=>s.tm,fun _=>s.hp,fun _=>s.ct,fun _=> .undef,⟨fun i r h=>by simp at h,fun i r h=>by simp at h⟩,rfl,rfl,rfl,rfl,rfl,rfl,rfl⟩
 | r::rs,s,s',h=>by
  rw [XR] at h
  cases h1:eT P L self s.tm s.hp s.ct r with
  | none=>simp [h1] at h
  | some q=>
   obtain ⟨v,bD,rY⟩:=q;simp only [h1] at h;obtain ⟨ck,bP,bL,vF,g1,g2,g3,g4,g5,g6,g7,g8⟩:=aaI h;refine ⟨fun i=>match i with | 0=>s.tm | i+1=>ck i,fun i=>match i with | 0=>s.hp | i+1=>bP i,fun i=>match i with | 0=>s.ct | i+1=>bL i,fun i=>match i with | 0=>v | i+1=>vF i,⟨?_,?_⟩,rfl,rfl,rfl,by simpa using g5,by simpa using g6,by simpa using g7,g8⟩
   ·intro i r' hi
    cases i with
    | zero=>
     grind
    | succ i=>exact g1.step i r' (by simpa using hi)
   ·intro i r' hi
    cases i with
    | zero=>
     grind
    | succ i=>exact g1.tm i r' (by simpa using hi)
section
variable {P:aK} {L:Lib} {self:cJ} {rs:List bl} {ck:Nat->Env} {bP:Nat->Hp} {bL:Nat->Nat} {vF:Nat->AV}
def Hi (hR:MY P L self rs ck bP bL vF) {t i:Nat}:∀(k:Nat),i+k<=rs.length->(∀j r,i<=j->j<i+k->rs[j]? =some r->r.dst≠some t)->af (ck (i+k)) t=af (ck i) t
 | 0,_,_=>rfl
 | k+1,hk,h=>by
  have hr:rs[i+k]? =some rs[i+k]:=by simp_all
  rw [show i+(k+1)=i+k+1 by omega,hR.tm _ _ hr,Qv,yz (h (i+k) _ (by omega) (by omega) hr)];exact Hi hR k (by omega) (fun j r h1 h2=>h j r h1 (by omega))
def YI {r:bl} {tm:Env} {hp ao:Hp} {ct bh:Nat} {v:AV} (hk:bG r.op<=1) (hv:eT P L self tm hp ct r=some (v,ao,bh)) (bi:∀id o,ap hp id=some o->id<ct):il hp ct ao bh:=by
 unfold eT at hv
 cases hw:oI tm r.guard with
 | none=>simp [hw] at hv
 | some b=>
  cases b with
  | true=>simp only [hw] at hv;exact Xn hk hv bi
  | false=>
   simp only [hw,yc,yk] at hv;obtain ⟨rfl,rfl,rfl⟩:=hv;exact il.refl bi
def K3 (hR:MY P L self rs ck bP bL vF) {i:Nat} (bi:∀id o,ap (bP i) id=some o->id<bL i):∀(k:Nat),i+k<=rs.length->(∀j r,i<=j->j<i+k->rs[j]? =some r->bG r.op<=1)->il (bP i) (bL i) (bP (i+k)) (bL (i+k))
 | 0,_,_=>il.refl bi
 | k+1,hk,h=>by
  have ih:=K3 hR bi k (by omega) (fun j r h1 h2=>h j r h1 (by omega));have hr:rs[i+k]? =some rs[i+k]:=by simp_all
  exact ih.trans (YI (h (i+k) _ (by omega) (by omega) hr) (hR.step _ _ hr) ih.lt)
end
end
section
open Go
def Lq {tm:Env} {t:Nat}:∀{l:List Nat},t∈l->af (cX tm l) t=af tm t
 | [],h=>by cases h
 | i::r,h=>by
  simp only [cX,af]
  cases hb:yr i t with
  | true=>rw [yo hb];rfl
  | false=>
   rcases wo.1 h with e | h
   ·simp_all
   ·exact Lq h
def ajE {P:aK} {L:Lib} {self:cJ} {tm tm':Env} {hp:Hp} {ct:Nat} {o:Op} {r:AV×Hp×Nat} (h:∀t,t∈kE o->af tm' t=af tm t) (hv:bt P L self tm hp ct o=some r):bt P L self tm' hp ct (mT o)=some r:=by
 cases o with
 | gY rs f xs=>
  simp only [kE,wQ] at h;simp only [mT,bt] at hv ⊢
  rw [dY (x:=f) fun t ht=>h t (.inl ht),B9 (xs:=xs) fun t ht=>h t (.inr ht)]
  cases hc:dC P L self hp ct .dyn (az tm f) (dD tm xs) with
  | none=>simp [hc] at hv
  | some q=>
   obtain ⟨v1,bD,rY⟩:=q;simp only [hc] at hv
   cases hs:pN tm hp bD rs with
   | false=>rw [hs] at hv;cases hv
   | true=>
    rw [hs] at hv;simpa only [pN,ym] using hv
 | jE rs sz x v=>
  simp only [mT,bt] at hv ⊢
  rw [DG (o:= .st sz x v) (tm:=tm) h]
  grind
 | call md f xs=>
  rw [<-hv];simp only [kE,wQ] at h;simp only [mT,bt]
  rw [dY (x:=f) fun t ht=>h t (.inl ht),B9 (xs:=xs) fun t ht=>h t (.inr ht)]
 | st s x y=>rw [<-hv];exact DG h
 | oX kk x y z=>rw [<-hv];exact DG h
 | oZ x=>rw [<-hv];exact DG h
 | dH s b x y=>rw [<-hv];exact DG h
 | pc s x y=>rw [<-hv];exact DG h
 | box s x=>rw [<-hv];simp only [mT,bt];rw [G4 (hp:=hp) h]
 | bV n s z ps=>rw [<-hv];simp only [mT,bt];rw [G4 (hp:=hp) h]
 | gP s b z x y=>rw [<-hv];simp only [mT,bt];rw [G4 (hp:=hp) h]
 | zS=>exact hv
 | oY x=>rw [<-hv];simp only [mT,bt];rw [G4 (hp:=hp) h]
 | _=>rw [<-hv];simp only [mT,bt];rw [ahT h]
def ZF {P:aK} {L:Lib} {self:cJ} {tm:Env} {hp ao:Hp} {ct bh:Nat} {q:Op} {v:AV} (hk:bG q=0\/∃sz ag x,q= .ld sz ag x) (hv:bt P L self tm hp ct q=some (v,ao,bh)):bC tm hp q=some v/\ao=hp/\bh=ct:=by
 have kW:∀{q:Op},(match bC tm hp q with | some v=>some (v,hp,ct) | none=>(none:fQ))=some (v,ao,bh)->bC tm hp q=some v/\ao=hp/\bh=ct:=by grind
 rcases hk with hk | ⟨sz,ag,x,rfl⟩
 ·cases cf:q with
  | call md f xs=>subst cf;cases md<;>simp [bG] at hk
  | gY rs f xs=>subst cf;simp [bG] at hk
  | jE rs s x y=>subst cf;simp [bG] at hk
  | st s x y=>subst cf;simp [bG] at hk
  | oX kk x y z=>subst cf;simp [bG] at hk
  | oZ x=>subst cf;simp [bG] at hk
  | dH s b x y=>subst cf;simp [bG] at hk
  | pc s x y=>subst cf;simp [bG] at hk
  | box s x=>subst cf;simp [bG] at hk
  | bV n s z ps=>subst cf;simp [bG] at hk
  | gP s b z x y=>subst cf;simp [bG] at hk
  | zS=>subst cf;simp [bG] at hk
  | oY x=>subst cf;simp [bG] at hk
  | _=>exact cf▸kW (q:=q) (by rw [cf] at hv ⊢;exact hv)
 ·exact kW (q:= .ld sz ag x) (by simp only [bt] at hv;exact hv)
section
variable {O:bw} {H:Hint} {ops:Array yY} {rs:List bl} {ck:Nat->Env} {bP:Nat->Hp} {bL:Nat->Nat} {vF:Nat->AV} {self:cJ} {ro:Option Nat} {Q:uI->Act->yh->Prop}
structure rm (O:bw) (H:Hint) (slf:cJ) (ops:Array yY) (rs:List bl) (ck:Nat->Env) (bP:Nat->Hp) (bL:Nat->Nat) (vF:Nat->AV):Prop where
 run:MY O.prog O.aU slf rs ck bP bL vF
 len:rs.length=ops.size
 of:∀(i:Nat) (r:bl) (o:yY),rs[i]? =some r->ops[i]? =some o->Ms O.P H ops r o
 pair:∀(i j:Nat) (a b:bl),i<j->rs[i]? =some a->rs[j]? =some b->Ord ops i j\/MX a b ((rs.take j).drop (i+1))
 back:∀(i:Nat) (o:yY),ops[i]? =some o->∀e,e∈o.after->Region.binds .any e=true->e.on<i
def jH (rs:List bl) (i:Nat):Prop:=∃r,rs[i]? =some r/\bG r.op=2
def RA (rs:List bl):∀(k i:Nat),i+k=rs.length->∃c,i<=c/\c<=rs.length/\(∀j,i<=j->j<c->¬jH rs j)/\(c=rs.length\/jH rs c)
 | 0,i,h=>⟨i,yD _,by omega,fun j h1 h2=>by omega,.inl (by omega)⟩
 | k+1,i,h=>by
  rcases vO (jH rs i) with hw | hw
  ·grind
  ·obtain ⟨c,h1,h2,h3,h4⟩:=RA rs k (i+1) (by omega)
   grind
def HF {rs:List bl} {i:Nat} {r:bl} (hr:rs[i]? =some r) (hw:¬jH rs i):bG r.op<=1:=by
 have h:bG r.op≠2:=fun e=>hw ⟨r,hr,e⟩
 have:bG r.op<=2:=by
  cases r.op with
  | ef k x lo hi=>cases k<;>simp [bG]
  | len k x=>rcases k with _ | _ | k<;>simp [bG]
  | call md f xs=>cases md<;>simp [bG]
  | _=>simp [bG]
 omega
def Og (O:bw) (rs:List bl) (ck:Nat->Env) (D:Nat->Prop) (m:Mp) (S:Nat->Prop) (w:yh) (a:Act):Prop:=
 ∀t,∃j,j<=rs.length/\(∀(i:Nat) (r:bl),rs[i]? =some r->r.dst=some t->(D i↔i<j))/\aj O.ah m S w (af (ck j) t) (a.tmps.getD t undef)
def anU {D:Nat->Prop} {m:Mp} {S:Nat->Prop} {w:yh} {a:Act} {i:Nat} {r:bl} (hG:rm O H self ops rs ck bP bL vF) (hT:Og O rs ck D m S w a) (hr:rs[i]? =some r) (hi:¬D i)
  (eV:∀j,Ord ops j i->D j) (gA:∀j,Ord ops i j->¬D j):∀t,t∈Cl r->aj O.ah m S w (af (ck i) t) (a.tmps.getD t undef):=by
 intro t ht;obtain ⟨j,h1,h2,h3⟩:=hT t;have Fh:i<rs.length:=(we.1 hr).1;have e:af (ck j) t=af (ck i) t:=by
  rcases Nat.le_total j i with hji | Uz
  ·obtain ⟨k,rfl⟩:∃k,i=j+k:=⟨i-j,by omega⟩;refine (Hi hG.run k (by omega) (fun l rl g1 g2 hl hd=>?_)).symm;rcases hG.pair l (j+k) rl r (by omega) hl hr with ho | hf
   ·grind
   ·exact ((KB hf.1).1 t hd).1 ht
  ·obtain ⟨k,rfl⟩:∃k,j=i+k:=⟨j-i,by omega⟩;refine Hi hG.run k h1 (fun l rl g1 g2 hl hd=>?_);rcases wR g1 with rfl | g1
   ·grind
   ·rcases hG.pair i l r rl g1 hr hl with ho | hf
    ·grind
    ·exact (KB hf.1).2 t hd ht
 grind
def aaJ {D D':Nat->Prop} {m m':Mp} {S S':Nat->Prop} {w w':yh} {a:Act} {i:Nat} {r:bl} {u:ye} (hG:rm O H self ops rs ck bP bL vF) (hT:Og O rs ck D m S w a) (hr:rs[i]? =some r) (hi:¬D i)
  (eV:∀j,Ord ops j i->D j) (gA:∀j,Ord ops i j->¬D j) (hD:∀j,D' j↔D j\/j=i) (hm:dI m m') (hS:∀b,S b->S' b) (hw:fO S w w') (hd:∀d,r.dst=some d->d<a.tmps.size)
  (hv:aj O.ah m' S' w' (vF i) u):Og O rs ck D' m' S' w' (a.put r.dst u):=by
 intro t;have Fh:i<rs.length:=(we.1 hr).1;by_cases JJ:r.dst=some t
 ·refine ⟨i+1,Fh,fun l rl hl UA=>?_,?_⟩
  ·rw [hD];constructor
   ·rintro (h | h)
    ·rcases wV l (i+1) with g | g
     ·grind
     ·rcases hG.pair i l r rl (by omega) hr hl with ho | hf
      ·grind
      ·exact (((KB hf.1).1 t JJ).2 UA).elim
    ·omega
   ·intro h;rcases wR (uW h) with h | h
    ·grind
    ·rcases hG.pair l i rl r h hl hr with ho | hf
     ·grind
     ·exact (((KB hf.1).1 t UA).2 JJ).elim
  ·rw [hG.run.tm i r hr,Qv,Qw hd,yJ JJ,yJ JJ];exact hv
 ·obtain ⟨j,h1,h2,h3⟩:=hT t;refine ⟨j,h1,fun l rl hl UA=>?_,?_⟩
  ·grind
  ·rw [Qw hd,yz JJ];exact lX hm hS hw _ _ h3
def Xp {tm:Env} {hp ao:Hp} {ct bh id off sz Uw t:Nat} {ag:Bool} {x y:X} {v v':AV}:∀{l:List (Nat×Bool×Nat)},oD tm id l=true->(sz,ag,t)∈l->az tm x= .ptr id off->
  dc tm hp ct (.st Uw x y)=some (v',ao,bh)->iK hp sz ag (af tm t)=some v->iK ao sz ag (af tm t)=some v
 | [],_,h,_,_,_=>by cases h
 | (s,g,u)::r,h,hm,hx,hw,hv=>by
  simp only [oD,yf] at h;rcases wo.1 hm with e | hm
  ·simp only [yk] at e;obtain ⟨rfl,rfl,rfl⟩:=e;have h1:=h.1
   split at h1
   ·rename_i j o hj;have dS:j≠id:=by
     intro e
     simp_all
    rw [hj] at hv ⊢;simp only [dc,hx] at hw;have key:∀ob,ap (aY hp id ob) j=ap hp j:=fun ob=>by rw [qQ,yz (ybG dS)]
    split at hw
    ·rename_i pu ex z cs Fi;generalize (yr _ _&&yE _ _&&bQ _)=bb at hw
     cases bb with
     | false=>cases hw
     | true=>
      obtain ⟨_,rfl,_⟩:=hw;simp only [iK,key] at hv ⊢;exact hv
    ·cases hw
   ·rename_i cs hj;rw [hj] at hv ⊢;simpa only [iK] using hv
   ·cases h1
  ·exact Xp h.2 hm hx hw hv
def Xc {D:Nat->Prop} {i c:Nat} {r:bl} {sz t:Nat} {ag:Bool} (hG:rm O H self ops rs ck bP bL vF) (hr:rs[i]? =some r) (hi:¬D i) (BI:r.guard=none/\r.op= .ld sz ag (.t t)) (hc:c<=rs.length)
  (hW:∀j,j<c->jH rs j->D j) (gA:∀j,Ord ops i j->¬D j) (bi:∀j,j<=c->∀id o,ap (bP j) id=some o->id<bL j):∀k,i+1+k<=c->iK (bP (i+1+k)) sz ag (af (ck i) t)=some (vF i)
 | 0,hk=>by
  have h1:=hG.run.step i r hr;simp only [eT,BI.1,oI,BI.2] at h1;obtain ⟨h2,h3,h4⟩:=ZF (.inr ⟨_,_,_,rfl⟩) h1;simp only [bC,az] at h2
  grind
 | k+1,hk=>by
  have ih:=Xc hG hr hi BI hc hW gA bi k (by omega);have hl:i+1+k<rs.length:=by omega
  have hj:rs[i+1+k]? =some rs[i+1+k]:=by simp [hl]
  have bf:=hG.run.step _ _ hj;rw [show i+1+(k+1)=i+1+k+1 by omega];rcases vO (jH rs (i+1+k)) with hw | hw
  ·have hD:=hW _ (by omega) hw;rcases hG.pair i (i+1+k) r _ (by omega) hr hj with ho | hf
   ·grind
   ·obtain ⟨Dd,iC⟩:=hf;obtain ⟨eY,h5,h6⟩:=hw;rw [hj] at h5;injection h5 with h5
    subst h5;rcases iC with iC | iC
    ·have h1k:bG r.op=1:=by rw [BI.2];rfl
     simp only [Hd,h1k,h6] at iC;cases iC
    ·unfold HC at iC;simp only [BI.1,BI.2] at iC;generalize jF:(rs[i+1+k]).op=q at iC;have adl:Eu t (r::(rs.take (i+1+k)).drop (i+1))=true->af (ck (i+1+k)) t=af (ck i) t:=by
      intro atX;have lP:=XT atX;rw [show i+1+k=i+(1+k) by omega];refine Hi hG.run (1+k) (by omega) (fun l rl g1 g2 Oh=>lP rl ?_);rcases wR g1 with rfl | g1
      ·grind
      ·refine wk _ ?_
       have:((rs.take (i+1+k)).drop (i+1))[l-(i+1)]? =some rl:=by
        rw [List.getElem?_drop,List.getElem?_take_of_lt (by omega),show i+1+(l-(i+1))=l by omega];exact Oh
       exact List.mem_of_getElem? this
     unfold eT at bf
     cases hg:oI (ck (i+1+k)) (rs[i+1+k]).guard with
     | none=>simp [hg] at bf
     | some b=>
      cases b with
      | false=>
       simp only [hg,yc,yk] at bf;rw [<-bf.2.1];exact ih
      | true=>
       simp only [hg,jF] at bf;cases q<;>simp only [yC] at iC
       case gY Oi fx xs=>
        simp only [yf] at iC;have SD:=P7 iC.1;have JK:=adl iC.2;simp only [bt] at bf
        cases ix:dC O.prog O.aU self (bP (i+1+k)) (bL (i+1+k)) .dyn (az (ck (i+1+k)) fx) (dD (ck (i+1+k)) xs) with
        | none=>simp [ix] at bf
        | some z=>
         obtain ⟨v1,bD,rY⟩:=z;simp only [ix] at bf
         cases hs:pN (ck (i+1+k)) (bP (i+1+k)) bD Oi with
         | false=>rw [hs] at bf;cases bf
         | true=>
          rw [hs] at bf;simp only [ym,yc,yk] at bf;obtain ⟨_,h8,_⟩:=bf;rw [<-h8,<-JK];exact Xb hs SD (by rw [JK];exact ih)
       case jE Oi Uw x v=>
        simp only [yf] at iC;have SD:=P7 iC.1;have JK:=adl iC.2;simp only [bt] at bf
        split at bf
        ·rename_i id off hx
         cases hs:oD (ck (i+1+k)) id Oi with
         | false=>rw [hs] at bf;cases bf
         | true=>
          rw [hs] at bf;simp only [ym] at bf;rw [<-JK];exact Xp hs SD hx bf (by rw [JK];exact ih)
        ·cases bf
  ·exact aaB (YI (HF hj hw) bf (bi _ (by omega))).le ih
structure Inv (O:bw) (ops:Array yY) (rs:List bl) (ck:Nat->Env) (bP:Nat->Hp) (bL:Nat->Nat) (D:Nat->Prop) (m0:Mp) (S0:Nat->Prop) (w0:yh) (n0:Nat) (d0:List ybz) (st c:Nat) (m:Mp) (S:Nat->Prop) (w:yh) (a:Act):Prop where
 UB:st<=c
 cn:c<=rs.length
 before:∀i,i<st->jH rs i->D i
 Fj:∀i,st<=i->i<c->¬jH rs i
 cut:c=rs.length\/(jH rs c/\¬D c)
 behind:∀(i:Nat) (r:bl),c<=i->rs[i]? =some r->1<=bG r.op->¬D i
 hp:aZ O m S w (bP c) (bL c)
 UC:∀id p,m id=some p->id<bL st\/∃i,st<=i/\i<c/\D i/\bL i<=id/\id<bL (i+1)
 tm:Og O rs ck D m S w a
 Oj:cu m0 S0 w0 (bP 0) m S w (bP c) (bL 0)
 ge:bL 0<=bL c
 size:a.tmps.size=n0
 defers:a.defers=d0
 Fk:st=0\/jH rs (st-1)
 Fl:∀j,j<=c->∀id o,ap (bP j) id=some o->id<bL j
end
end
section
open Go
section
variable {O:bw} {H:Hint} {ops:Array yY} {rs:List bl} {ck:Nat->Env} {bP:Nat->Hp} {bL:Nat->Nat} {vF:Nat->AV} {self:cJ} {ro:Option Nat} {Q:uI->Act->yh->Prop}
variable {D D':Nat->Prop} {m0:Mp} {S0:Nat->Prop} {w0:yh} {n0:Nat} {d0:List ybz} {st c i:Nat} {m:Mp} {S:Nat->Prop} {w:yh} {a:Act} {r:bl} {o:yY}
def K4 (hG:rm O H self ops rs ck bP bL vF) (hI:Inv O ops rs ck bP bL D m0 S0 w0 n0 d0 st c m S w a) {x y:Nat} (hx:st<=x) (hxy:x<=y) (hy:y<=c):il (bP x) (bL x) (bP y) (bL y):=by
 obtain ⟨k,rfl⟩:∃k,y=x+k:=⟨y-x,by omega⟩
 have:=hI.cn
 exact K3 hG.run (hI.Fl x (by omega)) k (by omega) (fun j r h1 h2 hr=>HF hr (hI.Fj j (by omega) (by omega)))
def Qz (hG:rm O H self ops rs ck bP bL vF) (hI:Inv O ops rs ck bP bL D m0 S0 w0 n0 d0 st c m S w a) (hr:rs[i]? =some r) (hi:¬D i) (eV:∀j,Ord ops j i->D j) (gA:∀j,Ord ops i j->¬D j) (hD:∀j,D' j↔D j\/j=i)
  (hd:∀d,r.dst=some d->d<a.tmps.size) (hw:¬jH rs i) (z6:bG r.op=0\/i<c) {m':Mp} {S':Nat->Prop} {w':yh} {u:ye} (k1:aZ O m' S' w' (bP c) (bL c)) (k2:dI m m')
  (k3:∀id p,m' id=some p->m id=some p\/(st<=i/\i<c/\bL i<=id/\id<bL (i+1))) (k4:aj O.ah m' S' w' (vF i) u) (k5:cu m S w (bP c) m' S' w' (bP c) (bL c)):
  Inv O ops rs ck bP bL D' m0 S0 w0 n0 d0 st c m' S' w' (a.put r.dst u) where
 UB:=hI.UB
 cn:=hI.cn
 before j hj De:=(hD j).2 (.inl (hI.before j hj De))
 Fj:=hI.Fj
 cut:=hI.cut.imp (fun h=>h) (fun h=>⟨h.1,fun hc=>((hD c).1 hc).elim h.2 (fun e=>hw (e▸h.1))⟩)
 behind j rj hj Df hk JL:=((hD j).1 JL).elim (hI.behind j rj hj Df hk) (fun e=>by
  subst e;rw [hr] at Df;injection Df with Df
  subst Df
  rcases z6 with h | h<;>omega)
 hp:=k1
 UC id p hp:=by
  rcases k3 id p hp with h | ⟨h1,h2,h3,h4⟩
  ·rcases hI.UC id p h with h | ⟨j,g1,g2,g3,g4,g5⟩
   ·exact .inl h
   ·exact .inr ⟨j,g1,g2,(hD j).2 (.inl g3),g4,g5⟩
  ·exact .inr ⟨i,h1,h2,(hD i).2 (.inr rfl),h3,h4⟩
 tm:=aaJ hG hI.tm hr hi eV gA hD k2 k5.sub (fun b hb=>k5.still b hb) hd k4
 Oj:=hI.Oj.trans (k5.ru hI.ge)
 ge:=hI.ge
 size:=by rw [Lo];exact hI.size
 defers:=by rw [PL];exact hI.defers
 Fk:=hI.Fk
 Fl:=hI.Fl
def aaK (hG:rm O H self ops rs ck bP bL vF) (hI:Inv O ops rs ck bP bL D m0 S0 w0 n0 d0 st c m S w a) (hr:rs[c]? =some r) (hi:¬D c) (eV:∀j,Ord ops j c->D j) (gA:∀j,Ord ops c j->¬D j) (hD:∀j,D' j↔D j\/j=c)
  (hd:∀d,r.dst=some d->d<a.tmps.size) (hw:jH rs c) {m':Mp} {S':Nat->Prop} {w':yh} {u:ye} (k1:aZ O m' S' w' (bP (c+1)) (bL (c+1))) (k2:bL c<=bL (c+1))
  (k4:aj O.ah m' S' w' (vF c) u) (k5:cu m S w (bP c) m' S' w' (bP (c+1)) (bL c)):
  ∃c' BB,Inv O ops rs ck bP bL D' m0 S0 w0 n0 d0 (c+1) c' m' BB w' (a.put r.dst u):=by
 have ix:c<rs.length:=(we.1 hr).1;obtain ⟨c',h1,h2,h3,h4⟩:=RA rs (rs.length-(c+1)) (c+1) (by omega);obtain ⟨k,rfl⟩:∃k,c'=c+1+k:=⟨c'-(c+1),by omega⟩;have hg:∀k',k'<=k->il (bP (c+1)) (bL (c+1)) (bP (c+1+k')) (bL (c+1+k')):=fun k' pk=>
  K3 hG.run k1.bi k' (by omega) (fun j r g1 g2 hr=>HF hr (h3 j g1 (by omega)))
 obtain ⟨BB,g1,g2,g3,g4⟩:=Lm k1 (hg k (yD _));have hml:dI m m':=fun id p h=>k5.old id p (hI.hp.lt id p h) h
 refine ⟨c+1+k,BB,⟨by omega,h2,?_,h3,?_,?_,g1,fun id p h=> .inl (k1.lt id p h),?_,?_,?_,by rw [Lo];exact hI.size,by rw [PL];exact hI.defers,.inr (by simpa using hw),?_⟩⟩
 ·intro j hj De;rcases wR (uW hj) with e | hj
  ·exact (hD j).2 (.inr e)
  ·rcases wV j st with g | g
   ·exact (hD j).2 (.inl (hI.before j g De))
   ·exact (hI.Fj j g hj De).elim
 ·refine h4.imp (fun h=>h) (fun h=>⟨h,fun hc=>?_⟩);obtain ⟨rc,UD,z6⟩:=h;rcases (hD _).1 hc with g | g
  ·exact hI.behind _ rc (by omega) UD (by omega) g
  ·omega
 ·intro j rj hj Df hk JL;rcases (hD j).1 JL with g | g
  ·exact hI.behind j rj (by omega) Df hk g
  ·omega
 ·exact aaJ hG hI.tm hr hi eV gA hD hml (fun b hb=>g2 b (k5.sub b hb)) (fun b hb=>k5.still b hb) hd (lX (fun _ _ h=>h) g2 (fun _ _=>rfl) _ _ k4)
 ·exact (hI.Oj.trans (k5.ru hI.ge)).trans (g4 (bL 0))
 ·have:=(hg k (yD _)).pq
  have:=hI.ge
  omega
 ·intro j hj;rcases wV c j with g | g
  ·obtain ⟨k',rfl⟩:∃k',j=c+1+k':=⟨j-(c+1),by omega⟩;exact (hg k' (by omega)).lt
  ·exact hI.Fl j g
def alC {q:Op} (h:bG q≠2):mT q=q:=by
 cases q<;>first
  | rfl
  | exact absurd rfl h
def XU {x y:bl} {l:List bl} (h:MX x y l):¬(bG x.op=2/\1<=bG y.op)/\(1<=bG x.op->bG y.op=2->x.guard=none/\∃sz ag t,x.op= .ld sz ag (.t t)):=by
 obtain ⟨_,h⟩:=h;have ex:HC x y l=true->x.guard=none/\∃sz ag t,x.op= .ld sz ag (.t t):=by
  intro he;unfold HC at he
  grind
 have k2:∀q:Op,bG q<=2:=fun q=>by
  cases q with
  | ef k x lo hi=>cases k<;>simp [bG]
  | len k x=>rcases k with _ | _ | k<;>simp [bG]
  | call md f xs=>cases md<;>simp [bG]
  | _=>simp [bG]
 constructor
 ·rintro ⟨h1,h2⟩;rcases h with h | h
  ·have:bG y.op=1\/bG y.op=2:=by grind
   rcases this with e | e<;>(simp only [Hd,h1,e] at h;cases h)
  ·obtain ⟨_,sz,ag,t,e⟩:=ex h;rw [e] at h1;cases h1
 ·intro h1 h2;rcases h with h | h
  ·have:bG x.op=1\/bG x.op=2:=by grind
   rcases this with e | e<;>(simp only [Hd,h2,e] at h;cases h)
  ·exact ex h
def alD (hC:nv O self) (hH:fF O H) (hG:rm O H self ops rs ck bP bL vF) (hn:H.n<=n0) (hI:Inv O ops rs ck bP bL D m0 S0 w0 n0 d0 st c m S w a) (hr:rs[i]? =some r) (ho:ops[i]? =some o) (hi:¬D i)
  (eV:∀j,Ord ops j i->D j) (gA:∀j,Ord ops i j->¬D j) (hD:∀j,D' j↔D j\/j=i) {K:Act->yh->Prop}
  (hK:∀st' c' m' S' w' a',Inv O ops rs ck bP bL D' m0 S0 w0 n0 d0 st' c' m' S' w' a'->K a' w'):wpOpIn (WF ro) 0 O.P ops Q i K a w:=by
 have da:=hG.of i r o hr ho;have SE:=anU hG hI.tm hr hi eV gA;have bf:=hG.run.step i r hr;have hd:∀d,r.dst=some d->d<a.tmps.size:=by
  rw [da.dst];exact ZE da.ok (by rw [hI.size];exact hn)
 have kZ:=hI.UB;have lO:1<=bG r.op->i<=c:=by
  intro hk;rcases wV c i with UE | UE
  ·have Fh:i<rs.length:=(we.1 hr).1;rcases hI.cut with h | ⟨⟨rc,UD,z6⟩,JB⟩
   ·omega
   ·rcases hG.pair c i rc r UE UD hr with h | h
    ·exact (JB (eV c h)).elim
    ·exact ((XU h).1 ⟨z6,hk⟩).elim
  ·exact UE
 have BJ:jH rs i->i=c:=by
  intro hw;obtain ⟨eY,h1,h2⟩:=hw;rw [hr] at h1;injection h1 with h1
  subst h1;have h3:=lO (by omega);rcases wR h3 with e | h3
  ·exact e
  ·rcases wV i st with g | g
   ·exact (hi (hI.before i g ⟨r,hr,h2⟩)).elim
   ·exact (hI.Fj i g h3 ⟨r,hr,h2⟩).elim
 have bi:1<=bG r.op->¬jH rs i->i<c:=by
  intro hk hw;rcases wR (lO hk) with e | h
  ·subst e;rcases hI.cut with h | h
   ·have Fh:i<rs.length:=(we.1 hr).1;omega
   ·exact (hw h.1).elim
  ·exact h
 have z6:¬jH rs i->bG r.op=0\/i<c:=fun hw=>by
  rcases xr (bG r.op) with h | h
  ·exact .inl h
  ·exact .inr (bi h hw)
 unfold wpOpIn;simp only [ho];unfold eT at bf
 cases Ok:oI (ck i) r.guard with
 | none=>simp [Ok] at bf
 | some b=>
  have Ux:=YF da.guard (fun t ht=>SE t (by simp [Cl,ht])) Ok;rw [Ux]
  cases b with
  | false=>
   simp only [Ok,yc,yk] at bf;obtain ⟨hv,hh,hc⟩:=bf;simp only [yC,yR];refine ⟨fun _ _=>trivial,?_⟩;have eO:∀m S w,aj O.ah m S w (vF i) undef:=fun m S w=>by rw [<-hv];simp [aj,au,undef]
   rw [<-da.dst];rcases vO (jH rs i) with hw | hw
   ·have e:=BJ hw;subst e;obtain ⟨c',BB,h⟩:=aaK hG hI hr hi eV gA hD hd hw (m':=m) (S':=S) (w':=w) (u:=undef) (by rw [<-hh,<-hc];exact hI.hp) (by omega) (eO _ _ _) (by rw [<-hh];exact cu.refl)
    exact hK _ _ _ _ _ _ h
   ·exact hK _ _ _ _ _ _ (Qz hG hI hr hi eV gA hD hd hw (z6 hw) (m':=m) (S':=S) (w':=w) (u:=undef) hI.hp dI.refl (fun _ _ h=> .inl h) (eO _ _ _) cu.refl)
  | true=>
   simp only [Ok] at bf;simp only [y7];have lP:=Xo da.op bf;have Ol:cp O m S w (cX (ck i) (kE r.op)) a.tmps:=fun t=>by
    rcases vO (t∈kE r.op) with h | h
    ·rw [Lq h];exact SE t (by simp [Cl,h])
    ·have:af (cX (ck i) (kE r.op)) t= .undef:=by
      clear SE bf;revert h;generalize kE r.op=l;intro h
      induction l with
      | nil=>rfl
      | cons x l ih=>
       simp only [cX,af];have hx:yr x t=false:=by
        cases hq:yr x t with
        | false=>rfl
        | true=>exact absurd (by rw [yo hq];exact List.mem_cons_self) h
       rw [hx];exact ih (fun h'=>h (wk _ h'))
     rw [this];simp only [aj]
   have Dg:bt O.prog O.aU self (cX (ck i) (kE r.op)) (bP i) (bL i) (mT r.op)=some (vF i,bP (i+1),bL (i+1)):=
    ajE (fun t ht=>Lq ht) bf
   have abr:¬jH rs i->mT r.op=r.op:=fun hw=>alC (fun h=>hw ⟨r,hr,h⟩)
   have now:¬jH rs i->bC (cX (ck i) (kE r.op)) (bP c) r.op=some (vF i)->Oper.wpIn (WF ro) 0 O.P o a w K Q:=by
    intro hw kW;have jF:∃k,r.op=br O.P H k o:=by
     rcases da.op with h | ⟨cc,f,rr,_,_,h⟩ | ⟨_,_,_,_,_,_,_,h⟩
     ·exact h
     ·rw [h] at kW;simp [bC] at kW
     ·rw [h] at kW;simp [bC] at kW
    obtain ⟨k,hk⟩:=jF;rw [hk] at kW;rw [hk] at Ol;obtain ⟨u,h1,h2⟩:=aav hH Ol hI.hp kW;refine L7 lP h1 (.inl rfl) ?_;rw [<-da.dst];exact hK _ _ _ _ _ _ (Qz hG hI hr hi eV gA hD hd hw (z6 hw) hI.hp dI.refl (fun _ _ h=> .inl h) h2 cu.refl)
   rcases vO (jH rs i) with hw | hw
   ·have e:=BJ hw;subst e;refine ZD hC hH (aiv da.op) lP Dg Ol hI.hp (fun u m' S' w' k1 k2 k3 k4=>?_);rw [<-da.dst];obtain ⟨c',BB,h⟩:=aaK hG hI hr hi eV gA hD hd hw k1 k2 k3 k4;exact hK _ _ _ _ _ _ h
   ·rcases xr (bG r.op) with hk | hk
    ·have Dg:=abr hw▸Dg;obtain ⟨h1,_,_⟩:=ZF (.inl hk) Dg;exact now hw (by rw [ajv hk (bP c) (bP i)];exact h1)
    ·have Fc:=bi hk hw;rcases wV i st with SF | SF
     ·
      rcases hI.Fk with h0 | h0
      ·omega
      ·have bD:D (st-1):=hI.before _ (by omega) h0;have dS:i≠st-1:=fun e=>hi (e▸bD)
       obtain ⟨rp,hrp,hkp⟩:=h0;rcases hG.pair i (st-1) r rp (by omega) hr hrp with h | h
       ·exact (gA _ h bD).elim
       ·obtain ⟨hg,sz,ag,t,jF⟩:=(XU h).2 hk hkp;have hl:=Xc (c:=c) hG hr hi ⟨hg,jF⟩ hI.cn (fun j hj De=>by
         rcases wV j st with g | g
         ·exact hI.before j g De
         ·exact (hI.Fj j g hj De).elim) gA hI.Fl (c-(i+1)) (by omega)
        rw [show i+1+(c-(i+1))=c by omega] at hl;refine now hw ?_;rw [jF];simp only [bC,az];rw [Lq (by simp [kE,ju])];exact hl
     ·have ib:=K4 hG hI (x:=i+1) (y:=c) (by omega) Fc (yD _);have JM:=K4 hG hI (x:=st) (y:=i) (yD _) SF (by omega)
      refine quiet_step (Hq:=bP c) (cH:=bL c) hC hH (HF hr hw) da.op lP (abr hw▸Dg) ib.le ib.pq (hI.Fl i (by omega)) ?_ Ol hI.hp (fun u m' S' w' k1 k2 k3 k4 k5=>?_)
      ·intro id h1 h2
       cases hm:m id with
       | none=>rfl
       | some p=>
        rcases hI.UC id p hm with h | ⟨j,q1,q2,q3,q4,q5⟩
        ·have:=JM.pq;omega
        ·rcases Nat.lt_trichotomy j i with g | g | g
         ·have:=(K4 hG hI (x:=j+1) (y:=i) (by omega) g (by omega)).pq;omega
         ·subst g;exact (hi q3).elim
         ·have:=(K4 hG hI (x:=i+1) (y:=j) (by omega) g (by omega)).pq;omega
      ·rw [<-da.dst];exact hK _ _ _ _ _ _ (Qz hG hI hr hi eV gA hD hd hw (.inr Fc) k1 k2 (fun id p h=>(k3 id p h).imp (fun h=>h) (fun h=>⟨SF,Fc,h.1,h.2⟩)) k4 k5)
def left (n:Nat) (listed:Array Bool):Nat:=(List.range n).countP fun i=> !listed.getD i false
def alE {n:Nat} {listed:Array Bool} {i:Nat} (hi:i<n) (hs:listed.size=n) (hl:listed.getD i true=false):left n (listed.setIfInBounds i true)+1=left n listed:=by
 have key:∀(l:List Nat),l.Nodup->(i∈l->(l.countP fun j=> !(listed.setIfInBounds i true).getD j false)+1=l.countP fun j=> !listed.getD j false)/\(i∉l->(l.countP fun j=> !(listed.setIfInBounds i true).getD j false)=l.countP fun j=> !listed.getD j false):=by
  intro l
  induction l with
  | nil=>intro _;exact ⟨fun h=>(by cases h),fun _=>rfl⟩
  | cons x l ih=>
   intro lP;have hx:x≠i->(listed.setIfInBounds i true).getD x false=listed.getD x false:=fun h=>getD_set_ne false (ybG h)
   refine ⟨fun hm=>?_,fun hm=>?_⟩
   ·rw [yax,yax];by_cases e:x=i
    ·simp_all
    ·grind
   ·grind
 exact (key _ List.nodup_range).1 (List.mem_range.2 hi)
def ajF {n:Nat} {listed:Array Bool} (h:left n listed=0):∀i,i<n->listed.getD i false=true:=by
 unfold left at h
 simp_all
def ajG {listed:Array Bool} (hs:listed.size=ops.size) (hb:∀(i:Nat) (o:yY),ops[i]? =some o->∀e,e∈o.after->Region.binds .any e=true->e.on<i) (h:Region.ready .any ops listed=[]):∀i,i<ops.size->listed.getD i false=true:=by
 intro i
 induction i using vR with
 | _ i ih=>
  intro hi
  cases hq:listed.getD i false with
  | true=>rfl
  | false=>
   have:i∈Region.ready .any ops listed:=by
    refine mem_ready.2 ⟨?_,ops[i],by simp [hi],fun e he rU=>?_⟩
    ·have bi:i<listed.size:=by omega
     simp only [wT,bi,Array.getElem?_eq_getElem,vK] at hq ⊢;exact hq
    ·have:=hb i ops[i] (by simp [hi]) e he rU
     exact ih e.on this (by omega)
   rw [h] at this;cases this
def anV (hG:rm O H self ops rs ck bP bL vF) (hI:Inv O ops rs ck bP bL D m0 S0 w0 n0 d0 st c m S w a) (mq:∀i,i<rs.length->D i):
  aZ O m S w (bP rs.length) (bL rs.length)/\cp O m S w (ck rs.length) a.tmps/\cu m0 S0 w0 (bP 0) m S w (bP rs.length) (bL 0)/\bL 0<=bL rs.length:=by
 have hc:c=rs.length:=by
  rcases hI.cut with h | ⟨⟨r,h1,_⟩,h2⟩
  ·grind
  ·grind
 subst hc;refine ⟨hI.hp,fun t=>?_,hI.Oj,hI.ge⟩;obtain ⟨j,h1,h2,h3⟩:=hI.tm t;obtain ⟨k,hk⟩:∃k,rs.length=j+k:=⟨rs.length-j,by omega⟩
 have:=Hi (t:=t) (i:=j) hG.run k (by omega) (fun l r g1 g2 hl hd=>by
  have:=(h2 l r hl hd).1 (mq l (we.1 hl).1)
  omega)
 grind
def ap4 (hC:nv O self) (hH:fF O H) (hG:rm O H self ops rs ck bP bL vF) (hn:H.n<=n0)
  (hQ:∀a' m' S' w',aZ O m' S' w' (bP rs.length) (bL rs.length)->bL 0<=bL rs.length->cp O m' S' w' (ck rs.length) a'.tmps->cu m0 S0 w0 (bP 0) m' S' w' (bP rs.length) (bL 0)->a'.tmps.size=n0->a'.defers=d0->Q .normal a' w'):
  ∀(bB:Nat) (listed:Array Bool) (st c:Nat) (m:Mp) (S:Nat->Prop) (w:yh) (a:Act),listed.size=ops.size->left ops.size listed=bB->Rz ops (fun i=>listed.getD i false=true)->
   Inv O ops rs ck bP bL (fun i=>listed.getD i false=true) m0 S0 w0 n0 d0 st c m S w a->wpAnyIn (WF ro) 0 O.P .any ops Q bB listed a w:=by
 have fin:∀(listed:Array Bool) (st c:Nat) (m:Mp) (S:Nat->Prop) (w:yh) (a:Act),Inv O ops rs ck bP bL (fun i=>listed.getD i false=true) m0 S0 w0 n0 d0 st c m S w a->(∀i,i<ops.size->listed.getD i false=true)->Q .normal a w:=by
  intro listed st c m S w a hI mq;obtain ⟨h1,h2,h3,h4⟩:=anV hG hI (fun i hi=>mq i (by rw [<-hG.len];exact hi))
  exact hQ a m S w h1 h4 h2 h3 hI.size hI.defers
 intro bB
 induction bB with
 | zero=>
  intro listed st c m S w a hs hl hc hI;have mq:=ajF hl;refine ⟨?_,fin listed st c m S w a hI mq⟩;rw [List.eq_nil_iff_forall_not_mem];intro i hm;obtain ⟨h1,o,ho,_⟩:=mem_ready.1 hm
  grind
 | succ bB ih=>
  intro listed st c m S w a hs hl hc hI;refine ⟨fun h=>fin listed st c m S w a hI (ajG hs hG.back h),fun i hm=>?_⟩;obtain ⟨h1,o,ho,h2⟩:=mem_ready.1 hm;have hi:i<ops.size:=(Array.getElem?_eq_some_iff.1 ho).1;have hr:rs[i]? =some (rs[i]'(by rw [hG.len];exact hi)):=by simp [hG.len,hi]
  have bi:i<listed.size:=by omega
  have hni:¬listed.getD i false=true:=by
   grind
  have hD:∀j,(listed.setIfInBounds i true).getD j false=true↔listed.getD j false=true\/j=i:=by
   intro j;by_cases e:j=i
   ·simp_all
   ·rw [getD_set_ne false (ybG e)];simp [e]
  refine alD hC hH hG hn hI hr ho hni (YH hc i o ho h2) (fun j hj JL=>?_) hD (fun st' c' m' S' w' a' UF=>ih (listed.setIfInBounds i true) st' c' m' S' w' a' (by simp [hs]) ?_ ?_ UF)
  ·have hjl:j<ops.size:=by
    grind
   exact hni (alB hc (show ops[j]? =some ops[j] by simp [hjl]) JL hj)
  ·have:=alE hi hs h1
   omega
  ·intro j oj hoj hj e he hb;rw [hD];rcases (hD j).1 hj with g | g
   ·exact .inl (hc j oj hoj g e he hb)
   ·grind
end
end
end VE
