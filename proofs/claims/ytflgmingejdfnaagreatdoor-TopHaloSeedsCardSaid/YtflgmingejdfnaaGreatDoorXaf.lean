import Derived.OrdersIn
import Derived.Test.YtflgmingejdfnaaGreatDoorXae
set_option linter.all false
set_option maxRecDepth 100000
open Array renaming getD_eq_getD_getElem?→wj
open Bool renaming and_eq_true→yf,false_eq_true→yt,not_eq_true'→uf,or_eq_false_iff→uQ,or_eq_true→vY
open Classical renaming em→wY
open Go renaming Call→tq,Deferred→yaF,Exit→vT,Oper→yL,Operand→xh,Program→yM,Value→ye,World→yg
open List renaming countP_cons→tK,getElem?_cons_zero→wC,getElem?_eq_some_iff→xF,length_append→yW,length_cons→yz,length_nil→y5,mem_append→xR,mem_cons→wc,mem_cons_of_mem→xT
open Nat renaming beq→yq,ble→yA,eq_of_beq_eq_true→yk,eq_or_lt_of_le→wa,eq_zero_or_pos→xp,le_of_lt_succ→um,le_refl→yC,le_trans→xz,lt_or_ge→wm,strongRecOn→w6,testBit→vn
open Ne renaming symm→yaE
open Option renaming bind_some→xt,getD_some→vv
open Option.some renaming injEq→yb
open Prod.mk renaming injEq→yi
namespace VE
section
open Go
section
variable {O:aZ} {H:Hint} {m:Mp} {S:Nat->Prop} {w:yg} {tm:Env} {a:Act} {hp ai:Hp} {ct aK:Nat} {self:bZ} {ro:Option Nat} {next:Act->yg->Prop} {Q:vT->Act->yg->Prop}
def bH.mG {m':Mp} {S':Nat->Prop} {w':yg} {b b':Nat} (h:bH m S w hp m' S' w' ai b) (hb:b'<=b):bH m S w hp m' S' w' ai b':=
 ⟨h.os,h.tape,h.output,h.size,h.same,h.sub,h.still,h.new,h.own,fun i q hi hq=>h.old i q (by omega) hq,h.loops⟩
def aev {hp:Hp} {ct:Nat} {r:AV} (aU:∀id o,aj hp id=some o->id<ct):∀id o,aj (own hp ct r).2.1 id=some o->id<(own hp ct r).2.2:=by
 have hL:∀(vs:List AV) (hp:Hp) (ct:Nat),(∀id o,aj hp id=some o->id<ct)->∀id o,aj (gn hp ct vs).2.1 id=some o->id<(gn hp ct vs).2.2:=by
  intro vs
  induction vs with
  | nil=>intro hp ct h id o ho;exact h id o ho
  | cons v r ih=>intro hp ct h id o ho;exact ih _ _ (A3 h) id o ho
 cases r with
 | ay vs=>exact hL vs hp ct aU
 | _=>exact A3 aU
def aew {hp:Hp} {ct:Nat} {r:AV} (aU:∀id o,aj hp id=some o->id<ct):∀id o,aj hp id=some o->aj (own hp ct r).2.1 id=some o:=by
 cases r with
 | ay vs=>exact Ef aU
 | _=>exact Ix aU
def aex {hp:Hp} {ct:Nat} {r:AV}:ct<=(own hp ct r).2.2:=by
 cases r with
 | ay vs=>exact Ee
 | _=>exact Ed
def aao {hp:Hp} {ct:Nat} {r:AV}:∀id o,aj (own hp ct r).2.1 id=some o->id<ct->aj hp id=some o:=by
 have h1:∀(hp:Hp) (ct:Nat) (r:AV) id o,aj (dL hp ct r).2.1 id=some o->id<ct->aj hp id=some o:=by
  intro hp ct r id o h hc;cases r<;>simp only [dL] at h<;>try exact h
  rw [eW,yD (by omega)] at h;exact h
 have hL:∀(vs:List AV) (hp:Hp) (ct:Nat) id o,aj (gn hp ct vs).2.1 id=some o->id<ct->aj hp id=some o:=by
  intro vs
  induction vs with
  | nil=>intro hp ct id o ho _;exact ho
  | cons v r ih=>intro hp ct id o ho hc;exact h1 hp ct v id o (ih _ _ id o ho (by have:=Ed (hp:=hp) (ct:=ct) (r:=v);omega)) hc
 cases r with
 | ay vs=>exact hL vs hp ct
 | _=>exact h1 hp ct _
structure fj (hp:Hp) (ct:Nat) (ai:Hp) (aK:Nat):Prop where
 le:cr hp ai
 kY:ct<=aK
 lt:∀id o,aj ai id=some o->id<aK
 back:∀id o,aj ai id=some o->id<ct->∃o',aj hp id=some o'
def fj.refl (aU:∀id o,aj hp id=some o->id<ct):fj hp ct hp ct:=⟨cr.refl,yC _,aU,fun _ o h _=>⟨o,h⟩⟩
def fj.trans {B1:Hp} {SZ:Nat} (h:fj hp ct ai aK) (k:fj ai aK B1 SZ):fj hp ct B1 SZ:=
 ⟨h.le.trans k.le,xz h.kY k.kY,k.lt,fun id o ho hi=>let ⟨o1,h1⟩:=k.back id o ho (Nat.lt_of_lt_of_le hi h.kY);h.back id o1 h1 hi⟩
def M0 {EG vals:List AV} {bl:Hp} (hz:bO deep hp EG=some (vals,bl)) (aU:∀id o,aj hp id=some o->id<ct):fj hp ct bl ct:=by
 obtain ⟨z1,z2,_⟩:=G6 (O:=⟨default,⟨fun _=>none,fun _=>none⟩,fun _=>0,fun _=>none,fun _=>⟨0,fun _=>none,fun _=>[],fun _=>none,fun _=> .pure,fun _=>[]⟩,default⟩) hz;have hb:∀id o,aj bl id=some o->∃o',aj hp id=some o':=fun id o h=>by
  have:=z2 id
  rw [h] at this
  cases hq:aj hp id with
  | none=>rw [hq] at this;cases this
  | some q=>exact ⟨q,rfl⟩
 exact ⟨z1,yC _,fun id o h=>let ⟨o',h'⟩:=hb id o h;aU id o' h',fun id o h _=>hb id o h⟩
def YJ {r:AV} (aU:∀id o,aj hp id=some o->id<ct):fj hp ct (own hp ct r).2.1 (own hp ct r).2.2:=
 ⟨fun id o h=>⟨o,aew aU id o h,fY.refl o⟩,aex,aev aU,fun id o h hi=>⟨o,aao id o h hi⟩⟩
def LK {P:aA} {L:Lib} {q:Op} {v:AV} (hk:bf q<=1) (hv:aY P L self tm hp ct q=some (v,ai,aK)) (aU:∀id o,aj hp id=some o->id<ct):fj hp ct ai aK:=by
 have bW:∀{q:Op},(match bV tm hp ct q with | some (v,b)=>some (v,(ct,b)::hp,ct+1) | none=>(none:ez))=some (v,ai,aK)->fj hp ct ai aK:=by
  intro q h
  cases hm:bV tm hp ct q with
  | none=>simp [hm] at h
  | some r=>
   obtain ⟨v1,b⟩:=r;simp only [hm,yb,yi] at h;obtain ⟨rfl,rfl,rfl⟩:=h;refine ⟨fun id o ho=>⟨o,?_,fY.refl o⟩,by omega,fun id o ho=>?_,fun id o ho hi=>?_⟩
   ·rw [eW,yD (by have:=aU id o ho;omega)];exact ho
   ·rw [eW] at ho
    grind
   ·rw [eW,yD (by omega)] at ho;exact ⟨o,ho⟩
 have gT:∀{q:Op},(match bc tm hp q with | some v=>some (v,hp,ct) | none=>(none:ez))=some (v,ai,aK)->fj hp ct ai aK:=by
  intro q h
  cases hm:bc tm hp q with
  | none=>simp [hm] at h
  | some r=>
   simp only [hm,yb,yi] at h;obtain ⟨rfl,rfl,rfl⟩:=h;exact fj.refl aU
 cases bI:q with
 | st _ _ _=>simp [bI,bf] at hk
 | kO _ _ _ _=>simp [bI,bf] at hk
 | kQ _=>simp [bI,bf] at hk
 | cC _ _ _ _=>simp [bI,bf] at hk
 | kR _ _ _=>simp [bI,bf] at hk
 | eX _ _ _=>simp [bI,bf] at hk
 | gP _ _ _ _=>simp [bI,bf] at hk
 | box s x=>exact bW (q:=q) (by rw [bI] at hv ⊢;simp only [aY] at hv;exact hv)
 | cd n s z ps=>exact bW (q:=q) (by rw [bI] at hv ⊢;simp only [aY] at hv;exact hv)
 | eT s b z x y=>exact bW (q:=q) (by rw [bI] at hv ⊢;simp only [aY] at hv;exact hv)
 | nZ=>exact bW (q:=q) (by rw [bI] at hv ⊢;simp only [aY] at hv;exact hv)
 | kP x=>exact bW (q:=q) (by rw [bI] at hv ⊢;simp only [aY] at hv;exact hv)
 | call md x xs=>
  subst bI;simp only [aY,cw] at hv
  split at hv
  ·rename_i g first cap hx
   cases md with
   | heap=>simp [bf] at hk
   | dyn=>simp [bf] at hk
   | pure=>
    simp only at hv
    cases hz:bO deep hp (first++(cx tm xs++cap)) with
    | none=>simp [hz] at hv
    | some z=>
     obtain ⟨vals,bl⟩:=z;simp only [hz] at hv
     cases hr:cf P L self g vals with
     | none=>simp [hr] at hv
     | some r=>
      simp only [hr,yb,yi] at hv;obtain ⟨rfl,rfl,rfl⟩:=hv;exact M0 hz aU
   | own=>
    simp only at hv
    cases hz:bO deep hp (first++(cx tm xs++cap)) with
    | none=>simp [hz] at hv
    | some z=>
     obtain ⟨vals,bl⟩:=z;simp only [hz] at hv
     cases hr:cf P L self g vals with
     | none=>simp [hr] at hv
     | some r=>
      simp only [hr,yb] at hv;have e2:ai=(own bl ct r).2.1:=by rw [hv]
      have e3:aK=(own bl ct r).2.2:=by rw [hv]
      subst e2;subst e3;have g1:=M0 hz aU;exact g1.trans (YJ g1.lt)
  ·cases md with
   | heap=>simp [bf] at hk
   | dyn=>simp [bf] at hk
   | _=>simp at hv
  ·cases hv
 | _=>exact gT (q:=q) (by rw [bI] at hv ⊢;simp only [aY] at hv;exact hv)
def DY (hh:aH O m S w hp ct) (hg:fj hp ct ai aK):∃S',aH O m S' w ai aK/\(∀b,S b->S' b)/\(∀b,S' b->S b\/cX m hp b)/\∀base,bH m S w hp m S' w ai base:=by
 have hd:∀id o p,aj ai id=some o->m id=some p->∃o',aj hp id=some o':=fun id o p h hm=>hg.back id o h (hh.lt id p hm)
 obtain ⟨S',g1,g2,g3⟩:=OR hh hg.le hd hg.kY hg.lt;refine ⟨S',g1,g2,g3,fun base=>⟨rfl,rfl,rfl,yC _,fun _ _ _=>rfl,g2,fun _ _=>rfl,fun b hb=>(g3 b hb).imp (fun h=>h) .inl,?_,fun _ _ _ h=>h,fun _ r h=>⟨r,h⟩⟩⟩;rintro b ⟨i,o,p,h1,h2,h3⟩;obtain ⟨o',h4⟩:=hd i o p h1 h2;exact .inl ⟨i,o',p,h4,h2,h3⟩
def aap {q:Op} {v:AV} (hv:b8 tm hp ct q=some (v,ai,aK)):ct<=aK:=by
 cases q<;>simp only [b8,reduceCtorEq] at hv
 all_goals
  grind
def HX {P:yM} {H:Hint} {o:yL} {rs:List (Nat×Bool×Nat)} {x:X} {xs:List X} (hq:nP P H (.eX rs x xs) o):∃c f,o.op= .call c/\c.callee= .value f/\x=aF H f/\xs=eQ H c.args.toList:=by
 rcases hq with ⟨k,hk⟩ | ⟨c,f,rs',h1,h2,h3⟩ | ⟨_,_,_,_,_,_,_,h3⟩
 ·cases ho:o.op with
  | call c=>
   obtain ⟨callee,args,ts⟩:=c;simp only [aV,ho] at hk
   split at hk
   ·grind
   ·repeat' split at hk
    all_goals first
     | (cases hk;done)
     | (simp only [bad] at hk;cases hk;done)
     | (revert hk;generalize yq _ _=bb;intro hk;cases bb<;>simp [bad] at hk)
   ·simp only [bad] at hk;cases hk
  | binOp op t x' y ty=>
   cases op<;>simp only [aV,ho,mv,nl] at hk
   case eql=>
         repeat' split at hk
         all_goals first
          | (cases hk;done)
          | (simp only [bad] at hk;cases hk;done)
          | (cases dn:(P.stoodInHeld t||P.eqGuardType P.depth t)<;>rw [dn] at hk<;>simp [bad] at hk)
   case neq=>
         repeat' split at hk
         all_goals first
          | (cases hk;done)
          | (simp only [bad] at hk;cases hk;done)
          | (cases dn:(P.stoodInHeld t||P.eqGuardType P.depth t)<;>rw [dn] at hk<;>simp [bad] at hk)
   all_goals cases hk
  | buildSlice t n parts=>
   simp only [aV,ho] at hk
   repeat' split at hk
   all_goals first
    | (cases hk;done)
    | (simp only [bad] at hk;cases hk;done)
    | (revert hk;generalize yA _ _=bb;intro hk;cases bb<;>simp [bad] at hk)
  | makeMap t r=>
   cases r<;>simp only [aV,ho] at hk
   ·repeat' split at hk
    all_goals first
     | (cases hk;done)
     | (simp only [bad] at hk;cases hk;done)
   ·simp only [bad] at hk;cases hk
  | next x' b=>
   cases b<;>simp only [aV,ho] at hk
   ·simp only [bad] at hk;cases hk
   ·cases hk
  | _=>
   simp only [aV,ho] at hk
   (repeat' split at hk)
   all_goals first
    | contradiction
    | (cases hk;done)
    | (simp only [bad] at hk;cases hk;done)
 ·simp only [Op.eX.injEq] at h3;exact ⟨c,f,h1,h2,h3.2.1,h3.2.2⟩
 ·cases h3
def XI {P:yM} {H:Hint} {o:yL} {k:Nat} {rs:List (Nat×Bool×Nat)} {sz:Nat} {x y:X} (hk:Op.gP rs sz x y=aV P H k o):False:=by
 cases ho:o.op with
 | call c=>
  obtain ⟨callee,args,ts⟩:=c;simp only [aV,ho] at hk
  split at hk
  ·grind
  ·repeat' split at hk
   all_goals first
    | (cases hk;done)
    | (simp only [bad] at hk;cases hk;done)
    | (revert hk;generalize yq _ _=bb;intro hk;cases bb<;>simp [bad] at hk)
  ·simp only [bad] at hk;cases hk
 | binOp op t x' y ty=>
  cases op<;>simp only [aV,ho,mv,nl] at hk
  case eql=>
        repeat' split at hk
        all_goals first
         | (cases hk;done)
         | (simp only [bad] at hk;cases hk;done)
         | (cases dn:(P.stoodInHeld t||P.eqGuardType P.depth t)<;>rw [dn] at hk<;>simp [bad] at hk)
  case neq=>
        repeat' split at hk
        all_goals first
         | (cases hk;done)
         | (simp only [bad] at hk;cases hk;done)
         | (cases dn:(P.stoodInHeld t||P.eqGuardType P.depth t)<;>rw [dn] at hk<;>simp [bad] at hk)
  all_goals cases hk
 | buildSlice t n parts=>
  simp only [aV,ho] at hk
  repeat' split at hk
  all_goals first
   | (cases hk;done)
   | (simp only [bad] at hk;cases hk;done)
   | (revert hk;generalize yA _ _=bb;intro hk;cases bb<;>simp [bad] at hk)
 | makeMap t r=>
  cases r<;>simp only [aV,ho] at hk
  ·repeat' split at hk
   all_goals first
    | (cases hk;done)
    | (simp only [bad] at hk;cases hk;done)
  ·simp only [bad] at hk;cases hk
 | next x' b=>
  cases b<;>simp only [aV,ho] at hk
  ·simp only [bad] at hk;cases hk
  ·cases hk
 | _=>
  simp only [aV,ho] at hk
  (repeat' split at hk)
  all_goals first
   | contradiction
   | (cases hk;done)
   | (simp only [bad] at hk;cases hk;done)
def ag2 {P:yM} {H:Hint} {o:yL} {sz:Nat} {x y:X} (hq:nP P H (.st sz x y) o):∃t x' y',o.op= .store t x' y'/\bQ P t=some sz/\x=aF H x'/\y=aF H y':=by
 obtain ⟨k,hk⟩:∃k,Op.st sz x y=aV P H k o:=by
  rcases hq with h | ⟨_,_,_,_,_,h⟩ | ⟨_,_,_,_,_,_,_,h⟩
  ·grind
  ·grind
  ·cases h
 cases ho:o.op with
 | call c=>
  obtain ⟨callee,args,ts⟩:=c;simp only [aV,ho] at hk
  split at hk
  ·grind
  ·repeat' split at hk
   all_goals first
    | (cases hk;done)
    | (simp only [bad] at hk;cases hk;done)
    | (revert hk;generalize yq _ _=bb;intro hk;cases bb<;>simp [bad] at hk)
  ·simp only [bad] at hk;cases hk
 | binOp op t x' y ty=>
  cases op<;>simp only [aV,ho,mv,nl] at hk
  case eql=>
        repeat' split at hk
        all_goals first
         | (cases hk;done)
         | (simp only [bad] at hk;cases hk;done)
         | (cases dn:(P.stoodInHeld t||P.eqGuardType P.depth t)<;>rw [dn] at hk<;>simp [bad] at hk)
  case neq=>
        repeat' split at hk
        all_goals first
         | (cases hk;done)
         | (simp only [bad] at hk;cases hk;done)
         | (cases dn:(P.stoodInHeld t||P.eqGuardType P.depth t)<;>rw [dn] at hk<;>simp [bad] at hk)
  all_goals cases hk
 | buildSlice t n parts=>
  simp only [aV,ho] at hk
  repeat' split at hk
  all_goals first
   | (cases hk;done)
   | (simp only [bad] at hk;cases hk;done)
   | (revert hk;generalize yA _ _=bb;intro hk;cases bb<;>simp [bad] at hk)
 | makeMap t r=>
  cases r<;>simp only [aV,ho] at hk
  ·repeat' split at hk
   all_goals first
    | (cases hk;done)
    | (simp only [bad] at hk;cases hk;done)
  ·simp only [bad] at hk;cases hk
 | next x' b=>
  cases b<;>simp only [aV,ho] at hk
  ·simp only [bad] at hk;cases hk
  ·cases hk
 | store t x' y'=>
  simp only [aV,ho] at hk
  split at hk
  ·rename_i s hs;simp only [Op.st.injEq] at hk;obtain ⟨rfl,rfl,rfl⟩:=hk;exact ⟨t,x',y',rfl,hs,rfl,rfl⟩
  ·simp only [bad] at hk;cases hk
 | _=>
  simp only [aV,ho] at hk
  (repeat' split at hk)
  all_goals first
   | contradiction
   | (cases hk;done)
   | (simp only [bad] at hk;cases hk;done)
def P5 {P:yM} {H:Hint} {o:yL} {rs:List (Nat×Bool×Nat)} {sz:Nat} {x y:X} (hq:nP P H (.gP rs sz x y) o):∃t x' y',o.op= .store t x' y'/\bQ P t=some sz/\x=aF H x'/\y=aF H y':=by
 rcases hq with ⟨k,hk⟩ | ⟨_,_,_,_,_,h3⟩ | ⟨t,x',y',Kh,rs',h1,h2,h3⟩
 ·exact (XI hk).elim
 ·grind
 ·grind
def XJ {P:yM} {H:Hint} {q:Op} {o:yL} (hq:nP P H q o):nP P H (ji q) o:=by
 cases h:q with
 | eX rs f xs=>
  subst h;obtain ⟨c,f',g1,g2,g3,g4⟩:=HX hq;exact .inr (.inl ⟨c,f',[],g1,g2,by rw [g3,g4];rfl⟩)
 | gP rs sz x y=>
  subst h;obtain ⟨t,x',y',g1,g2,g3,g4⟩:=P5 hq;refine .inl ⟨0,?_⟩;simp only [ji,aV,g1,g2,g3,g4]
 | _=>subst h;exact hq
def NW (hC:jA O self) (hH:dW O H) {o:yL} {q:Op} {v:AV} (hq:nP O.P H q o) (hd:∀c,o.op≠.defer c) (hv:aY O.prog O.aI self tm hp ct q=some (v,ai,aK))
  (ht:bJ O m S w tm a.tmps) (hh:aH O m S w hp ct)
  (hn:∀u m' S' w',aH O m' S' w' ai aK->ct<=aK->af O.ae m' S' w' v u->bH m S w hp m' S' w' ai ct->next (a.put o.dst u) w'):o.wpIn (WF ro) 0 O.P a w next Q:=by
 have quiet:bf q<=1->o.wpIn (WF ro) 0 O.P a w next Q:=by
  intro hk;have hg:=LK hk hv hh.aU;obtain ⟨S1,g1,g2,g3,g4⟩:=DY hh hg;refine quiet_step hC hH hk hq hd hv cr.refl (yC _) hh.aU (fun id h1 h2=>?_) (oJ (fun _ _ h=>h) g2 (fun _ _=>rfl) ht) g1 (fun u m' S' w' k1 k2 k3 k4 k5=>hn u m' S' w' k1 hg.kY k4 ((g4 ct).trans (k5.mG hg.kY)))
  cases hm:m id with
  | none=>rfl
  | some p=>have:=hh.lt id p hm;omega
 have P6:∀{q':Op},(∃k,q'=aV O.P H k o)->b8 tm hp ct q'=some (v,ai,aK)->o.wpIn (WF ro) 0 O.P a w next Q:=by
  intro q' gC hw;obtain ⟨k,rfl⟩:=gC;obtain ⟨n,u,w',m',S',h1,h2,h3,h4,h5,h6⟩:=ack hH ht hh hw;exact Er hd h1 h2 (hn u m' S' w' h3 (aap hw) h4 h6)
 have write:b8 tm hp ct q=some (v,ai,aK)->o.wpIn (WF ro) 0 O.P a w next Q:=by
  intro hw;refine P6 ?_ hw;rcases hq with h | ⟨c,f,rs,_,_,rfl⟩ | ⟨_,_,_,_,_,_,_,rfl⟩
  ·exact h
  ·simp [b8] at hw
  ·simp [b8] at hw
 have heap:∀{c:tq} {f:xh} {g:Nat} {first cap:List AV},o.op= .call c->c.callee= .value f->ao tm (aF H f)= .fn (.f g) first cap->
   fA O.prog O.aI self hp ct g (first++(cx tm (eQ H c.args.toList)++cap))=some (v,ai,aK)->o.wpIn (WF ro) 0 O.P a w next Q:=by
  intro c f g first cap ho fu hx he;obtain ⟨fi,ca,h1,h2⟩:=DX hH ht (args:=c.args) hx;refine Dv ho fu h1 (hC.heap _ _ _ _ _ _ _ he m S w _ hh h2) ?_;rintro e w' ⟨u,m',S',rfl,k1,k2,k3,k4⟩;exact ⟨u,rfl,hn u m' S' w' k1 k2 k3 k4⟩
 have round:∀{c:tq} {f:xh} {l:Nat} {x y:List AV},o.op= .call c->c.callee= .value f->ao tm (aF H f)= .fn (.y l) x y->
   fy self hp ct l (cx tm (eQ H c.args.toList))=some (v,ai,aK)->o.wpIn (WF ro) 0 O.P a w next Q:=by
  intro c f l x y ho fu hx he;have rf:=bN hH ht f;rw [hx] at rf;simp only [af] at rf;obtain ⟨p,hm,hf⟩:=rf;have fC:=qP hH ht c.args.toList;obtain ⟨g,tmps,as_,body,h1,h2⟩:=hC.round _ _ _ _ _ _ _ he m S w (c.args.map a.eval) p hh hm (by simpa using fC);refine aan ho fu hf h1 h2 ?_;rintro e w' ⟨u,m',S',rfl,k1,k2,k3,k4⟩;exact ⟨u,rfl,hn u m' S' w' k1 k2 k3 k4⟩
 have dyn:∀{c:tq} {f:xh},o.op= .call c->c.callee= .value f->cw O.prog O.aI self hp ct .dyn (ao tm (aF H f)) (cx tm (eQ H c.args.toList))=some (v,ai,aK)->o.wpIn (WF ro) 0 O.P a w next Q:=by
  intro c f ho fu he;unfold cw at he
  split at he
  ·rename_i g first cap hx
   (try simp only at he)
   cases hp0:ax (first++(cx tm (eQ H c.args.toList)++cap)) with
   | true=>
    rw [hp0] at he;simp only [ym] at he
    cases hr:cf O.prog O.aI self g (first++(cx tm (eQ H c.args.toList)++cap)) with
    | none=>simp [hr] at he
    | some r=>
     simp only [hr,yb,yi] at he;obtain ⟨rfl,rfl,rfl⟩:=he;obtain ⟨fi,ca,h1,h2⟩:=DX hH ht (args:=c.args) hx;refine Dv ho fu h1 (hC.pure g _ r hr w S _ (Iy hh) hh.slt (nh (fun _ h=>h) (fun _ _=>rfl) _ _ hp0 h2) hp0) ?_;rintro e w' ⟨u,S',rfl,hw,g1,g2,g3,g4⟩;obtain ⟨S2,k1,k2,k3⟩:=MW g4 m;have hS:∀b,S b->S2 b:=fun b hb=>k1 b (g1 b hb)
     have CC:∀b,S2 b->S b\/w.heap.size<=b:=fun b hb=>(k2 b hb).elim (g2 b) (fun h=> .inr h.1)
     have hl:∀b,S2 b->b<w'.heap.size:=fun b hb=>(k2 b hb).elim (g3 b) (fun h=>h.2)
     exact ⟨u,rfl,hn u m S2 w' (AQ hh hw hS CC hl) (yC _) k3 (AZ hh hw hS CC)⟩
   | false=>
    rw [hp0] at he;simp only [yu] at he;exact heap ho fu hx he
  ·rename_i l x y hx;exact round ho fu hx he
  ·cases he
 cases bI:q with
 | eX rs x xs=>
  subst bI;simp only [aY] at hv;have key:=HX hq;obtain ⟨c,f,ho,fu,rfl,rfl⟩:=key
  cases hc:cw O.prog O.aI self hp ct .dyn (ao tm (aF H f)) (cx tm (eQ H c.args.toList)) with
  | none=>simp [hc] at hv
  | some r=>
   obtain ⟨v1,bl,mV⟩:=r;simp only [hc] at hv
   cases hs:lE tm hp bl rs with
   | false=>rw [hs] at hv;cases hv
   | true=>
    rw [hs] at hv;simp only [ym,yb,yi] at hv;obtain ⟨rfl,rfl,rfl⟩:=hv;exact dyn ho fu hc
 | call md x xs=>
  subst bI;have gC:∃k,Op.call md x xs=aV O.P H k o:=by
   rcases hq with h | ⟨c,f,rs,_,_,h⟩ | ⟨_,_,_,_,_,_,_,h⟩
   ·exact h
   ·cases h
   ·cases h
  obtain ⟨k,hk⟩:=gC
  cases md with
  | pure=>exact quiet (by simp [bf])
  | own=>exact quiet (by simp [bf])
  | heap=>
   simp only [aY] at hv;obtain ⟨c,f,ho,fu,rfl,rfl⟩:=Eg hk.symm (by rintro rfl;simp [ao,cw] at hv);unfold cw at hv
   split at hv
   ·rename_i g first cap hx;exact heap ho fu hx hv
   ·rename_i l x y hx;exact round ho fu hx hv
   ·cases hv
  | dyn=>
   simp only [aY] at hv;obtain ⟨c,f,ho,fu,rfl,rfl⟩:=Eg hk.symm (by rintro rfl;simp [ao,cw] at hv);exact dyn ho fu hv
 | gP rs s x y=>
  subst bI;obtain ⟨t,x',y',g1,g2,g3,g4⟩:=P5 hq;simp only [aY] at hv
  split at hv
  ·rename_i id off hx
   cases hf:sY tm id rs with
   | false=>rw [hf] at hv;cases hv
   | true=>
    rw [hf] at hv;simp only [ym] at hv
    exact P6 (q':= .st s x y) ⟨0,by simp only [aV,g1,g2,g3,g4]⟩ hv
  ·cases hv
 | st s x y=>subst bI;exact write (by simpa only [aY] using hv)
 | kO kk x y z=>subst bI;exact write (by simpa only [aY] using hv)
 | kQ x=>subst bI;exact write (by simpa only [aY] using hv)
 | cC s b x y=>subst bI;exact write (by simpa only [aY] using hv)
 | kR s x y=>subst bI;exact write (by simpa only [aY] using hv)
 | cV k x lo hi=>subst bI;exact quiet (by cases k<;>simp [bf])
 | len k x=>subst bI;exact quiet (by rcases k with _ | _ | k<;>simp [bf])
 | _=>subst bI;exact quiet (by simp [bf])
end
end
section
open Go
def kB (tm:Env) (g:Option (Nat×Bool)):Option Bool:=
 match g with
 | none=>some true
 | some (t,b)=>match ah tm t with | .bool c=>some (c==b) | .ay []=>some false | _=>none
def eJ (P:aA) (L:Lib) (self:bZ) (tm:Env) (hp:Hp) (ct:Nat) (r:aR):ez:=
 match kB tm r.guard with
 | some true=>aY P L self tm hp ct r.op
 | some false=>some (.ay [],hp,ct)
 | none=>none
def Me {P:aA} {L:Lib} {self:bZ} {r:aR} {rs:List aR} {s:St}:
  cN P L self (r::rs) s=match eJ P L self s.tm s.hp s.ct r with | some (v,hp,ct)=>cN P L self rs {s with tm:=put r.dst v s.tm,hp:=hp,ct:=ct} | none=>none:=by
 obtain ⟨d,g,o⟩:=r;simp only [cN,eJ]
 cases g with
 | none=>rfl
 | some q=>
  obtain ⟨t,b⟩:=q;simp only [kB];generalize ah s.tm t=x
  cases x with
  | bool c=>
   simp only;cases (c==b)<;>rfl
  | ay vs=>cases vs<;>rfl
  | _=>rfl
def O1 (ops:Array yL) (g:Option (Nat×Bool)) (g':Option (Nat×Bool)):Prop:=
 (g=none/\g'=none)\/∃t b j,g=some (t,b)/\g'=some (j,b)/\(ops[j]?).bind (·.dst)=some t
structure EH (P:yM) (H:Hint) (ops:Array yL) (r:aR) (o:yL):Prop where
 op:nP P H r.op o
 dst:r.dst=o.dst
 ok:BJ H o.dst=true
 guard:O1 ops r.guard o.guard
def jf (P:yM) (H:Hint) (ops:Array yL):List aR->List yL->Prop
 | [],[]=>True
 | r::rs,o::l=>(EH P H ops r o\/(r.guard=none/\r.op=bad))/\jf P H ops rs l
 | _,_=>False
def Mf {P:yM} {H:Hint} {ops:Array yL}:∀(l:List yL) (k:Nat),jf P H ops (qK P H ops l k).1 l
 | [],k=>by simp [qK,jf]
 | o::l,k=>by
  have ih:=Mf (P:=P) (H:=H) (ops:=ops) l (k+(bif IL o then 1 else 0));simp only [qK];generalize hq:qK P H ops l (k+(bif IL o then 1 else 0))=q at ih;obtain ⟨l',k'⟩:=q;simp only;have Ju:jf P H ops (⟨o.dst,none,bad⟩::l') (o::l):=⟨.inr ⟨rfl,rfl⟩,ih⟩
  cases hg:o.guard with
  | none=>
   simp only
   cases hd:BJ H o.dst with
   | false=>exact Ju
   | true=>exact ⟨.inl ⟨.inl ⟨k,rfl⟩,rfl,hd,.inl ⟨rfl,hg⟩⟩,ih⟩
  | some p=>
   obtain ⟨j,b⟩:=p;simp only
   cases ht:(ops[j]?).bind (·.dst) with
   | none=>exact Ju
   | some t=>
    simp only
    cases hd:BJ H o.dst with
    | false=>exact Ju
    | true=>exact ⟨.inl ⟨.inl ⟨k,rfl⟩,rfl,hd,.inr ⟨t,b,j,rfl,hg,ht⟩⟩,ih⟩
section
variable {O:aZ} {H:Hint} {m:Mp} {S:Nat->Prop} {w:yg} {tm:Env} {a:Act} {hp ai:Hp} {ct aK:Nat} {self:bZ} {ro:Option Nat} {Q:vT->Act->yg->Prop} {ops:Array yL}
def HY {d:Option Nat} {v:AV} {tm:Env} {t:Nat}:ah (put d v tm) t=if d=some t then v else ah tm t:=by
 cases d with
 | none=>simp [put]
 | some i=>
  simp only [put,ah];by_cases h:i=t
  ·subst h;simp
  ·have:yq i t=false:=by
    cases hq:yq i t with
    | false=>rfl
    | true=>exact absurd (yk hq) h
   simp [this,h]
def DZ (a:Act) (d:Option Nat) (u:ye):(a.put d u).tmps.size=a.tmps.size:=by
 cases d with
 | none=>rfl
 | some i=>simp [Act.put]
def Ha (a:Act) (d:Option Nat) (u:ye):(a.put d u).defers=a.defers:=by
 cases d with
 | none=>rfl
 | some i=>rfl
def HZ {a:Act} {d:Option Nat} {u:ye} {t:Nat} (hd:∀i,d=some i->i<a.tmps.size):(a.put d u).tmps.getD t undef=if d=some t then u else a.tmps.getD t undef:=by
 cases d with
 | none=>simp [Act.put]
 | some i=>
  have hi:=hd i rfl;by_cases h:i=t
  ·subst h;simp [Act.put,hi]
  ·simp only [Act.put,yb,h,yG];simp [Array.getElem?_setIfInBounds_ne h]
def NX {n:Nat} {d:Option Nat} (h:BJ H d=true) (hn:H.n<=n):∀i,d=some i->i<n:=by
 rintro i rfl
 have:=nn.1 h
 omega
def H0 {d:Option Nat} {v:AV} {u:ye} (ht:bJ O m S w tm a.tmps) (hd:∀i,d=some i->i<a.tmps.size) (hv:af O.ae m S w v u):bJ O m S w (put d v tm) (a.put d u).tmps:=fun t=>by
 rw [HY,HZ hd]
 split
 ·exact hv
 ·exact ht t
def M1 {o:yL} {g:Option (Nat×Bool)} {b:Bool} (hg:O1 ops g o.guard) (ht:∀t,t∈I2 g->af O.ae m S w (ah tm t) (a.tmps.getD t undef)) (hw:kB tm g=some b):Region.wanted o (yielded ops a.tmps)=b:=by
 rcases hg with ⟨rfl,h2⟩ | ⟨t,c,j,rfl,h2,h3⟩
 ·simp only [kB,yb] at hw;subst hw;simp [Region.wanted,h2]
 ·simp only [kB] at hw;have h4:=ht t (by simp [I2]);simp only [Region.wanted,h2]
  split at hw
  ·rename_i d hd;rw [hd] at h4;simp only [af] at h4;simp only [yb] at hw
   have:yielded ops a.tmps j=some d:=by
    simp only [yielded,h3,xt];have h5:a.tmps[t]? =some (.bool d):=by
     simp only [wj] at h4
     cases hq:a.tmps[t]? with
     | none=>rw [hq] at h4;simp [undef] at h4
     | some x=>rw [hq] at h4;simp at h4;rw [h4]
    rw [h5]
   rw [this,<-hw];cases d<;>cases c<;>rfl
  ·rename_i hd;rw [hd] at h4;simp only [af,ak] at h4;obtain ⟨xs,h4,h5⟩:=h4;simp only [yb] at hw;subst hw
   have:yielded ops a.tmps j=none:=by
    simp only [yielded,h3,xt];simp only [wj] at h4
    cases hq:a.tmps[t]? with
    | none=>rfl
    | some x=>rw [hq] at h4;simp at h4;rw [h4]
   rw [this];rfl
  ·cases hw
def LL {o:yL} {q:Op} (hq:nP O.P H q o) {r:AV×Hp×Nat} (hv:aY O.prog O.aI self tm hp ct q=some r):∀c,o.op≠.defer c:=by
 rcases hq with ⟨k,rfl⟩ | ⟨c,f,rs,h1,_,_⟩ | ⟨_,_,_,_,_,h1,_,_⟩
 ·exact XG hv
 ·intro c' h;rw [h1] at h;cases h
 ·intro c' h;rw [h1] at h;cases h
def acn (hC:jA O self) (hH:dW O H) {i:Nat} {r:aR} {o:yL} {v:AV} (hi:ops[i]? =some o) (hr:EH O.P H ops r o\/(r.guard=none/\r.op=bad)) (hv:eJ O.prog O.aI self tm hp ct r=some (v,ai,aK))
  (ht:bJ O m S w tm a.tmps) (hh:aH O m S w hp ct) (hn:H.n<=a.tmps.size) {K:Act->yg->Prop}
  (hK:∀u m' S' w',aH O m' S' w' ai aK->ct<=aK->bJ O m' S' w' (put r.dst v tm) (a.put o.dst u).tmps->bH m S w hp m' S' w' ai ct->K (a.put o.dst u) w'):wpOpIn (WF ro) 0 O.P ops Q i K a w:=by
 rcases hr with hr | ⟨h1,h2⟩
 case inr=>
  simp only [eJ,h1,kB,h2,bad,aY,cw,ao] at hv;cases hv
 unfold wpOpIn;simp only [hi];unfold eJ at hv
 cases hw:kB tm r.guard with
 | none=>simp [hw] at hv
 | some b=>
  have Ki:=M1 hr.guard (fun t _=>ht t) hw;have hd:=NX hr.ok hn;rw [Ki]
  cases b with
  | true=>
   simp only [hw] at hv;simp only [yQ];refine NW hC hH hr.op (LL hr.op hv) hv ht hh (fun u m' S' w' k1 k2 k3 k4=>hK u m' S' w' k1 k2 ?_ k4);rw [hr.dst];exact H0 (oJ (fun id p h=>k4.old id p (hh.lt id p h) h) k4.sub (fun b hb=>k4.still b hb) ht) hd k3
  | false=>
   simp only [hw,yb,yi] at hv;obtain ⟨rfl,rfl,rfl⟩:=hv;simp only [yt,yG];refine ⟨fun _ _=>trivial,hK undef m S w hh (yC _) ?_ bH.refl⟩;rw [hr.dst];exact H0 ht hd (by simp [af,ak,undef])
def O2 (hC:jA O self) (hH:dW O H):∀(l:List yL) (rs:List aR) (i:Nat) (s s':St) (a:Act) (m:Mp) (S:Nat->Prop) (w:yg),(∀j,l[j]? =ops[i+j]?)->jf O.P H ops rs l->
  cN O.prog O.aI self rs s=some s'->bJ O m S w s.tm a.tmps->aH O m S w s.hp s.ct->H.n<=a.tmps.size->
  (∀a' m' S' w',aH O m' S' w' s'.hp s'.ct->s.ct<=s'.ct->bJ O m' S' w' s'.tm a'.tmps->bH m S w s.hp m' S' w' s'.hp s.ct->a'.tmps.size=a.tmps.size->a'.defers=a.defers->s'.base=s.base->Q .normal a' w')->
  wpOpsIn (WF ro) 0 O.P ops Q (List.range' i l.length) a w
 | [],rs,i,s,s',a,m,S,w,hl,hr,hv,ht,hh,hn,hQ=>by
  cases rs with
  | cons _ _=>simp [jf] at hr
  | nil=>
   simp only [cN,yb] at hv;subst hv;simp only [y5,List.range'_zero,wpOpsIn];exact hQ a m S w hh (yC _) ht bH.refl rfl rfl rfl
 | o::l,rs,i,s,s',a,m,S,w,hl,hr,hv,ht,hh,hn,hQ=>by
  cases rs with
  | nil=>simp [jf] at hr
  | cons r rs=>
   simp only [jf] at hr;rw [Me] at hv
   cases h1:eJ O.prog O.aI self s.tm s.hp s.ct r with
   | none=>simp [h1] at hv
   | some q=>
    obtain ⟨v,bl,mV⟩:=q;simp only [h1] at hv;have hi:ops[i]? =some o:=by have:=hl 0;simpa using this.symm
    rw [yz,List.range'_succ,wpOpsIn_cons];refine acn hC hH hi hr.1 h1 ht hh hn (fun u m1 S1 w1 k1 k2 k3 k4=>?_)
    refine O2 hC hH l rs (i+1) {s with tm:=put r.dst v s.tm,hp:=bl,ct:=mV} s' _ m1 S1 w1 (fun j=>?_) hr.2 hv k3 k1 (by rw [DZ];exact hn) (fun a' m' S' w' g1 g2 g3 g4 g5 g6 g7=>?_)
    ·have:=hl (j+1)
     rw [List.getElem?_cons_succ] at this;rw [this];congr 1;omega
    ·exact hQ a' m' S' w' g1 (xz k2 g2) g3 (k4.trans (g4.mG k2)) (by rw [g5,DZ]) (by rw [g6,Ha]) g7
end
end
section
open Go
section
variable {ops:Array yL}
def GV {acc:List Nat} {i:Nat}:∀{es:List Edge},vn (oV acc es) i=true->∃e,e∈es/\Region.binds .any e=true/\(i=e.on\/vn (acc.getD e.on 0) i=true)
 | [],h=>by simp [oV] at h
 | e::r,h=>by
  simp only [oV] at h
  cases hb:Region.binds .any e with
  | false=>
   rw [hb] at h;obtain ⟨e',h1,h2⟩:=GV h
   grind
  | true=>
   rw [hb] at h;simp only [ym,Nat.testBit_or,vY] at h;rcases h with (h | h) | h
   ·grind
   ·grind
   ·obtain ⟨e',h1,h2⟩:=GV h
    grind
def M2 {l:List yL} {acc:List Nat} {j:Nat} (hj:j<acc.length):(iR acc l)[j]? =acc[j]? :=by
 induction l generalizing acc with
 | nil=>rfl
 | cons o l ih=>
  simp only [iR]
  grind
def XK {l:List yL} {acc:List Nat} {j:Nat} {o:yL} (h:l[j]? =some o):∃rE:List Nat,(iR acc l)[acc.length+j]? =some (oV rE o.after.toList)/\rE.length=acc.length+j/\∀k,k<rE.length->rE[k]? =(iR acc l)[k]? :=by
 induction l generalizing acc j with
 | nil=>simp at h
 | cons x l ih=>
  cases j with
  | zero=>
   simp only [wC,yb] at h;subst h;refine ⟨acc,?_,by simp,fun k hk=>?_⟩
   ·simp only [iR];rw [M2 (by simp)]
    simp
   ·simp only [iR];rw [M2 (by rw [yW];omega),List.getElem?_append_left hk]
  | succ j=>
   obtain ⟨rE,h1,h2,h3⟩:=ih (acc:=acc++[oV acc x.after.toList]) h;simp only [yW,yz,y5] at h1 h2;refine ⟨rE,?_,by omega,fun k hk=>?_⟩
   ·simp only [iR]
    grind
   ·simp only [iR];exact h3 k hk
def Ord (ops:Array yL) (i j:Nat):Prop:=vn ((iR [] ops.toList).getD j 0) i=true
def IP (ops:Array yL) (D:Nat->Prop):Prop:=∀j o,ops[j]? =some o->D j->∀e,e∈o.after->Region.binds .any e=true->D e.on
def M3 {D:Nat->Prop} (hc:IP ops D):∀(j:Nat) (o:yL),ops[j]? =some o->(∀e,e∈o.after->Region.binds .any e=true->D e.on)->∀i,Ord ops i j->D i:=by
 intro j
 induction j using w6 with
 | _ j ih=>
  intro o ho hr i hi;have js:ops.toList[j]? =some o:=by simp_all
  obtain ⟨rE,h1,h2,h3⟩:=XK (acc:=[]) js;simp only [y5,Nat.zero_add] at h1 h2;unfold Ord at hi;rw [List.getD_eq_getElem?_getD,h1,vv] at hi;obtain ⟨e,g1,g2,g3⟩:=GV hi;have he:D e.on:=hr e (by simpa using g1) g2;rcases g3 with rfl | g3
  ·grind
  ·rcases wm e.on j with aU | kX
   ·have h4:=h3 e.on (by omega);have hol:e.on<ops.size:=by
     grind
    have Kc:ops[e.on]? =some ops[e.on]:=by simp_all
    refine ih e.on aU _ Kc (fun e' he' dn=>hc e.on _ Kc he e' he' dn) i ?_;unfold Ord
    grind
   ·grind
def aaq {D:Nat->Prop} (hc:IP ops D) {i j:Nat} {o:yL} (ho:ops[j]? =some o) (hj:D j) (hi:Ord ops i j):D i:=
 M3 hc j o ho (fun e he hb=>hc j o ho hj e he hb) i hi
def Lm:∀{l:List yL} {k j:Nat} {o:yL},AM l k=true->l[j]? =some o->∀e,e∈o.after->Region.binds .any e=true->e.on<k+j
 | [],k,j,o,_,h=>by simp at h
 | x::l,k,j,o,hb,h=>by
  simp only [AM,yf] at hb
  cases j with
  | zero=>
   simp only [wC,yb] at h;subst h;intro e he mT
   have:=List.all_eq_true.1 hb.1 e (by simpa using he)
   simp_all
  | succ j=>
   intro e he mT
   have:=Lm hb.2 h e he mT
   omega
end
def Fa (a b:aR) (r:List aR):Prop:=DS a b=false/\(AL a b=false\/A2 a b r=true)
def Lo {m:Nat} {b:aR}:∀{l:List aR} {k i:Nat} {a:aR},DT m b l k=true->l[i]? =some a->vn m (k+i)=true\/Fa a b (l.drop (i+1))
 | [],k,i,a,_,h=>by simp at h
 | x::l,k,i,a,hp,h=>by
  simp only [DT,yf] at hp
  cases i with
  | zero=>
   simp only [wC,yb] at h;subst h;have h1:=hp.1;simp only [vY,uf,uQ,Bool.and_eq_false_iff,Bool.not_eq_false'] at h1;rcases h1 with h1 | ⟨h1,h2⟩
   ·grind
   ·exact .inr ⟨h1,by simpa using h2⟩
  | succ i=>
   rcases Lo hp.2 h with h1 | h1
   ·grind
   ·grind
def Lv:∀{l done:List aR} {ms:List Nat} {i j:Nat} {a b:aR},sS done l ms=true->(done++l)[i]? =some a->l[j]? =some b->i<done.length+j->
  ∃m,ms[j]? =some m/\(vn m i=true\/Fa a b (((done++l).take (done.length+j)).drop (i+1)))
 | [],done,ms,i,j,a,b,_,_,h,_=>by simp at h
 | x::l,done,[],i,j,a,b,hp,_,h,_=>by simp [sS] at hp
 | x::l,done,m::ms,i,j,a,b,hp,ha,h,Kj=>by
  simp only [sS,yf] at hp
  cases j with
  | zero=>
   have Kk:done[i]? =some a:=by grind
   have:=Lo hp.1 Kk
   grind
  | succ j=>
   have e:done++x::l=(done++[x])++l:=by simp
   obtain ⟨m',h1,h2⟩:=Lv (i:=i) (a:=a) hp.2 (by rw [<-e];exact ha) h (by simp;omega)
   grind
def Dj {a b:aR} (h:DS a b=false):(∀d,a.dst=some d->d∉qO b/\b.dst≠some d)/\(∀d,b.dst=some d->d∉qO a):=by
 have mem:∀{i:Nat} {l:List Nat},iA i l=false->i∉l:=by
  intro i l
  induction l with
  | nil=>intro _ h;cases h
  | cons j r ih=>
   intro h hm;simp only [iA] at h
   cases hb:yq j i with
   | true=>rw [hb] at h;cases h
   | false=>
    simp_all
 simp only [DS,uQ] at h;obtain ⟨⟨h1,h2⟩,h3⟩:=h;refine ⟨fun d hd=>⟨mem (by simpa [hd,zu] using h1),fun hb=>?_⟩,fun d hd=>mem (by simpa [hd,zu] using h2)⟩;rw [hd,hb] at h3;simp [RO] at h3
def Mg {t:Nat}:∀{l:List aR},zj t l=true->∀r,r∈l->r.dst≠some t
 | [],_,r,h=>by cases h
 | x::l,h,r,hr=>by
  simp only [zj,yf,uf] at h;rcases wc.1 hr with rfl | hr
  ·intro hd;rw [hd] at h;simp [zu,iA] at h
  ·exact Mg h.2 r hr
def Hy {sz t:Nat} {ag:Bool}:∀{l:List (Nat×Bool×Nat)},zx sz ag t l=true->(sz,ag,t)∈l
 | [],h=>by simp [zx] at h
 | (s,g,u)::r,h=>by
  simp only [zx,vY,yf] at h;rcases h with ⟨h1,h2,h3⟩ | h
  ·simp_all
  ·exact xT _ (Hy h)
def H2:∀{a b:List Nat},dI a b=true->a=b
 | [],[],_=>rfl
 | [],_::_,h=>by simp [dI] at h
 | _::_,[],h=>by simp [dI] at h
 | x::a,y::b,h=>by
  simp only [dI,yf] at h;rw [yk h.1,H2 h.2]
def YK {a b:AV} (h:E6 a b=true):a=b:=by
 unfold E6 at h
 split at h
 ·grind
 ·grind
 ·rw [H2 h]
 ·rfl
 ·rfl
 ·simp_all
 ·simp_all
 ·simp_all
 ·cases h
def Lw {tm:Env} {hp ai:Hp} {sz t:Nat} {ag:Bool} {v:AV}:∀{l:List (Nat×Bool×Nat)},lE tm hp ai l=true->(sz,ag,t)∈l->fT hp sz ag (ah tm t)=some v->fT ai sz ag (ah tm t)=some v
 | [],_,h,_=>by cases h
 | (s,g,u)::r,h,hm,hv=>by
  simp only [lE] at h
  cases h1:fT hp s g (ah tm u) with
  | none=>simp [h1] at h
  | some x=>
   cases h2:fT ai s g (ah tm u) with
   | none=>simp [h1,h2] at h
   | some y=>
    simp only [h1,h2,yf] at h;rcases wc.1 hm with e | hm
    ·simp only [yi] at e;obtain ⟨rfl,rfl,rfl⟩:=e;rw [h1] at hv;rw [h2,<-YK h.1,hv]
    ·exact Lw h.2 hm hv
structure Fb (P:aA) (L:Lib) (run:bZ) (rs:List aR) (bD:Nat->Env) (bq:Nat->Hp) (bj:Nat->Nat) (vF:Nat->AV):Prop where
 step:∀i r,rs[i]? =some r->eJ P L run (bD i) (bq i) (bj i) r=some (vF i,bq (i+1),bj (i+1))
 tm:∀i r,rs[i]? =some r->bD (i+1)=put r.dst (vF i) (bD i)
def O3 {P:aA} {L:Lib} {self:bZ}:∀{rs:List aR} {s s':St},cN P L self rs s=some s'->
  ∃bD bq bj vF,Fb P L self rs bD bq bj vF/\bD 0=s.tm/\bq 0=s.hp/\bj 0=s.ct/\bD rs.length=s'.tm/\bq rs.length=s'.hp/\bj rs.length=s'.ct/\s'.base=s.base
 | [],s,s',h=>by
  simp only [cN,yb] at h;subst h;exact ⟨fun _=>s.tm,fun _=>s.hp,fun _=>s.ct,fun _=> .undef,⟨fun i r h=>by simp at h,fun i r h=>by simp at h⟩,rfl,rfl,rfl,rfl,rfl,rfl,rfl⟩
 | r::rs,s,s',h=>by
  rw [Me] at h
  cases h1:eJ P L self s.tm s.hp s.ct r with
  | none=>simp [h1] at h
  | some q=>
   obtain ⟨v,bl,mV⟩:=q;simp only [h1] at h;obtain ⟨bD,bq,bj,vF,g1,g2,g3,g4,g5,g6,g7,g8⟩:=O3 h;refine ⟨fun i=>match i with | 0=>s.tm | i+1=>bD i,fun i=>match i with | 0=>s.hp | i+1=>bq i,fun i=>match i with | 0=>s.ct | i+1=>bj i,fun i=>match i with | 0=>v | i+1=>vF i,⟨?_,?_⟩,rfl,rfl,rfl,by simpa using g5,by simpa using g6,by simpa using g7,g8⟩
   ·intro i r' hi
    cases i with
    | zero=>
     grind
    | succ i=>exact g1.step i r' (by simpa using hi)
   ·intro i r' hi
    cases i with
    | zero=>
     grind
    | succ i=>exact g1.tm i r' (by simpa using hi)
section
variable {P:aA} {L:Lib} {self:bZ} {rs:List aR} {bD:Nat->Env} {bq:Nat->Hp} {bj:Nat->Nat} {vF:Nat->AV}
def AR (hR:Fb P L self rs bD bq bj vF) {t i:Nat}:∀(k:Nat),i+k<=rs.length->(∀j r,i<=j->j<i+k->rs[j]? =some r->r.dst≠some t)->ah (bD (i+k)) t=ah (bD i) t
 | 0,_,_=>rfl
 | k+1,hk,h=>by
  have hr:rs[i+k]? =some rs[i+k]:=by simp_all
  rw [show i+(k+1)=i+k+1 by omega,hR.tm _ _ hr,HY,yD (h (i+k) _ (by omega) (by omega) hr)];exact AR hR k (by omega) (fun j r h1 h2=>h j r h1 (by omega))
def M4 {r:aR} {tm:Env} {hp ai:Hp} {ct aK:Nat} {v:AV} (hk:bf r.op<=1) (hv:eJ P L self tm hp ct r=some (v,ai,aK)) (aU:∀id o,aj hp id=some o->id<ct):fj hp ct ai aK:=by
 unfold eJ at hv
 cases hw:kB tm r.guard with
 | none=>simp [hw] at hv
 | some b=>
  cases b with
  | true=>simp only [hw] at hv;exact LK hk hv aU
  | false=>
   simp only [hw,yb,yi] at hv;obtain ⟨rfl,rfl,rfl⟩:=hv;exact fj.refl aU
def DF (hR:Fb P L self rs bD bq bj vF) {i:Nat} (aU:∀id o,aj (bq i) id=some o->id<bj i):∀(k:Nat),i+k<=rs.length->(∀j r,i<=j->j<i+k->rs[j]? =some r->bf r.op<=1)->fj (bq i) (bj i) (bq (i+k)) (bj (i+k))
 | 0,_,_=>fj.refl aU
 | k+1,hk,h=>by
  have ih:=DF hR aU k (by omega) (fun j r h1 h2=>h j r h1 (by omega));have hr:rs[i+k]? =some rs[i+k]:=by simp_all
  exact ih.trans (M4 (h (i+k) _ (by omega) (by omega) hr) (hR.step _ _ hr) ih.lt)
end
end
section
open Go
def D0 {tm:Env} {t:Nat}:∀{l:List Nat},t∈l->ah (cz tm l) t=ah tm t
 | [],h=>by cases h
 | i::r,h=>by
  simp only [cz,ah]
  cases hb:yq i t with
  | true=>rw [yk hb];rfl
  | false=>
   rcases wc.1 h with e | h
   ·simp_all
   ·exact D0 h
def YL {P:aA} {L:Lib} {self:bZ} {tm tm':Env} {hp:Hp} {ct:Nat} {o:Op} {r:AV×Hp×Nat} (h:∀t,t∈gZ o->ah tm' t=ah tm t) (hv:aY P L self tm hp ct o=some r):aY P L self tm' hp ct (ji o)=some r:=by
 cases o with
 | eX rs f xs=>
  simp only [gZ,xR] at h;simp only [ji,aY] at hv ⊢
  rw [cT (x:=f) fun t ht=>h t (.inl ht),qu (xs:=xs) fun t ht=>h t (.inr ht)]
  cases hc:cw P L self hp ct .dyn (ao tm f) (cx tm xs) with
  | none=>simp [hc] at hv
  | some q=>
   obtain ⟨v1,bl,mV⟩:=q;simp only [hc] at hv
   cases hs:lE tm hp bl rs with
   | false=>rw [hs] at hv;cases hv
   | true=>
    rw [hs] at hv;simpa only [lE,ym] using hv
 | gP rs sz x v=>
  simp only [ji,aY] at hv ⊢
  rw [sG (o:= .st sz x v) (tm:=tm) h]
  grind
 | call md f xs=>
  rw [<-hv];simp only [gZ,xR] at h;simp only [ji,aY]
  rw [cT (x:=f) fun t ht=>h t (.inl ht),qu (xs:=xs) fun t ht=>h t (.inr ht)]
 | st s x y=>rw [<-hv];exact sG h
 | kO kk x y z=>rw [<-hv];exact sG h
 | kQ x=>rw [<-hv];exact sG h
 | cC s b x y=>rw [<-hv];exact sG h
 | kR s x y=>rw [<-hv];exact sG h
 | box s x=>rw [<-hv];simp only [ji,aY];rw [AB (hp:=hp) h]
 | cd n s z ps=>rw [<-hv];simp only [ji,aY];rw [AB (hp:=hp) h]
 | eT s b z x y=>rw [<-hv];simp only [ji,aY];rw [AB (hp:=hp) h]
 | nZ=>exact hv
 | kP x=>rw [<-hv];simp only [ji,aY];rw [AB (hp:=hp) h]
 | _=>rw [<-hv];simp only [ji,aY];rw [W6 h]
def NY {P:aA} {L:Lib} {self:bZ} {tm:Env} {hp ai:Hp} {ct aK:Nat} {q:Op} {v:AV} (hk:bf q=0\/∃sz ag x,q= .ld sz ag x) (hv:aY P L self tm hp ct q=some (v,ai,aK)):bc tm hp q=some v/\ai=hp/\aK=ct:=by
 have gT:∀{q:Op},(match bc tm hp q with | some v=>some (v,hp,ct) | none=>(none:ez))=some (v,ai,aK)->bc tm hp q=some v/\ai=hp/\aK=ct:=by grind
 rcases hk with hk | ⟨sz,ag,x,rfl⟩
 ·cases bI:q with
  | call md f xs=>subst bI;cases md<;>simp [bf] at hk
  | eX rs f xs=>subst bI;simp [bf] at hk
  | gP rs s x y=>subst bI;simp [bf] at hk
  | st s x y=>subst bI;simp [bf] at hk
  | kO kk x y z=>subst bI;simp [bf] at hk
  | kQ x=>subst bI;simp [bf] at hk
  | cC s b x y=>subst bI;simp [bf] at hk
  | kR s x y=>subst bI;simp [bf] at hk
  | box s x=>subst bI;simp [bf] at hk
  | cd n s z ps=>subst bI;simp [bf] at hk
  | eT s b z x y=>subst bI;simp [bf] at hk
  | nZ=>subst bI;simp [bf] at hk
  | kP x=>subst bI;simp [bf] at hk
  | _=>exact bI▸gT (q:=q) (by rw [bI] at hv ⊢;exact hv)
 ·exact gT (q:= .ld sz ag x) (by simp only [aY] at hv;exact hv)
section
variable {O:aZ} {H:Hint} {ops:Array yL} {rs:List aR} {bD:Nat->Env} {bq:Nat->Hp} {bj:Nat->Nat} {vF:Nat->AV} {self:bZ} {ro:Option Nat} {Q:vT->Act->yg->Prop}
structure mz (O:aZ) (H:Hint) (slf:bZ) (ops:Array yL) (rs:List aR) (bD:Nat->Env) (bq:Nat->Hp) (bj:Nat->Nat) (vF:Nat->AV):Prop where
 run:Fb O.prog O.aI slf rs bD bq bj vF
 len:rs.length=ops.size
 of:∀(i:Nat) (r:aR) (o:yL),rs[i]? =some r->ops[i]? =some o->EH O.P H ops r o
 pair:∀(i j:Nat) (a b:aR),i<j->rs[i]? =some a->rs[j]? =some b->Ord ops i j\/Fa a b ((rs.take j).drop (i+1))
 back:∀(i:Nat) (o:yL),ops[i]? =some o->∀e,e∈o.after->Region.binds .any e=true->e.on<i
def gD (rs:List aR) (i:Nat):Prop:=∃r,rs[i]? =some r/\bf r.op=2
def IQ (rs:List aR):∀(k i:Nat),i+k=rs.length->∃c,i<=c/\c<=rs.length/\(∀j,i<=j->j<c->¬gD rs j)/\(c=rs.length\/gD rs c)
 | 0,i,h=>⟨i,yC _,by omega,fun j h1 h2=>by omega,.inl (by omega)⟩
 | k+1,i,h=>by
  rcases wY (gD rs i) with hw | hw
  ·grind
  ·obtain ⟨c,h1,h2,h3,h4⟩:=IQ rs k (i+1) (by omega)
   grind
def A4 {rs:List aR} {i:Nat} {r:aR} (hr:rs[i]? =some r) (hw:¬gD rs i):bf r.op<=1:=by
 have h:bf r.op≠2:=fun e=>hw ⟨r,hr,e⟩
 have:bf r.op<=2:=by
  cases r.op with
  | cV k x lo hi=>cases k<;>simp [bf]
  | len k x=>rcases k with _ | _ | k<;>simp [bf]
  | call md f xs=>cases md<;>simp [bf]
  | _=>simp [bf]
 omega
def FP (O:aZ) (rs:List aR) (bD:Nat->Env) (D:Nat->Prop) (m:Mp) (S:Nat->Prop) (w:yg) (a:Act):Prop:=
 ∀t,∃j,j<=rs.length/\(∀(i:Nat) (r:aR),rs[i]? =some r->r.dst=some t->(D i↔i<j))/\af O.ae m S w (ah (bD j) t) (a.tmps.getD t undef)
def aco {D:Nat->Prop} {m:Mp} {S:Nat->Prop} {w:yg} {a:Act} {i:Nat} {r:aR} (hG:mz O H self ops rs bD bq bj vF) (hT:FP O rs bD D m S w a) (hr:rs[i]? =some r) (hi:¬D i)
  (fm:∀j,Ord ops j i->D j) (fP:∀j,Ord ops i j->¬D j):∀t,t∈qO r->af O.ae m S w (ah (bD i) t) (a.tmps.getD t undef):=by
 intro t ht;obtain ⟨j,h1,h2,h3⟩:=hT t;have z8:i<rs.length:=(xF.1 hr).1;have e:ah (bD j) t=ah (bD i) t:=by
  rcases Nat.le_total j i with hji | Kj
  ·obtain ⟨k,rfl⟩:∃k,i=j+k:=⟨i-j,by omega⟩;refine (AR hG.run k (by omega) (fun l rl g1 g2 hl hd=>?_)).symm;rcases hG.pair l (j+k) rl r (by omega) hl hr with ho | hf
   ·grind
   ·exact ((Dj hf.1).1 t hd).1 ht
  ·obtain ⟨k,rfl⟩:∃k,j=i+k:=⟨j-i,by omega⟩;refine AR hG.run k h1 (fun l rl g1 g2 hl hd=>?_);rcases wa g1 with rfl | g1
   ·grind
   ·rcases hG.pair i l r rl g1 hr hl with ho | hf
    ·grind
    ·exact (Dj hf.1).2 t hd ht
 grind
def O4 {D D':Nat->Prop} {m m':Mp} {S S':Nat->Prop} {w w':yg} {a:Act} {i:Nat} {r:aR} {u:ye} (hG:mz O H self ops rs bD bq bj vF) (hT:FP O rs bD D m S w a) (hr:rs[i]? =some r) (hi:¬D i)
  (fm:∀j,Ord ops j i->D j) (fP:∀j,Ord ops i j->¬D j) (hD:∀j,D' j↔D j\/j=i) (hm:cE m m') (hS:∀b,S b->S' b) (hw:eh S w w') (hd:∀d,r.dst=some d->d<a.tmps.size)
  (hv:af O.ae m' S' w' (vF i) u):FP O rs bD D' m' S' w' (a.put r.dst u):=by
 intro t;have z8:i<rs.length:=(xF.1 hr).1;by_cases CD:r.dst=some t
 ·refine ⟨i+1,z8,fun l rl hl Kl=>?_,?_⟩
  ·rw [hD];constructor
   ·rintro (h | h)
    ·rcases wm l (i+1) with g | g
     ·grind
     ·rcases hG.pair i l r rl (by omega) hr hl with ho | hf
      ·grind
      ·exact (((Dj hf.1).1 t CD).2 Kl).elim
    ·omega
   ·intro h;rcases wa (um h) with h | h
    ·grind
    ·rcases hG.pair l i rl r h hl hr with ho | hf
     ·grind
     ·exact (((Dj hf.1).1 t Kl).2 CD).elim
  ·rw [hG.run.tm i r hr,HY,HZ hd,yS CD,yS CD];exact hv
 ·obtain ⟨j,h1,h2,h3⟩:=hT t;refine ⟨j,h1,fun l rl hl Kl=>?_,?_⟩
  ·grind
  ·rw [HZ hd,yD CD];exact iN hm hS hw _ _ h3
def LM {tm:Env} {hp ai:Hp} {ct aK id off sz Kh t:Nat} {ag:Bool} {x y:X} {v v':AV}:∀{l:List (Nat×Bool×Nat)},sY tm id l=true->(sz,ag,t)∈l->ao tm x= .ptr id off->
  b8 tm hp ct (.st Kh x y)=some (v',ai,aK)->fT hp sz ag (ah tm t)=some v->fT ai sz ag (ah tm t)=some v
 | [],_,h,_,_,_=>by cases h
 | (s,g,u)::r,h,hm,hx,hw,hv=>by
  simp only [sY,yf] at h;rcases wc.1 hm with e | hm
  ·simp only [yi] at e;obtain ⟨rfl,rfl,rfl⟩:=e;have h1:=h.1
   split at h1
   ·rename_i j o hj;have fZ:j≠id:=by
     intro e
     simp_all
    rw [hj] at hv ⊢;simp only [b8,hx] at hw;have key:∀ob,aj (aW hp id ob) j=aj hp j:=fun ob=>by rw [mo,yD (yaE fZ)]
    split at hw
    ·rename_i pu ex z cs U8;generalize (yq _ _&&yA _ _&&bT _)=bb at hw
     cases bb with
     | false=>cases hw
     | true=>
      obtain ⟨_,rfl,_⟩:=hw;simp only [fT,key] at hv ⊢;exact hv
    ·cases hw
   ·rename_i cs hj;rw [hj] at hv ⊢;simpa only [fT] using hv
   ·cases h1
  ·exact LM h.2 hm hx hw hv
def Lx {D:Nat->Prop} {i c:Nat} {r:aR} {sz t:Nat} {ag:Bool} (hG:mz O H self ops rs bD bq bj vF) (hr:rs[i]? =some r) (hi:¬D i) (Aa:r.guard=none/\r.op= .ld sz ag (.t t)) (hc:c<=rs.length)
  (hW:∀j,j<c->gD rs j->D j) (fP:∀j,Ord ops i j->¬D j) (aU:∀j,j<=c->∀id o,aj (bq j) id=some o->id<bj j):∀k,i+1+k<=c->fT (bq (i+1+k)) sz ag (ah (bD i) t)=some (vF i)
 | 0,hk=>by
  have h1:=hG.run.step i r hr;simp only [eJ,Aa.1,kB,Aa.2] at h1;obtain ⟨h2,h3,h4⟩:=NY (.inr ⟨_,_,_,rfl⟩) h1;simp only [bc,ao] at h2
  grind
 | k+1,hk=>by
  have ih:=Lx hG hr hi Aa hc hW fP aU k (by omega);have hl:i+1+k<rs.length:=by omega
  have hj:rs[i+1+k]? =some rs[i+1+k]:=by simp [hl]
  have aQ:=hG.run.step _ _ hj;rw [show i+1+(k+1)=i+1+k+1 by omega];rcases wY (gD rs (i+1+k)) with hw | hw
  ·have hD:=hW _ (by omega) hw;rcases hG.pair i (i+1+k) r _ (by omega) hr hj with ho | hf
   ·grind
   ·obtain ⟨FQ,ga⟩:=hf;obtain ⟨dJ,h5,h6⟩:=hw;rw [hj] at h5;injection h5 with h5
    subst h5;rcases ga with ga | ga
    ·have h1k:bf r.op=1:=by rw [Aa.2];rfl
     simp only [AL,h1k,h6] at ga;cases ga
    ·unfold A2 at ga;simp only [Aa.1,Aa.2] at ga;generalize gC:(rs[i+1+k]).op=q at ga;have RW:zj t (r::(rs.take (i+1+k)).drop (i+1))=true->ah (bD (i+1+k)) t=ah (bD i) t:=by
      intro aiC;have iF:=Mg aiC;rw [show i+1+k=i+(1+k) by omega];refine AR hG.run (1+k) (by omega) (fun l rl g1 g2 pX=>iF rl ?_);rcases wa g1 with rfl | g1
      ·grind
      ·refine xT _ ?_
       have:((rs.take (i+1+k)).drop (i+1))[l-(i+1)]? =some rl:=by
        rw [List.getElem?_drop,List.getElem?_take_of_lt (by omega),show i+1+(l-(i+1))=l by omega];exact pX
       exact List.mem_of_getElem? this
     unfold eJ at aQ
     cases hg:kB (bD (i+1+k)) (rs[i+1+k]).guard with
     | none=>simp [hg] at aQ
     | some b=>
      cases b with
      | false=>
       simp only [hg,yb,yi] at aQ;rw [<-aQ.2.1];exact ih
      | true=>
       simp only [hg,gC] at aQ;cases q<;>simp only [yt] at ga
       case eX FR fx xs=>
        simp only [yf] at ga;have Jv:=Hy ga.1;have CE:=RW ga.2;simp only [aY] at aQ
        cases fX:cw O.prog O.aI self (bq (i+1+k)) (bj (i+1+k)) .dyn (ao (bD (i+1+k)) fx) (cx (bD (i+1+k)) xs) with
        | none=>simp [fX] at aQ
        | some z=>
         obtain ⟨v1,bl,mV⟩:=z;simp only [fX] at aQ
         cases hs:lE (bD (i+1+k)) (bq (i+1+k)) bl FR with
         | false=>rw [hs] at aQ;cases aQ
         | true=>
          rw [hs] at aQ;simp only [ym,yb,yi] at aQ;obtain ⟨_,h8,_⟩:=aQ;rw [<-h8,<-CE];exact Lw hs Jv (by rw [CE];exact ih)
       case gP FR Kh x v=>
        simp only [yf] at ga;have Jv:=Hy ga.1;have CE:=RW ga.2;simp only [aY] at aQ
        split at aQ
        ·rename_i id off hx
         cases hs:sY (bD (i+1+k)) id FR with
         | false=>rw [hs] at aQ;cases aQ
         | true=>
          rw [hs] at aQ;simp only [ym] at aQ;rw [<-CE];exact LM hs Jv hx aQ (by rw [CE];exact ih)
        ·cases aQ
  ·exact OW (M4 (A4 hj hw) aQ (aU _ (by omega))).le ih
structure Inv (O:aZ) (ops:Array yL) (rs:List aR) (bD:Nat->Env) (bq:Nat->Hp) (bj:Nat->Nat) (D:Nat->Prop) (m0:Mp) (S0:Nat->Prop) (w0:yg) (n0:Nat) (d0:List yaF) (st c:Nat) (m:Mp) (S:Nat->Prop) (w:yg) (a:Act):Prop where
 Km:st<=c
 cn:c<=rs.length
 before:∀i,i<st->gD rs i->D i
 Ab:∀i,st<=i->i<c->¬gD rs i
 cut:c=rs.length\/(gD rs c/\¬D c)
 behind:∀(i:Nat) (r:aR),c<=i->rs[i]? =some r->1<=bf r.op->¬D i
 hp:aH O m S w (bq c) (bj c)
 Kn:∀id p,m id=some p->id<bj st\/∃i,st<=i/\i<c/\D i/\bj i<=id/\id<bj (i+1)
 tm:FP O rs bD D m S w a
 FT:bH m0 S0 w0 (bq 0) m S w (bq c) (bj 0)
 ge:bj 0<=bj c
 size:a.tmps.size=n0
 defers:a.defers=d0
 Ko:st=0\/gD rs (st-1)
 Ac:∀j,j<=c->∀id o,aj (bq j) id=some o->id<bj j
end
end
section
open Go
section
variable {O:aZ} {H:Hint} {ops:Array yL} {rs:List aR} {bD:Nat->Env} {bq:Nat->Hp} {bj:Nat->Nat} {vF:Nat->AV} {self:bZ} {ro:Option Nat} {Q:vT->Act->yg->Prop}
variable {D D':Nat->Prop} {m0:Mp} {S0:Nat->Prop} {w0:yg} {n0:Nat} {d0:List yaF} {st c i:Nat} {m:Mp} {S:Nat->Prop} {w:yg} {a:Act} {r:aR} {o:yL}
def DG (hG:mz O H self ops rs bD bq bj vF) (hI:Inv O ops rs bD bq bj D m0 S0 w0 n0 d0 st c m S w a) {x y:Nat} (hx:st<=x) (hxy:x<=y) (hy:y<=c):fj (bq x) (bj x) (bq y) (bj y):=by
 obtain ⟨k,rfl⟩:∃k,y=x+k:=⟨y-x,by omega⟩
 have:=hI.cn
 exact DF hG.run (hI.Ac x (by omega)) k (by omega) (fun j r h1 h2 hr=>A4 hr (hI.Ab j (by omega) (by omega)))
def H4 (hG:mz O H self ops rs bD bq bj vF) (hI:Inv O ops rs bD bq bj D m0 S0 w0 n0 d0 st c m S w a) (hr:rs[i]? =some r) (hi:¬D i) (fm:∀j,Ord ops j i->D j) (fP:∀j,Ord ops i j->¬D j) (hD:∀j,D' j↔D j\/j=i)
  (hd:∀d,r.dst=some d->d<a.tmps.size) (hw:¬gD rs i) (od:bf r.op=0\/i<c) {m':Mp} {S':Nat->Prop} {w':yg} {u:ye} (k1:aH O m' S' w' (bq c) (bj c)) (k2:cE m m')
  (k3:∀id p,m' id=some p->m id=some p\/(st<=i/\i<c/\bj i<=id/\id<bj (i+1))) (k4:af O.ae m' S' w' (vF i) u) (k5:bH m S w (bq c) m' S' w' (bq c) (bj c)):
  Inv O ops rs bD bq bj D' m0 S0 w0 n0 d0 st c m' S' w' (a.put r.dst u) where
 Km:=hI.Km
 cn:=hI.cn
 before j hj r4:=(hD j).2 (.inl (hI.before j hj r4))
 Ab:=hI.Ab
 cut:=hI.cut.imp (fun h=>h) (fun h=>⟨h.1,fun hc=>((hD c).1 hc).elim h.2 (fun e=>hw (e▸h.1))⟩)
 behind j rj hj r5 hk CF:=((hD j).1 CF).elim (hI.behind j rj hj r5 hk) (fun e=>by
  subst e;rw [hr] at r5;injection r5 with r5
  subst r5
  rcases od with h | h<;>omega)
 hp:=k1
 Kn id p hp:=by
  rcases k3 id p hp with h | ⟨h1,h2,h3,h4⟩
  ·rcases hI.Kn id p h with h | ⟨j,g1,g2,g3,g4,g5⟩
   ·exact .inl h
   ·exact .inr ⟨j,g1,g2,(hD j).2 (.inl g3),g4,g5⟩
  ·exact .inr ⟨i,h1,h2,(hD i).2 (.inr rfl),h3,h4⟩
 tm:=O4 hG hI.tm hr hi fm fP hD k2 k5.sub (fun b hb=>k5.still b hb) hd k4
 FT:=hI.FT.trans (k5.mG hI.ge)
 ge:=hI.ge
 size:=by rw [DZ];exact hI.size
 defers:=by rw [Ha];exact hI.defers
 Ko:=hI.Ko
 Ac:=hI.Ac
def O5 (hG:mz O H self ops rs bD bq bj vF) (hI:Inv O ops rs bD bq bj D m0 S0 w0 n0 d0 st c m S w a) (hr:rs[c]? =some r) (hi:¬D c) (fm:∀j,Ord ops j c->D j) (fP:∀j,Ord ops c j->¬D j) (hD:∀j,D' j↔D j\/j=c)
  (hd:∀d,r.dst=some d->d<a.tmps.size) (hw:gD rs c) {m':Mp} {S':Nat->Prop} {w':yg} {u:ye} (k1:aH O m' S' w' (bq (c+1)) (bj (c+1))) (k2:bj c<=bj (c+1))
  (k4:af O.ae m' S' w' (vF c) u) (k5:bH m S w (bq c) m' S' w' (bq (c+1)) (bj c)):
  ∃c' pK,Inv O ops rs bD bq bj D' m0 S0 w0 n0 d0 (c+1) c' m' pK w' (a.put r.dst u):=by
 have fX:c<rs.length:=(xF.1 hr).1;obtain ⟨c',h1,h2,h3,h4⟩:=IQ rs (rs.length-(c+1)) (c+1) (by omega);obtain ⟨k,rfl⟩:∃k,c'=c+1+k:=⟨c'-(c+1),by omega⟩;have hg:∀k',k'<=k->fj (bq (c+1)) (bj (c+1)) (bq (c+1+k')) (bj (c+1+k')):=fun k' kV=>
  DF hG.run k1.aU k' (by omega) (fun j r g1 g2 hr=>A4 hr (h3 j g1 (by omega)))
 obtain ⟨pK,g1,g2,g3,g4⟩:=DY k1 (hg k (yC _));have hml:cE m m':=fun id p h=>k5.old id p (hI.hp.lt id p h) h
 refine ⟨c+1+k,pK,⟨by omega,h2,?_,h3,?_,?_,g1,fun id p h=> .inl (k1.lt id p h),?_,?_,?_,by rw [DZ];exact hI.size,by rw [Ha];exact hI.defers,.inr (by simpa using hw),?_⟩⟩
 ·intro j hj r4;rcases wa (um hj) with e | hj
  ·exact (hD j).2 (.inr e)
  ·rcases wm j st with g | g
   ·exact (hD j).2 (.inl (hI.before j g r4))
   ·exact (hI.Ab j g hj r4).elim
 ·refine h4.imp (fun h=>h) (fun h=>⟨h,fun hc=>?_⟩);obtain ⟨rc,Kp,od⟩:=h;rcases (hD _).1 hc with g | g
  ·exact hI.behind _ rc (by omega) Kp (by omega) g
  ·omega
 ·intro j rj hj r5 hk CF;rcases (hD j).1 CF with g | g
  ·exact hI.behind j rj (by omega) r5 hk g
  ·omega
 ·exact O4 hG hI.tm hr hi fm fP hD hml (fun b hb=>g2 b (k5.sub b hb)) (fun b hb=>k5.still b hb) hd (iN (fun _ _ h=>h) g2 (fun _ _=>rfl) _ _ k4)
 ·exact (hI.FT.trans (k5.mG hI.ge)).trans (g4 (bj 0))
 ·have:=(hg k (yC _)).kY
  have:=hI.ge
  omega
 ·intro j hj;rcases wm c j with g | g
  ·obtain ⟨k',rfl⟩:∃k',j=c+1+k':=⟨j-(c+1),by omega⟩;exact (hg k' (by omega)).lt
  ·exact hI.Ac j g
def aar {q:Op} (h:bf q≠2):ji q=q:=by
 cases q<;>first
  | rfl
  | exact absurd rfl h
def Mh {x y:aR} {l:List aR} (h:Fa x y l):¬(bf x.op=2/\1<=bf y.op)/\(1<=bf x.op->bf y.op=2->x.guard=none/\∃sz ag t,x.op= .ld sz ag (.t t)):=by
 obtain ⟨_,h⟩:=h;have ex:A2 x y l=true->x.guard=none/\∃sz ag t,x.op= .ld sz ag (.t t):=by
  intro he;unfold A2 at he
  grind
 have k2:∀q:Op,bf q<=2:=fun q=>by
  cases q with
  | cV k x lo hi=>cases k<;>simp [bf]
  | len k x=>rcases k with _ | _ | k<;>simp [bf]
  | call md f xs=>cases md<;>simp [bf]
  | _=>simp [bf]
 constructor
 ·rintro ⟨h1,h2⟩;rcases h with h | h
  ·have:bf y.op=1\/bf y.op=2:=by grind
   rcases this with e | e<;>(simp only [AL,h1,e] at h;cases h)
  ·obtain ⟨_,sz,ag,t,e⟩:=ex h;rw [e] at h1;cases h1
 ·intro h1 h2;rcases h with h | h
  ·have:bf x.op=1\/bf x.op=2:=by grind
   rcases this with e | e<;>(simp only [AL,h2,e] at h;cases h)
  ·exact ex h
def aas (hC:jA O self) (hH:dW O H) (hG:mz O H self ops rs bD bq bj vF) (hn:H.n<=n0) (hI:Inv O ops rs bD bq bj D m0 S0 w0 n0 d0 st c m S w a) (hr:rs[i]? =some r) (ho:ops[i]? =some o) (hi:¬D i)
  (fm:∀j,Ord ops j i->D j) (fP:∀j,Ord ops i j->¬D j) (hD:∀j,D' j↔D j\/j=i) {K:Act->yg->Prop}
  (hK:∀st' c' m' S' w' a',Inv O ops rs bD bq bj D' m0 S0 w0 n0 d0 st' c' m' S' w' a'->K a' w'):wpOpIn (WF ro) 0 O.P ops Q i K a w:=by
 have cD:=hG.of i r o hr ho;have Jw:=aco hG hI.tm hr hi fm fP;have aQ:=hG.run.step i r hr;have hd:∀d,r.dst=some d->d<a.tmps.size:=by
  rw [cD.dst];exact NX cD.ok (by rw [hI.size];exact hn)
 have mW:=hI.Km;have kX:1<=bf r.op->i<=c:=by
  intro hk;rcases wm c i with Kq | Kq
  ·have z8:i<rs.length:=(xF.1 hr).1;rcases hI.cut with h | ⟨⟨rc,Kp,od⟩,Ct⟩
   ·omega
   ·rcases hG.pair c i rc r Kq Kp hr with h | h
    ·exact (Ct (fm c h)).elim
    ·exact ((Mh h).1 ⟨od,hk⟩).elim
  ·exact Kq
 have U9:gD rs i->i=c:=by
  intro hw;obtain ⟨dJ,h1,h2⟩:=hw;rw [hr] at h1;injection h1 with h1
  subst h1;have h3:=kX (by omega);rcases wa h3 with e | h3
  ·exact e
  ·rcases wm i st with g | g
   ·exact (hi (hI.before i g ⟨r,hr,h2⟩)).elim
   ·exact (hI.Ab i g h3 ⟨r,hr,h2⟩).elim
 have aU:1<=bf r.op->¬gD rs i->i<c:=by
  intro hk hw;rcases wa (kX hk) with e | h
  ·subst e;rcases hI.cut with h | h
   ·have z8:i<rs.length:=(xF.1 hr).1;omega
   ·exact (hw h.1).elim
  ·exact h
 have od:¬gD rs i->bf r.op=0\/i<c:=fun hw=>by
  rcases xp (bf r.op) with h | h
  ·exact .inl h
  ·exact .inr (aU h hw)
 unfold wpOpIn;simp only [ho];unfold eJ at aQ
 cases FU:kB (bD i) r.guard with
 | none=>simp [FU] at aQ
 | some b=>
  have Ki:=M1 cD.guard (fun t ht=>Jw t (by simp [qO,ht])) FU;rw [Ki]
  cases b with
  | false=>
   simp only [FU,yb,yi] at aQ;obtain ⟨hv,hh,hc⟩:=aQ;simp only [yt,yG];refine ⟨fun _ _=>trivial,?_⟩;have du:∀m S w,af O.ae m S w (vF i) undef:=fun m S w=>by rw [<-hv];simp [af,ak,undef]
   rw [<-cD.dst];rcases wY (gD rs i) with hw | hw
   ·have e:=U9 hw;subst e;obtain ⟨c',pK,h⟩:=O5 hG hI hr hi fm fP hD hd hw (m':=m) (S':=S) (w':=w) (u:=undef) (by rw [<-hh,<-hc];exact hI.hp) (by omega) (du _ _ _) (by rw [<-hh];exact bH.refl)
    exact hK _ _ _ _ _ _ h
   ·exact hK _ _ _ _ _ _ (H4 hG hI hr hi fm fP hD hd hw (od hw) (m':=m) (S':=S) (w':=w) (u:=undef) hI.hp cE.refl (fun _ _ h=> .inl h) (du _ _ _) bH.refl)
  | true=>
   simp only [FU] at aQ;simp only [yQ];have iF:=LL cD.op aQ;have FV:bJ O m S w (cz (bD i) (gZ r.op)) a.tmps:=fun t=>by
    rcases wY (t∈gZ r.op) with h | h
    ·rw [D0 h];exact Jw t (by simp [qO,h])
    ·have:ah (cz (bD i) (gZ r.op)) t= .undef:=by
      clear Jw aQ;revert h;generalize gZ r.op=l;intro h
      induction l with
      | nil=>rfl
      | cons x l ih=>
       simp only [cz,ah];have hx:yq x t=false:=by
        cases hq:yq x t with
        | false=>rfl
        | true=>exact absurd (by rw [yk hq];exact List.mem_cons_self) h
       rw [hx];exact ih (fun h'=>h (xT _ h'))
     rw [this];simp only [af]
   have CG:aY O.prog O.aI self (cz (bD i) (gZ r.op)) (bq i) (bj i) (ji r.op)=some (vF i,bq (i+1),bj (i+1)):=
    YL (fun t ht=>D0 ht) aQ
   have P7:¬gD rs i->ji r.op=r.op:=fun hw=>aar (fun h=>hw ⟨r,hr,h⟩)
   have now:¬gD rs i->bc (cz (bD i) (gZ r.op)) (bq c) r.op=some (vF i)->Oper.wpIn (WF ro) 0 O.P o a w K Q:=by
    intro hw gT;have gC:∃k,r.op=aV O.P H k o:=by
     rcases cD.op with h | ⟨cc,f,rr,_,_,h⟩ | ⟨_,_,_,_,_,_,_,h⟩
     ·exact h
     ·rw [h] at gT;simp [bc] at gT
     ·rw [h] at gT;simp [bc] at gT
    obtain ⟨k,hk⟩:=gC;rw [hk] at gT;rw [hk] at FV;obtain ⟨u,h1,h2⟩:=OQ hH FV hI.hp gT;refine Er iF h1 (.inl rfl) ?_;rw [<-cD.dst];exact hK _ _ _ _ _ _ (H4 hG hI hr hi fm fP hD hd hw (od hw) hI.hp cE.refl (fun _ _ h=> .inl h) h2 bH.refl)
   rcases wY (gD rs i) with hw | hw
   ·have e:=U9 hw;subst e;refine NW hC hH (XJ cD.op) iF CG FV hI.hp (fun u m' S' w' k1 k2 k3 k4=>?_);rw [<-cD.dst];obtain ⟨c',pK,h⟩:=O5 hG hI hr hi fm fP hD hd hw k1 k2 k3 k4;exact hK _ _ _ _ _ _ h
   ·rcases xp (bf r.op) with hk | hk
    ·have CG:=P7 hw▸CG;obtain ⟨h1,_,_⟩:=NY (.inl hk) CG;exact now hw (by rw [YC hk (bq c) (bq i)];exact h1)
    ·have Cz:=aU hk hw;rcases wm i st with Jx | Jx
     ·
      rcases hI.Ko with h0 | h0
      ·omega
      ·have bl:D (st-1):=hI.before _ (by omega) h0;have fZ:i≠st-1:=fun e=>hi (e▸bl)
       obtain ⟨rp,hrp,hkp⟩:=h0;rcases hG.pair i (st-1) r rp (by omega) hr hrp with h | h
       ·exact (fP _ h bl).elim
       ·obtain ⟨hg,sz,ag,t,gC⟩:=(Mh h).2 hk hkp;have hl:=Lx (c:=c) hG hr hi ⟨hg,gC⟩ hI.cn (fun j hj r4=>by
         rcases wm j st with g | g
         ·exact hI.before j g r4
         ·exact (hI.Ab j g hj r4).elim) fP hI.Ac (c-(i+1)) (by omega)
        rw [show i+1+(c-(i+1))=c by omega] at hl;refine now hw ?_;rw [gC];simp only [bc,ao];rw [D0 (by simp [gZ,gh])];exact hl
     ·have gR:=DG hG hI (x:=i+1) (y:=c) (by omega) Cz (yC _);have CH:=DG hG hI (x:=st) (y:=i) (yC _) Jx (by omega)
      refine quiet_step (Hq:=bq c) (cH:=bj c) hC hH (A4 hr hw) cD.op iF (P7 hw▸CG) gR.le gR.kY (hI.Ac i (by omega)) ?_ FV hI.hp (fun u m' S' w' k1 k2 k3 k4 k5=>?_)
      ·intro id h1 h2
       cases hm:m id with
       | none=>rfl
       | some p=>
        rcases hI.Kn id p hm with h | ⟨j,q1,q2,q3,q4,q5⟩
        ·have:=CH.kY;omega
        ·rcases Nat.lt_trichotomy j i with g | g | g
         ·have:=(DG hG hI (x:=j+1) (y:=i) (by omega) g (by omega)).kY;omega
         ·subst g;exact (hi q3).elim
         ·have:=(DG hG hI (x:=i+1) (y:=j) (by omega) g (by omega)).kY;omega
      ·rw [<-cD.dst];exact hK _ _ _ _ _ _ (H4 hG hI hr hi fm fP hD hd hw (.inr Cz) k1 k2 (fun id p h=>(k3 id p h).imp (fun h=>h) (fun h=>⟨Jx,Cz,h.1,h.2⟩)) k4 k5)
def left (n:Nat) (listed:Array Bool):Nat:=(List.range n).countP fun i=> !listed.getD i false
def aat {n:Nat} {listed:Array Bool} {i:Nat} (hi:i<n) (hs:listed.size=n) (hl:listed.getD i true=false):left n (listed.setIfInBounds i true)+1=left n listed:=by
 have key:∀(l:List Nat),l.Nodup->(i∈l->(l.countP fun j=> !(listed.setIfInBounds i true).getD j false)+1=l.countP fun j=> !listed.getD j false)/\(i∉l->(l.countP fun j=> !(listed.setIfInBounds i true).getD j false)=l.countP fun j=> !listed.getD j false):=by
  intro l
  induction l with
  | nil=>intro _;exact ⟨fun h=>(by cases h),fun _=>rfl⟩
  | cons x l ih=>
   intro iF;have hx:x≠i->(listed.setIfInBounds i true).getD x false=listed.getD x false:=fun h=>getD_set_ne false (yaE h)
   refine ⟨fun hm=>?_,fun hm=>?_⟩
   ·rw [tK,tK];by_cases e:x=i
    ·simp_all
    ·grind
   ·grind
 exact (key _ List.nodup_range).1 (List.mem_range.2 hi)
def YM {n:Nat} {listed:Array Bool} (h:left n listed=0):∀i,i<n->listed.getD i false=true:=by
 unfold left at h
 simp_all
def YN {listed:Array Bool} (hs:listed.size=ops.size) (hb:∀(i:Nat) (o:yL),ops[i]? =some o->∀e,e∈o.after->Region.binds .any e=true->e.on<i) (h:Region.ready .any ops listed=[]):∀i,i<ops.size->listed.getD i false=true:=by
 intro i
 induction i using w6 with
 | _ i ih=>
  intro hi
  cases hq:listed.getD i false with
  | true=>rfl
  | false=>
   have:i∈Region.ready .any ops listed:=by
    refine mem_ready.2 ⟨?_,ops[i],by simp [hi],fun e he mT=>?_⟩
    ·have aU:i<listed.size:=by omega
     simp only [wj,aU,Array.getElem?_eq_getElem,vv] at hq ⊢;exact hq
    ·have:=hb i ops[i] (by simp [hi]) e he mT
     exact ih e.on this (by omega)
   rw [h] at this;cases this
def acp (hG:mz O H self ops rs bD bq bj vF) (hI:Inv O ops rs bD bq bj D m0 S0 w0 n0 d0 st c m S w a) (rA:∀i,i<rs.length->D i):
  aH O m S w (bq rs.length) (bj rs.length)/\bJ O m S w (bD rs.length) a.tmps/\bH m0 S0 w0 (bq 0) m S w (bq rs.length) (bj 0)/\bj 0<=bj rs.length:=by
 have hc:c=rs.length:=by
  rcases hI.cut with h | ⟨⟨r,h1,_⟩,h2⟩
  ·grind
  ·grind
 subst hc;refine ⟨hI.hp,fun t=>?_,hI.FT,hI.ge⟩;obtain ⟨j,h1,h2,h3⟩:=hI.tm t;obtain ⟨k,hk⟩:∃k,rs.length=j+k:=⟨rs.length-j,by omega⟩
 have:=AR (t:=t) (i:=j) hG.run k (by omega) (fun l r g1 g2 hl hd=>by
  have:=(h2 l r hl hd).1 (rA l (xF.1 hl).1)
  omega)
 grind
def aey (hC:jA O self) (hH:dW O H) (hG:mz O H self ops rs bD bq bj vF) (hn:H.n<=n0)
  (hQ:∀a' m' S' w',aH O m' S' w' (bq rs.length) (bj rs.length)->bj 0<=bj rs.length->bJ O m' S' w' (bD rs.length) a'.tmps->bH m0 S0 w0 (bq 0) m' S' w' (bq rs.length) (bj 0)->a'.tmps.size=n0->a'.defers=d0->Q .normal a' w'):
  ∀(a6:Nat) (listed:Array Bool) (st c:Nat) (m:Mp) (S:Nat->Prop) (w:yg) (a:Act),listed.size=ops.size->left ops.size listed=a6->IP ops (fun i=>listed.getD i false=true)->
   Inv O ops rs bD bq bj (fun i=>listed.getD i false=true) m0 S0 w0 n0 d0 st c m S w a->wpAnyIn (WF ro) 0 O.P .any ops Q a6 listed a w:=by
 have fin:∀(listed:Array Bool) (st c:Nat) (m:Mp) (S:Nat->Prop) (w:yg) (a:Act),Inv O ops rs bD bq bj (fun i=>listed.getD i false=true) m0 S0 w0 n0 d0 st c m S w a->(∀i,i<ops.size->listed.getD i false=true)->Q .normal a w:=by
  intro listed st c m S w a hI rA;obtain ⟨h1,h2,h3,h4⟩:=acp hG hI (fun i hi=>rA i (by rw [<-hG.len];exact hi))
  exact hQ a m S w h1 h4 h2 h3 hI.size hI.defers
 intro a6
 induction a6 with
 | zero=>
  intro listed st c m S w a hs hl hc hI;have rA:=YM hl;refine ⟨?_,fin listed st c m S w a hI rA⟩;rw [List.eq_nil_iff_forall_not_mem];intro i hm;obtain ⟨h1,o,ho,_⟩:=mem_ready.1 hm
  grind
 | succ a6 ih=>
  intro listed st c m S w a hs hl hc hI;refine ⟨fun h=>fin listed st c m S w a hI (YN hs hG.back h),fun i hm=>?_⟩;obtain ⟨h1,o,ho,h2⟩:=mem_ready.1 hm;have hi:i<ops.size:=(Array.getElem?_eq_some_iff.1 ho).1;have hr:rs[i]? =some (rs[i]'(by rw [hG.len];exact hi)):=by simp [hG.len,hi]
  have aU:i<listed.size:=by omega
  have Va:¬listed.getD i false=true:=by
   grind
  have hD:∀j,(listed.setIfInBounds i true).getD j false=true↔listed.getD j false=true\/j=i:=by
   intro j;by_cases e:j=i
   ·simp_all
   ·rw [getD_set_ne false (yaE e)];simp [e]
  refine aas hC hH hG hn hI hr ho Va (M3 hc i o ho h2) (fun j hj CF=>?_) hD (fun st' c' m' S' w' a' hI'=>ih (listed.setIfInBounds i true) st' c' m' S' w' a' (by simp [hs]) ?_ ?_ hI')
  ·have U6:j<ops.size:=by
    grind
   exact Va (aaq hc (show ops[j]? =some ops[j] by simp [U6]) CF hj)
  ·have:=aat hi hs h1
   omega
  ·intro j oj hoj hj e he hb;rw [hD];rcases (hD j).1 hj with g | g
   ·exact .inl (hc j oj hoj g e he hb)
   ·grind
end
end
end VE
