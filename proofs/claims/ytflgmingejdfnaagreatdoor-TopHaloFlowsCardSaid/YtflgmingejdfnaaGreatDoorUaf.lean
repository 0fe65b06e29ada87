import Derived.OrdersIn
import Derived.Test.YtflgmingejdfnaaGreatDoorUae
set_option linter.all false
set_option maxRecDepth 100000
open Array renaming getD_eq_getD_getElem?→wV
open Bool renaming and_eq_true→yg,false_eq_true→yA,not_eq_true'→tf,or_eq_false_iff→tU,or_eq_true→uV
open Classical renaming em→vW
open Go renaming Call→yar,Deferred→ybP,Exit→uQ,Oper→yY,Operand→xB,Program→y7,Value→yf,World→yh
open List renaming countP_cons→yaJ,getElem?_cons_zero→vA,getElem?_eq_some_iff→wh,length_append→yO,length_cons→yy,length_nil→yG,mem_append→wG,mem_cons→wK,mem_cons_of_mem→wI
open Nat renaming beq→yx,ble→yE,eq_of_beq_eq_true→yo,eq_or_lt_of_le→wP,eq_zero_or_pos→xu,le_of_lt_succ→tq,le_refl→yB,le_trans→xp,lt_or_ge→wY,strongRecOn→vZ,testBit→uo
open Ne renaming symm→ybY
open Option renaming bind_some→xP,getD_some→vt
open Option.some renaming injEq→yc
open Prod.mk renaming injEq→yk
namespace VE
section
open Go
section
variable {O:bD} {H:Hint} {m:Mp} {S:Nat->Prop} {w:yh} {tm:Env} {a:Act} {hp ao:Hp} {ct bj:Nat} {self:cT} {ro:Option Nat} {next:Act->yh->Prop} {Q:uQ->Act->yh->Prop}
def cG.zh {m':Mp} {S':Nat->Prop} {w':yh} {b b':Nat} (h:cG m S w hp m' S' w' ao b) (hb:b'<=b):cG m S w hp m' S' w' ao b':=
 ⟨h.os,h.tape,h.output,h.size,h.same,h.sub,h.still,h.new,h.own,fun i q hi hq=>h.old i q (by omega) hq,h.loops⟩
def asP {hp:Hp} {ct:Nat} {r:AV} (bm:∀id o,ap hp id=some o->id<ct):∀id o,ap (own hp ct r).2.1 id=some o->id<(own hp ct r).2.2:=by
 have hL:∀(vs:List AV) (hp:Hp) (ct:Nat),(∀id o,ap hp id=some o->id<ct)->∀id o,ap (kG hp ct vs).2.1 id=some o->id<(kG hp ct vs).2.2:=by
  intro vs
  induction vs with
  | nil=>intro hp ct h id o ho;exact h id o ho
  | cons v r ih=>intro hp ct h id o ho;exact ih _ _ (JD h) id o ho
 cases r with
 | aw vs=>exact hL vs hp ct bm
 | _=>exact JD bm
def asQ {hp:Hp} {ct:Nat} {r:AV} (bm:∀id o,ap hp id=some o->id<ct):∀id o,ap hp id=some o->ap (own hp ct r).2.1 id=some o:=by
 cases r with
 | aw vs=>exact N6 bm
 | _=>exact TI bm
def asR {hp:Hp} {ct:Nat} {r:AV}:ct<=(own hp ct r).2.2:=by
 cases r with
 | aw vs=>exact N5
 | _=>exact N4
def aod {hp:Hp} {ct:Nat} {r:AV}:∀id o,ap (own hp ct r).2.1 id=some o->id<ct->ap hp id=some o:=by
 have h1:∀(hp:Hp) (ct:Nat) (r:AV) id o,ap (fO hp ct r).2.1 id=some o->id<ct->ap hp id=some o:=by
  intro hp ct r id o h hc;cases r<;>simp only [fO] at h<;>try exact h
  rw [iC,yr (by omega)] at h;exact h
 have hL:∀(vs:List AV) (hp:Hp) (ct:Nat) id o,ap (kG hp ct vs).2.1 id=some o->id<ct->ap hp id=some o:=by
  intro vs
  induction vs with
  | nil=>intro hp ct id o ho _;exact ho
  | cons v r ih=>intro hp ct id o ho hc;exact h1 hp ct v id o (ih _ _ id o ho (by have:=N4 (hp:=hp) (ct:=ct) (r:=v);omega)) hc
 cases r with
 | aw vs=>exact hL vs hp ct
 | _=>exact h1 hp ct _
structure iU (hp:Hp) (ct:Nat) (ao:Hp) (bj:Nat):Prop where
 le:dN hp ao
 qQ:ct<=bj
 lt:∀id o,ap ao id=some o->id<bj
 back:∀id o,ap ao id=some o->id<ct->∃o',ap hp id=some o'
def iU.refl (bm:∀id o,ap hp id=some o->id<ct):iU hp ct hp ct:=⟨dN.refl,yB _,bm,fun _ o h _=>⟨o,h⟩⟩
def iU.trans {KE:Hp} {ahv:Nat} (h:iU hp ct ao bj) (k:iU ao bj KE ahv):iU hp ct KE ahv:=
 ⟨h.le.trans k.le,xp h.qQ k.qQ,k.lt,fun id o ho hi=>let ⟨o1,h1⟩:=k.back id o ho (Nat.lt_of_lt_of_le hi h.qQ);h.back id o1 h1 hi⟩
def aa1 {OE vals:List AV} {bI:Hp} (hz:cW deep hp OE=some (vals,bI)) (bm:∀id o,ap hp id=some o->id<ct):iU hp ct bI ct:=by
 obtain ⟨z1,z2,_⟩:=R8 (O:=⟨default,⟨fun _=>none,fun _=>none⟩,fun _=>0,fun _=>none,fun _=>⟨0,fun _=>none,fun _=>[],fun _=>none,fun _=> .pure,fun _=>[]⟩,default⟩) hz;have hb:∀id o,ap bI id=some o->∃o',ap hp id=some o':=fun id o h=>by
  have:=z2 id
  rw [h] at this
  cases hq:ap hp id with
  | none=>rw [hq] at this;cases this
  | some q=>exact ⟨q,rfl⟩
 exact ⟨z1,yB _,fun id o h=>let ⟨o',h'⟩:=hb id o h;bm id o' h',fun id o h _=>hb id o h⟩
def ami {r:AV} (bm:∀id o,ap hp id=some o->id<ct):iU hp ct (own hp ct r).2.1 (own hp ct r).2.2:=
 ⟨fun id o h=>⟨o,asQ bm id o h,jX.refl o⟩,asR,asP bm,fun id o h hi=>⟨o,aod id o h hi⟩⟩
def ZJ {P:aI} {L:Lib} {q:Op} {v:AV} (hk:bK q<=1) (hv:bC P L self tm hp ct q=some (v,ao,bj)) (bm:∀id o,ap hp id=some o->id<ct):iU hp ct ao bj:=by
 have dc:∀{q:Op},(match dt tm hp ct q with | some (v,b)=>some (v,(ct,b)::hp,ct+1) | none=>(none:gM))=some (v,ao,bj)->iU hp ct ao bj:=by
  intro q h
  cases hm:dt tm hp ct q with
  | none=>simp [hm] at h
  | some r=>
   obtain ⟨v1,b⟩:=r;simp only [hm,yc,yk] at h;obtain ⟨rfl,rfl,rfl⟩:=h;refine ⟨fun id o ho=>⟨o,?_,jX.refl o⟩,by omega,fun id o ho=>?_,fun id o ho hi=>?_⟩
   ·rw [iC,yr (by have:=bm id o ho;omega)];exact ho
   ·rw [iC] at ho
    grind
   ·rw [iC,yr (by omega)] at ho;exact ⟨o,ho⟩
 have lF:∀{q:Op},(match bH tm hp q with | some v=>some (v,hp,ct) | none=>(none:gM))=some (v,ao,bj)->iU hp ct ao bj:=by
  intro q h
  cases hm:bH tm hp q with
  | none=>simp [hm] at h
  | some r=>
   simp only [hm,yc,yk] at h;obtain ⟨rfl,rfl,rfl⟩:=h;exact iU.refl bm
 cases cz:q with
 | st _ _ _=>simp [cz,bK] at hk
 | qF _ _ _ _=>simp [cz,bK] at hk
 | qH _=>simp [cz,bK] at hk
 | dV _ _ _ _=>simp [cz,bK] at hk
 | qI _ _ _=>simp [cz,bK] at hk
 | iE _ _ _=>simp [cz,bK] at hk
 | jf _ _ _ _=>simp [cz,bK] at hk
 | box s x=>exact dc (q:=q) (by rw [cz] at hv ⊢;simp only [bC] at hv;exact hv)
 | dI n s z ps=>exact dc (q:=q) (by rw [cz] at hv ⊢;simp only [bC] at hv;exact hv)
 | iw s b z x y=>exact dc (q:=q) (by rw [cz] at hv ⊢;simp only [bC] at hv;exact hv)
 | Ba=>exact dc (q:=q) (by rw [cz] at hv ⊢;simp only [bC] at hv;exact hv)
 | qG x=>exact dc (q:=q) (by rw [cz] at hv ⊢;simp only [bC] at hv;exact hv)
 | call md x xs=>
  subst cz;simp only [bC,dR] at hv
  split at hv
  ·rename_i g first cap hx
   cases md with
   | heap=>simp [bK] at hk
   | dyn=>simp [bK] at hk
   | pure=>
    simp only at hv
    cases hz:cW deep hp (first++(dS tm xs++cap)) with
    | none=>simp [hz] at hv
    | some z=>
     obtain ⟨vals,bI⟩:=z;simp only [hz] at hv
     cases hr:bY P L self g vals with
     | none=>simp [hr] at hv
     | some r=>
      simp only [hr,yc,yk] at hv;obtain ⟨rfl,rfl,rfl⟩:=hv;exact aa1 hz bm
   | own=>
    simp only at hv
    cases hz:cW deep hp (first++(dS tm xs++cap)) with
    | none=>simp [hz] at hv
    | some z=>
     obtain ⟨vals,bI⟩:=z;simp only [hz] at hv
     cases hr:bY P L self g vals with
     | none=>simp [hr] at hv
     | some r=>
      simp only [hr,yc] at hv;have e2:ao=(own bI ct r).2.1:=by rw [hv]
      have e3:bj=(own bI ct r).2.2:=by rw [hv]
      subst e2;subst e3;have g1:=aa1 hz bm;exact g1.trans (ami g1.lt)
  ·cases md with
   | heap=>simp [bK] at hk
   | dyn=>simp [bK] at hk
   | _=>simp at hv
  ·cases hv
 | _=>exact lF (q:=q) (by rw [cz] at hv ⊢;simp only [bC] at hv;exact hv)
def NH (hh:bg O m S w hp ct) (hg:iU hp ct ao bj):∃S',bg O m S' w ao bj/\(∀b,S b->S' b)/\(∀b,S' b->S b\/eL m hp b)/\∀base,cG m S w hp m S' w ao base:=by
 have hd:∀id o p,ap ao id=some o->m id=some p->∃o',ap hp id=some o':=fun id o p h hm=>hg.back id o h (hh.lt id p hm)
 obtain ⟨S',g1,g2,g3⟩:=ac4 hh hg.le hd hg.qQ hg.lt;refine ⟨S',g1,g2,g3,fun base=>⟨rfl,rfl,rfl,yB _,fun _ _ _=>rfl,g2,fun _ _=>rfl,fun b hb=>(g3 b hb).imp (fun h=>h) .inl,?_,fun _ _ _ h=>h,fun _ r h=>⟨r,h⟩⟩⟩;rintro b ⟨i,o,p,h1,h2,h3⟩;obtain ⟨o',h4⟩:=hd i o p h1 h2;exact .inl ⟨i,o',p,h4,h2,h3⟩
def aoe {q:Op} {v:AV} (hv:dG tm hp ct q=some (v,ao,bj)):ct<=bj:=by
 cases q<;>simp only [dG,reduceCtorEq] at hv
 all_goals
  grind
def S5 {P:y7} {H:Hint} {o:yY} {rs:List (Nat×Bool×Nat)} {x:X} {xs:List X} (hq:AS P H (.iE rs x xs) o):∃c f,o.op= .call c/\c.callee= .value f/\x=aV H f/\xs=ir H c.args.toList:=by
 rcases hq with ⟨k,hk⟩ | ⟨c,f,rs',h1,h2,h3⟩ | ⟨_,_,_,_,_,_,_,h3⟩
 ·cases ho:o.op with
  | call c=>
   obtain ⟨callee,args,ts⟩:=c;simp only [bw,ho] at hk
   split at hk
   ·grind
   ·repeat' split at hk
    all_goals first
     | (cases hk;done)
     | (simp only [bad] at hk;cases hk;done)
     | (revert hk;generalize yx _ _=bb;intro hk;cases bb<;>simp [bad] at hk)
   ·simp only [bad] at hk;cases hk
  | binOp op t x' y ty=>
   cases op<;>simp only [bw,ho,sS,Al] at hk
   case eql=>
         repeat' split at hk
         all_goals first
          | (cases hk;done)
          | (simp only [bad] at hk;cases hk;done)
          | (cases dl:(P.stoodInHeld t||P.eqGuardType P.depth t)<;>rw [dl] at hk<;>simp [bad] at hk)
   case neq=>
         repeat' split at hk
         all_goals first
          | (cases hk;done)
          | (simp only [bad] at hk;cases hk;done)
          | (cases dl:(P.stoodInHeld t||P.eqGuardType P.depth t)<;>rw [dl] at hk<;>simp [bad] at hk)
   all_goals cases hk
  | buildSlice t n parts=>
   simp only [bw,ho] at hk
   repeat' split at hk
   all_goals first
    | (cases hk;done)
    | (simp only [bad] at hk;cases hk;done)
    | (revert hk;generalize yE _ _=bb;intro hk;cases bb<;>simp [bad] at hk)
  | makeMap t r=>
   cases r<;>simp only [bw,ho] at hk
   ·repeat' split at hk
    all_goals first
     | (cases hk;done)
     | (simp only [bad] at hk;cases hk;done)
   ·simp only [bad] at hk;cases hk
  | next x' b=>
   cases b<;>simp only [bw,ho] at hk
   ·simp only [bad] at hk;cases hk
   ·cases hk
  | _=>
   simp only [bw,ho] at hk
   (repeat' split at hk)
   all_goals first
    | contradiction
    | (cases hk;done)
    | (simp only [bad] at hk;cases hk;done)
 ·simp only [Op.iE.injEq] at h3;exact ⟨c,f,h1,h2,h3.2.1,h3.2.2⟩
 ·cases h3
def alb {P:y7} {H:Hint} {o:yY} {k:Nat} {rs:List (Nat×Bool×Nat)} {sz:Nat} {x y:X} (hk:Op.jf rs sz x y=bw P H k o):False:=by
 cases ho:o.op with
 | call c=>
  obtain ⟨callee,args,ts⟩:=c;simp only [bw,ho] at hk
  split at hk
  ·grind
  ·repeat' split at hk
   all_goals first
    | (cases hk;done)
    | (simp only [bad] at hk;cases hk;done)
    | (revert hk;generalize yx _ _=bb;intro hk;cases bb<;>simp [bad] at hk)
  ·simp only [bad] at hk;cases hk
 | binOp op t x' y ty=>
  cases op<;>simp only [bw,ho,sS,Al] at hk
  case eql=>
        repeat' split at hk
        all_goals first
         | (cases hk;done)
         | (simp only [bad] at hk;cases hk;done)
         | (cases dl:(P.stoodInHeld t||P.eqGuardType P.depth t)<;>rw [dl] at hk<;>simp [bad] at hk)
  case neq=>
        repeat' split at hk
        all_goals first
         | (cases hk;done)
         | (simp only [bad] at hk;cases hk;done)
         | (cases dl:(P.stoodInHeld t||P.eqGuardType P.depth t)<;>rw [dl] at hk<;>simp [bad] at hk)
  all_goals cases hk
 | buildSlice t n parts=>
  simp only [bw,ho] at hk
  repeat' split at hk
  all_goals first
   | (cases hk;done)
   | (simp only [bad] at hk;cases hk;done)
   | (revert hk;generalize yE _ _=bb;intro hk;cases bb<;>simp [bad] at hk)
 | makeMap t r=>
  cases r<;>simp only [bw,ho] at hk
  ·repeat' split at hk
   all_goals first
    | (cases hk;done)
    | (simp only [bad] at hk;cases hk;done)
  ·simp only [bad] at hk;cases hk
 | next x' b=>
  cases b<;>simp only [bw,ho] at hk
  ·simp only [bad] at hk;cases hk
  ·cases hk
 | _=>
  simp only [bw,ho] at hk
  (repeat' split at hk)
  all_goals first
   | contradiction
   | (cases hk;done)
   | (simp only [bad] at hk;cases hk;done)
def avy {P:y7} {H:Hint} {o:yY} {sz:Nat} {x y:X} (hq:AS P H (.st sz x y) o):∃t x' y',o.op= .store t x' y'/\da P t=some sz/\x=aV H x'/\y=aV H y':=by
 obtain ⟨k,hk⟩:∃k,Op.st sz x y=bw P H k o:=by
  rcases hq with h | ⟨_,_,_,_,_,h⟩ | ⟨_,_,_,_,_,_,_,h⟩
  ·grind
  ·grind
  ·cases h
 cases ho:o.op with
 | call c=>
  obtain ⟨callee,args,ts⟩:=c;simp only [bw,ho] at hk
  split at hk
  ·grind
  ·repeat' split at hk
   all_goals first
    | (cases hk;done)
    | (simp only [bad] at hk;cases hk;done)
    | (revert hk;generalize yx _ _=bb;intro hk;cases bb<;>simp [bad] at hk)
  ·simp only [bad] at hk;cases hk
 | binOp op t x' y ty=>
  cases op<;>simp only [bw,ho,sS,Al] at hk
  case eql=>
        repeat' split at hk
        all_goals first
         | (cases hk;done)
         | (simp only [bad] at hk;cases hk;done)
         | (cases dl:(P.stoodInHeld t||P.eqGuardType P.depth t)<;>rw [dl] at hk<;>simp [bad] at hk)
  case neq=>
        repeat' split at hk
        all_goals first
         | (cases hk;done)
         | (simp only [bad] at hk;cases hk;done)
         | (cases dl:(P.stoodInHeld t||P.eqGuardType P.depth t)<;>rw [dl] at hk<;>simp [bad] at hk)
  all_goals cases hk
 | buildSlice t n parts=>
  simp only [bw,ho] at hk
  repeat' split at hk
  all_goals first
   | (cases hk;done)
   | (simp only [bad] at hk;cases hk;done)
   | (revert hk;generalize yE _ _=bb;intro hk;cases bb<;>simp [bad] at hk)
 | makeMap t r=>
  cases r<;>simp only [bw,ho] at hk
  ·repeat' split at hk
   all_goals first
    | (cases hk;done)
    | (simp only [bad] at hk;cases hk;done)
  ·simp only [bad] at hk;cases hk
 | next x' b=>
  cases b<;>simp only [bw,ho] at hk
  ·simp only [bad] at hk;cases hk
  ·cases hk
 | store t x' y'=>
  simp only [bw,ho] at hk
  split at hk
  ·rename_i s hs;simp only [Op.st.injEq] at hk;obtain ⟨rfl,rfl,rfl⟩:=hk;exact ⟨t,x',y',rfl,hs,rfl,rfl⟩
  ·simp only [bad] at hk;cases hk
 | _=>
  simp only [bw,ho] at hk
  (repeat' split at hk)
  all_goals first
   | contradiction
   | (cases hk;done)
   | (simp only [bad] at hk;cases hk;done)
def aet {P:y7} {H:Hint} {o:yY} {rs:List (Nat×Bool×Nat)} {sz:Nat} {x y:X} (hq:AS P H (.jf rs sz x y) o):∃t x' y',o.op= .store t x' y'/\da P t=some sz/\x=aV H x'/\y=aV H y':=by
 rcases hq with ⟨k,hk⟩ | ⟨_,_,_,_,_,h3⟩ | ⟨t,x',y',W6,rs',h1,h2,h3⟩
 ·exact (alb hk).elim
 ·grind
 ·grind
def alc {P:y7} {H:Hint} {q:Op} {o:yY} (hq:AS P H q o):AS P H (nZ q) o:=by
 cases h:q with
 | iE rs f xs=>
  subst h;obtain ⟨c,f',g1,g2,g3,g4⟩:=S5 hq;exact .inr (.inl ⟨c,f',[],g1,g2,by rw [g3,g4];rfl⟩)
 | jf rs sz x y=>
  subst h;obtain ⟨t,x',y',g1,g2,g3,g4⟩:=aet hq;refine .inl ⟨0,?_⟩;simp only [nZ,bw,g1,g2,g3,g4]
 | _=>subst h;exact hq
def ab1 (hC:oG O self) (hH:gl O H) {o:yY} {q:Op} {v:AV} (hq:AS O.P H q o) (hd:∀c,o.op≠.defer c) (hv:bC O.prog O.aU self tm hp ct q=some (v,ao,bj))
  (ht:cF O m S w tm a.tmps) (hh:bg O m S w hp ct)
  (hn:∀u m' S' w',bg O m' S' w' ao bj->ct<=bj->aj O.ai m' S' w' v u->cG m S w hp m' S' w' ao ct->next (a.put o.dst u) w'):o.wpIn (WF ro) 0 O.P a w next Q:=by
 have quiet:bK q<=1->o.wpIn (WF ro) 0 O.P a w next Q:=by
  intro hk;have hg:=ZJ hk hv hh.bm;obtain ⟨S1,g1,g2,g3,g4⟩:=NH hh hg;refine quiet_step hC hH hk hq hd hv dN.refl (yB _) hh.bm (fun id h1 h2=>?_) (BO (fun _ _ h=>h) g2 (fun _ _=>rfl) ht) g1 (fun u m' S' w' k1 k2 k3 k4 k5=>hn u m' S' w' k1 hg.qQ k4 ((g4 ct).trans (k5.zh hg.qQ)))
  cases hm:m id with
  | none=>rfl
  | some p=>have:=hh.lt id p hm;omega
 have aeu:∀{q':Op},(∃k,q'=bw O.P H k o)->dG tm hp ct q'=some (v,ao,bj)->o.wpIn (WF ro) 0 O.P a w next Q:=by
  intro q' kK hw;obtain ⟨k,rfl⟩:=kK;obtain ⟨n,u,w',m',S',h1,h2,h3,h4,h5,h6⟩:=aqu hH ht hh hw;exact Ok hd h1 h2 (hn u m' S' w' h3 (aoe hw) h4 h6)
 have write:dG tm hp ct q=some (v,ao,bj)->o.wpIn (WF ro) 0 O.P a w next Q:=by
  intro hw;refine aeu ?_ hw;rcases hq with h | ⟨c,f,rs,_,_,rfl⟩ | ⟨_,_,_,_,_,_,_,rfl⟩
  ·exact h
  ·simp [dG] at hw
  ·simp [dG] at hw
 have heap:∀{c:yar} {f:xB} {g:Nat} {first cap:List AV},o.op= .call c->c.callee= .value f->aC tm (aV H f)= .fn (.f g) first cap->
   iS O.prog O.aU self hp ct g (first++(dS tm (ir H c.args.toList)++cap))=some (v,ao,bj)->o.wpIn (WF ro) 0 O.P a w next Q:=by
  intro c f g first cap ho ji hx he;obtain ⟨fi,ca,h1,h2⟩:=NG hH ht (args:=c.args) hx;refine M6 ho ji h1 (hC.heap _ _ _ _ _ _ _ he m S w _ hh h2) ?_;rintro e w' ⟨u,m',S',rfl,k1,k2,k3,k4⟩;exact ⟨u,rfl,hn u m' S' w' k1 k2 k3 k4⟩
 have round:∀{c:yar} {f:xB} {l:Nat} {x y:List AV},o.op= .call c->c.callee= .value f->aC tm (aV H f)= .fn (.y l) x y->
   jq self hp ct l (dS tm (ir H c.args.toList))=some (v,ao,bj)->o.wpIn (WF ro) 0 O.P a w next Q:=by
  intro c f l x y ho ji hx he;have rf:=cQ hH ht f;rw [hx] at rf;simp only [aj] at rf;obtain ⟨p,hm,hf⟩:=rf;have iq:=DL hH ht c.args.toList;obtain ⟨g,tmps,as_,body,h1,h2⟩:=hC.round _ _ _ _ _ _ _ he m S w (c.args.map a.eval) p hh hm (by simpa using iq);refine aoc ho ji hf h1 h2 ?_;rintro e w' ⟨u,m',S',rfl,k1,k2,k3,k4⟩;exact ⟨u,rfl,hn u m' S' w' k1 k2 k3 k4⟩
 have dyn:∀{c:yar} {f:xB},o.op= .call c->c.callee= .value f->dR O.prog O.aU self hp ct .dyn (aC tm (aV H f)) (dS tm (ir H c.args.toList))=some (v,ao,bj)->o.wpIn (WF ro) 0 O.P a w next Q:=by
  intro c f ho ji he;unfold dR at he
  split at he
  ·rename_i g first cap hx
   (try simp only at he)
   cases hp0:aK (first++(dS tm (ir H c.args.toList)++cap)) with
   | true=>
    rw [hp0] at he;simp only [ym] at he
    cases hr:bY O.prog O.aU self g (first++(dS tm (ir H c.args.toList)++cap)) with
    | none=>simp [hr] at he
    | some r=>
     simp only [hr,yc,yk] at he;obtain ⟨rfl,rfl,rfl⟩:=he;obtain ⟨fi,ca,h1,h2⟩:=NG hH ht (args:=c.args) hx;refine M6 ho ji h1 (hC.pure g _ r hr w S _ (TJ hh) hh.slt (Ab (fun _ h=>h) (fun _ _=>rfl) _ _ hp0 h2) hp0) ?_;rintro e w' ⟨u,S',rfl,hw,g1,g2,g3,g4⟩;obtain ⟨S2,k1,k2,k3⟩:=aaX g4 m;have hS:∀b,S b->S2 b:=fun b hb=>k1 b (g1 b hb)
     have LM:∀b,S2 b->S b\/w.heap.size<=b:=fun b hb=>(k2 b hb).elim (g2 b) (fun h=> .inr h.1)
     have hl:∀b,S2 b->b<w'.heap.size:=fun b hb=>(k2 b hb).elim (g3 b) (fun h=>h.2)
     exact ⟨u,rfl,hn u m S2 w' (Fw hh hw hS LM hl) (yB _) k3 (Dz hh hw hS LM)⟩
   | false=>
    rw [hp0] at he;simp only [yD] at he;exact heap ho ji hx he
  ·rename_i l x y hx;exact round ho ji hx he
  ·cases he
 cases cz:q with
 | iE rs x xs=>
  subst cz;simp only [bC] at hv;have key:=S5 hq;obtain ⟨c,f,ho,ji,rfl,rfl⟩:=key
  cases hc:dR O.prog O.aU self hp ct .dyn (aC tm (aV H f)) (dS tm (ir H c.args.toList)) with
  | none=>simp [hc] at hv
  | some r=>
   obtain ⟨v1,bI,zQ⟩:=r;simp only [hc] at hv
   cases hs:rz tm hp bI rs with
   | false=>rw [hs] at hv;cases hv
   | true=>
    rw [hs] at hv;simp only [ym,yc,yk] at hv;obtain ⟨rfl,rfl,rfl⟩:=hv;exact dyn ho ji hc
 | call md x xs=>
  subst cz;have kK:∃k,Op.call md x xs=bw O.P H k o:=by
   rcases hq with h | ⟨c,f,rs,_,_,h⟩ | ⟨_,_,_,_,_,_,_,h⟩
   ·exact h
   ·cases h
   ·cases h
  obtain ⟨k,hk⟩:=kK
  cases md with
  | pure=>exact quiet (by simp [bK])
  | own=>exact quiet (by simp [bK])
  | heap=>
   simp only [bC] at hv;obtain ⟨c,f,ho,ji,rfl,rfl⟩:=N7 hk.symm (by rintro rfl;simp [aC,dR] at hv);unfold dR at hv
   split at hv
   ·rename_i g first cap hx;exact heap ho ji hx hv
   ·rename_i l x y hx;exact round ho ji hx hv
   ·cases hv
  | dyn=>
   simp only [bC] at hv;obtain ⟨c,f,ho,ji,rfl,rfl⟩:=N7 hk.symm (by rintro rfl;simp [aC,dR] at hv);exact dyn ho ji hv
 | jf rs s x y=>
  subst cz;obtain ⟨t,x',y',g1,g2,g3,g4⟩:=aet hq;simp only [bC] at hv
  split at hv
  ·rename_i id off hx
   cases hf:pQ tm id rs with
   | false=>rw [hf] at hv;cases hv
   | true=>
    rw [hf] at hv;simp only [ym] at hv
    exact aeu (q':= .st s x y) ⟨0,by simp only [bw,g1,g2,g3,g4]⟩ hv
  ·cases hv
 | st s x y=>subst cz;exact write (by simpa only [bC] using hv)
 | qF kk x y z=>subst cz;exact write (by simpa only [bC] using hv)
 | qH x=>subst cz;exact write (by simpa only [bC] using hv)
 | dV s b x y=>subst cz;exact write (by simpa only [bC] using hv)
 | qI s x y=>subst cz;exact write (by simpa only [bC] using hv)
 | eJ k x lo hi=>subst cz;exact quiet (by cases k<;>simp [bK])
 | len k x=>subst cz;exact quiet (by rcases k with _ | _ | k<;>simp [bK])
 | _=>subst cz;exact quiet (by simp [bK])
end
end
section
open Go
def pZ (tm:Env) (g:Option (Nat×Bool)):Option Bool:=
 match g with
 | none=>some true
 | some (t,b)=>match ab tm t with | .bool c=>some (c==b) | .aw []=>some false | _=>none
def fq (P:aI) (L:Lib) (self:cT) (tm:Env) (hp:Hp) (ct:Nat) (r:br):gM:=
 match pZ tm r.guard with
 | some true=>bC P L self tm hp ct r.op
 | some false=>some (.aw [],hp,ct)
 | none=>none
def aad {P:aI} {L:Lib} {self:cT} {r:br} {rs:List br} {s:St}:
  ej P L self (r::rs) s=match fq P L self s.tm s.hp s.ct r with | some (v,hp,ct)=>ej P L self rs {s with tm:=put r.dst v s.tm,hp:=hp,ct:=ct} | none=>none:=by
 obtain ⟨d,g,o⟩:=r;simp only [ej,fq]
 cases g with
 | none=>rfl
 | some q=>
  obtain ⟨t,b⟩:=q;simp only [pZ];generalize ab s.tm t=x
  cases x with
  | bool c=>
   simp only;cases (c==b)<;>rfl
  | aw vs=>cases vs<;>rfl
  | _=>rfl
def adg (ops:Array yY) (g:Option (Nat×Bool)) (g':Option (Nat×Bool)):Prop:=
 (g=none/\g'=none)\/∃t b j,g=some (t,b)/\g'=some (j,b)/\(ops[j]?).bind (·.dst)=some t
structure OF (P:y7) (H:Hint) (ops:Array yY) (r:br) (o:yY):Prop where
 op:AS P H r.op o
 dst:r.dst=o.dst
 ok:Kq H o.dst=true
 guard:adg ops r.guard o.guard
def nU (P:y7) (H:Hint) (ops:Array yY):List br->List yY->Prop
 | [],[]=>True
 | r::rs,o::l=>(OF P H ops r o\/(r.guard=none/\r.op=bad))/\nU P H ops rs l
 | _,_=>False
def aae {P:y7} {H:Hint} {ops:Array yY}:∀(l:List yY) (k:Nat),nU P H ops (DF P H ops l k).1 l
 | [],k=>by simp [DF,nU]
 | o::l,k=>by
  have ih:=aae (P:=P) (H:=H) (ops:=ops) l (k+(bif Ul o then 1 else 0));simp only [DF];generalize hq:DF P H ops l (k+(bif Ul o then 1 else 0))=q at ih;obtain ⟨l',k'⟩:=q;simp only;have Vr:nU P H ops (⟨o.dst,none,bad⟩::l') (o::l):=⟨.inr ⟨rfl,rfl⟩,ih⟩
  cases hg:o.guard with
  | none=>
   simp only
   cases hd:Kq H o.dst with
   | false=>exact Vr
   | true=>exact ⟨.inl ⟨.inl ⟨k,rfl⟩,rfl,hd,.inl ⟨rfl,hg⟩⟩,ih⟩
  | some p=>
   obtain ⟨j,b⟩:=p;simp only
   cases ht:(ops[j]?).bind (·.dst) with
   | none=>exact Vr
   | some t=>
    simp only
    cases hd:Kq H o.dst with
    | false=>exact Vr
    | true=>exact ⟨.inl ⟨.inl ⟨k,rfl⟩,rfl,hd,.inr ⟨t,b,j,rfl,hg,ht⟩⟩,ih⟩
section
variable {O:bD} {H:Hint} {m:Mp} {S:Nat->Prop} {w:yh} {tm:Env} {a:Act} {hp ao:Hp} {ct bj:Nat} {self:cT} {ro:Option Nat} {Q:uQ->Act->yh->Prop} {ops:Array yY}
def S6 {d:Option Nat} {v:AV} {tm:Env} {t:Nat}:ab (put d v tm) t=if d=some t then v else ab tm t:=by
 cases d with
 | none=>simp [put]
 | some i=>
  simp only [put,ab];by_cases h:i=t
  ·subst h;simp
  ·have:yx i t=false:=by
    cases hq:yx i t with
    | false=>rfl
    | true=>exact absurd (yo hq) h
   simp [this,h]
def NI (a:Act) (d:Option Nat) (u:yf):(a.put d u).tmps.size=a.tmps.size:=by
 cases d with
 | none=>rfl
 | some i=>simp [Act.put]
def Sc (a:Act) (d:Option Nat) (u:yf):(a.put d u).defers=a.defers:=by
 cases d with
 | none=>rfl
 | some i=>rfl
def S7 {a:Act} {d:Option Nat} {u:yf} {t:Nat} (hd:∀i,d=some i->i<a.tmps.size):(a.put d u).tmps.getD t undef=if d=some t then u else a.tmps.getD t undef:=by
 cases d with
 | none=>simp [Act.put]
 | some i=>
  have hi:=hd i rfl;by_cases h:i=t
  ·subst h;simp [Act.put,hi]
  ·simp only [Act.put,yc,h,yN];simp [Array.getElem?_setIfInBounds_ne h]
def ab2 {n:Nat} {d:Option Nat} (h:Kq H d=true) (hn:H.n<=n):∀i,d=some i->i<n:=by
 rintro i rfl
 have:=An.1 h
 omega
def S8 {d:Option Nat} {v:AV} {u:yf} (ht:cF O m S w tm a.tmps) (hd:∀i,d=some i->i<a.tmps.size) (hv:aj O.ai m S w v u):cF O m S w (put d v tm) (a.put d u).tmps:=fun t=>by
 rw [S6,S7 hd]
 split
 ·exact hv
 ·exact ht t
def aa2 {o:yY} {g:Option (Nat×Bool)} {b:Bool} (hg:adg ops g o.guard) (ht:∀t,t∈UQ g->aj O.ai m S w (ab tm t) (a.tmps.getD t undef)) (hw:pZ tm g=some b):Region.wanted o (yielded ops a.tmps)=b:=by
 rcases hg with ⟨rfl,h2⟩ | ⟨t,c,j,rfl,h2,h3⟩
 ·simp only [pZ,yc] at hw;subst hw;simp [Region.wanted,h2]
 ·simp only [pZ] at hw;have h4:=ht t (by simp [UQ]);simp only [Region.wanted,h2]
  split at hw
  ·rename_i d hd;rw [hd] at h4;simp only [aj] at h4;simp only [yc] at hw
   have:yielded ops a.tmps j=some d:=by
    simp only [yielded,h3,xP];have h5:a.tmps[t]? =some (.bool d):=by
     simp only [wV] at h4
     cases hq:a.tmps[t]? with
     | none=>rw [hq] at h4;simp [undef] at h4
     | some x=>rw [hq] at h4;simp at h4;rw [h4]
    rw [h5]
   rw [this,<-hw];cases d<;>cases c<;>rfl
  ·rename_i hd;rw [hd] at h4;simp only [aj,au] at h4;obtain ⟨xs,h4,h5⟩:=h4;simp only [yc] at hw;subst hw
   have:yielded ops a.tmps j=none:=by
    simp only [yielded,h3,xP];simp only [wV] at h4
    cases hq:a.tmps[t]? with
    | none=>rfl
    | some x=>rw [hq] at h4;simp at h4;rw [h4]
   rw [this];rfl
  ·cases hw
def ZK {o:yY} {q:Op} (hq:AS O.P H q o) {r:AV×Hp×Nat} (hv:bC O.prog O.aU self tm hp ct q=some r):∀c,o.op≠.defer c:=by
 rcases hq with ⟨k,rfl⟩ | ⟨c,f,rs,h1,_,_⟩ | ⟨_,_,_,_,_,h1,_,_⟩
 ·exact ak9 hv
 ·intro c' h;rw [h1] at h;cases h
 ·intro c' h;rw [h1] at h;cases h
def aqw (hC:oG O self) (hH:gl O H) {i:Nat} {r:br} {o:yY} {v:AV} (hi:ops[i]? =some o) (hr:OF O.P H ops r o\/(r.guard=none/\r.op=bad)) (hv:fq O.prog O.aU self tm hp ct r=some (v,ao,bj))
  (ht:cF O m S w tm a.tmps) (hh:bg O m S w hp ct) (hn:H.n<=a.tmps.size) {K:Act->yh->Prop}
  (hK:∀u m' S' w',bg O m' S' w' ao bj->ct<=bj->cF O m' S' w' (put r.dst v tm) (a.put o.dst u).tmps->cG m S w hp m' S' w' ao ct->K (a.put o.dst u) w'):wpOpIn (WF ro) 0 O.P ops Q i K a w:=by
 rcases hr with hr | ⟨h1,h2⟩
 case inr=>
  simp only [fq,h1,pZ,h2,bad,bC,dR,aC] at hv;cases hv
 unfold wpOpIn;simp only [hi];unfold fq at hv
 cases hw:pZ tm r.guard with
 | none=>simp [hw] at hv
 | some b=>
  have W7:=aa2 hr.guard (fun t _=>ht t) hw;have hd:=ab2 hr.ok hn;rw [W7]
  cases b with
  | true=>
   simp only [hw] at hv;simp only [yV];refine ab1 hC hH hr.op (ZK hr.op hv) hv ht hh (fun u m' S' w' k1 k2 k3 k4=>hK u m' S' w' k1 k2 ?_ k4);rw [hr.dst];exact S8 (BO (fun id p h=>k4.old id p (hh.lt id p h) h) k4.sub (fun b hb=>k4.still b hb) ht) hd k3
  | false=>
   simp only [hw,yc,yk] at hv;obtain ⟨rfl,rfl,rfl⟩:=hv;simp only [yA,yN];refine ⟨fun _ _=>trivial,hK undef m S w hh (yB _) ?_ cG.refl⟩;rw [hr.dst];exact S8 ht hd (by simp [aj,au,undef])
def adh (hC:oG O self) (hH:gl O H):∀(l:List yY) (rs:List br) (i:Nat) (s s':St) (a:Act) (m:Mp) (S:Nat->Prop) (w:yh),(∀j,l[j]? =ops[i+j]?)->nU O.P H ops rs l->
  ej O.prog O.aU self rs s=some s'->cF O m S w s.tm a.tmps->bg O m S w s.hp s.ct->H.n<=a.tmps.size->
  (∀a' m' S' w',bg O m' S' w' s'.hp s'.ct->s.ct<=s'.ct->cF O m' S' w' s'.tm a'.tmps->cG m S w s.hp m' S' w' s'.hp s.ct->a'.tmps.size=a.tmps.size->a'.defers=a.defers->s'.base=s.base->Q .normal a' w')->
  wpOpsIn (WF ro) 0 O.P ops Q (List.range' i l.length) a w
 | [],rs,i,s,s',a,m,S,w,hl,hr,hv,ht,hh,hn,hQ=>by
  cases rs with
  | cons _ _=>simp [nU] at hr
  | nil=>
   simp only [ej,yc] at hv;subst hv;simp only [yG,List.range'_zero,wpOpsIn];exact hQ a m S w hh (yB _) ht cG.refl rfl rfl rfl
 | o::l,rs,i,s,s',a,m,S,w,hl,hr,hv,ht,hh,hn,hQ=>by
  cases rs with
  | nil=>simp [nU] at hr
  | cons r rs=>
   simp only [nU] at hr;rw [aad] at hv
   cases h1:fq O.prog O.aU self s.tm s.hp s.ct r with
   | none=>simp [h1] at hv
   | some q=>
    obtain ⟨v,bI,zQ⟩:=q;simp only [h1] at hv;have hi:ops[i]? =some o:=by have:=hl 0;simpa using this.symm
    rw [yy,List.range'_succ,wpOpsIn_cons];refine aqw hC hH hi hr.1 h1 ht hh hn (fun u m1 S1 w1 k1 k2 k3 k4=>?_)
    refine adh hC hH l rs (i+1) {s with tm:=put r.dst v s.tm,hp:=bI,ct:=zQ} s' _ m1 S1 w1 (fun j=>?_) hr.2 hv k3 k1 (by rw [NI];exact hn) (fun a' m' S' w' g1 g2 g3 g4 g5 g6 g7=>?_)
    ·have:=hl (j+1)
     rw [List.getElem?_cons_succ] at this;rw [this];congr 1;omega
    ·exact hQ a' m' S' w' g1 (xp k2 g2) g3 (k4.trans (g4.zh k2)) (by rw [g5,NI]) (by rw [g6,Sc]) g7
end
end
section
open Go
section
variable {ops:Array yY}
def RX {acc:List Nat} {i:Nat}:∀{es:List Edge},uo (B3 acc es) i=true->∃e,e∈es/\Region.binds .any e=true/\(i=e.on\/uo (acc.getD e.on 0) i=true)
 | [],h=>by simp [B3] at h
 | e::r,h=>by
  simp only [B3] at h
  cases hb:Region.binds .any e with
  | false=>
   rw [hb] at h;obtain ⟨e',h1,h2⟩:=RX h
   grind
  | true=>
   rw [hb] at h;simp only [ym,Nat.testBit_or,uV] at h;rcases h with (h | h) | h
   ·grind
   ·grind
   ·obtain ⟨e',h1,h2⟩:=RX h
    grind
def aa3 {l:List yY} {acc:List Nat} {j:Nat} (hj:j<acc.length):(nk acc l)[j]? =acc[j]? :=by
 induction l generalizing acc with
 | nil=>rfl
 | cons o l ih=>
  simp only [nk]
  grind
def ald {l:List yY} {acc:List Nat} {j:Nat} {o:yY} (h:l[j]? =some o):∃Eh:List Nat,(nk acc l)[acc.length+j]? =some (B3 Eh o.after.toList)/\Eh.length=acc.length+j/\∀k,k<Eh.length->Eh[k]? =(nk acc l)[k]? :=by
 induction l generalizing acc j with
 | nil=>simp at h
 | cons x l ih=>
  cases j with
  | zero=>
   simp only [vA,yc] at h;subst h;refine ⟨acc,?_,by simp,fun k hk=>?_⟩
   ·simp only [nk];rw [aa3 (by simp)]
    simp
   ·simp only [nk];rw [aa3 (by rw [yO];omega),List.getElem?_append_left hk]
  | succ j=>
   obtain ⟨Eh,h1,h2,h3⟩:=ih (acc:=acc++[B3 acc x.after.toList]) h;simp only [yO,yy,yG] at h1 h2;refine ⟨Eh,?_,by omega,fun k hk=>?_⟩
   ·simp only [nk]
    grind
   ·simp only [nk];exact h3 k hk
def Ord (ops:Array yY) (i j:Nat):Prop:=uo ((nk [] ops.toList).getD j 0) i=true
def Uo (ops:Array yY) (D:Nat->Prop):Prop:=∀j o,ops[j]? =some o->D j->∀e,e∈o.after->Region.binds .any e=true->D e.on
def aa4 {D:Nat->Prop} (hc:Uo ops D):∀(j:Nat) (o:yY),ops[j]? =some o->(∀e,e∈o.after->Region.binds .any e=true->D e.on)->∀i,Ord ops i j->D i:=by
 intro j
 induction j using vZ with
 | _ j ih=>
  intro o ho hr i hi;have ml:ops.toList[j]? =some o:=by simp_all
  obtain ⟨Eh,h1,h2,h3⟩:=ald (acc:=[]) ml;simp only [yG,Nat.zero_add] at h1 h2;unfold Ord at hi;rw [List.getD_eq_getElem?_getD,h1,vt] at hi;obtain ⟨e,g1,g2,g3⟩:=RX hi;have he:D e.on:=hr e (by simpa using g1) g2;rcases g3 with rfl | g3
  ·grind
  ·rcases wY e.on j with bm | mQ
   ·have h4:=h3 e.on (by omega);have hol:e.on<ops.size:=by
     grind
    have W1:ops[e.on]? =some ops[e.on]:=by simp_all
    refine ih e.on bm _ W1 (fun e' W8 dl=>hc e.on _ W1 he e' W8 dl) i ?_;unfold Ord
    grind
   ·grind
def aof {D:Nat->Prop} (hc:Uo ops D) {i j:Nat} {o:yY} (ho:ops[j]? =some o) (hj:D j) (hi:Ord ops i j):D i:=
 aa4 hc j o ho (fun e he hb=>hc j o ho hj e he hb) i hi
def Zn:∀{l:List yY} {k j:Nat} {o:yY},Jj l k=true->l[j]? =some o->∀e,e∈o.after->Region.binds .any e=true->e.on<k+j
 | [],k,j,o,_,h=>by simp at h
 | x::l,k,j,o,hb,h=>by
  simp only [Jj,yg] at hb
  cases j with
  | zero=>
   simp only [vA,yc] at h;subst h;intro e he zL
   have:=List.all_eq_true.1 hb.1 e (by simpa using he)
   simp_all
  | succ j=>
   intro e he zL
   have:=Zn hb.2 h e he zL
   omega
end
def Pm (a b:br) (r:List br):Prop:=NB a b=false/\(Ji a b=false\/JC a b r=true)
def Zp {m:Nat} {b:br}:∀{l:List br} {k i:Nat} {a:br},NC m b l k=true->l[i]? =some a->uo m (k+i)=true\/Pm a b (l.drop (i+1))
 | [],k,i,a,_,h=>by simp at h
 | x::l,k,i,a,hp,h=>by
  simp only [NC,yg] at hp
  cases i with
  | zero=>
   simp only [vA,yc] at h;subst h;have h1:=hp.1;simp only [uV,tf,tU,Bool.and_eq_false_iff,Bool.not_eq_false'] at h1;rcases h1 with h1 | ⟨h1,h2⟩
   ·grind
   ·exact .inr ⟨h1,by simpa using h2⟩
  | succ i=>
   rcases Zp hp.2 h with h1 | h1
   ·grind
   ·grind
def Zv:∀{l done:List br} {ms:List Nat} {i j:Nat} {a b:br},FG done l ms=true->(done++l)[i]? =some a->l[j]? =some b->i<done.length+j->
  ∃m,ms[j]? =some m/\(uo m i=true\/Pm a b (((done++l).take (done.length+j)).drop (i+1)))
 | [],done,ms,i,j,a,b,_,_,h,_=>by simp at h
 | x::l,done,[],i,j,a,b,hp,_,h,_=>by simp [FG] at hp
 | x::l,done,m::ms,i,j,a,b,hp,ha,h,W9=>by
  simp only [FG,yg] at hp
  cases j with
  | zero=>
   have EK:done[i]? =some a:=by grind
   have:=Zp hp.1 EK
   grind
  | succ j=>
   have e:done++x::l=(done++[x])++l:=by simp
   obtain ⟨m',h1,h2⟩:=Zv (i:=i) (a:=a) hp.2 (by rw [<-e];exact ha) h (by simp;omega)
   grind
def MR {a b:br} (h:NB a b=false):(∀d,a.dst=some d->d∉DK b/\b.dst≠some d)/\(∀d,b.dst=some d->d∉DK a):=by
 have mem:∀{i:Nat} {l:List Nat},mF i l=false->i∉l:=by
  intro i l
  induction l with
  | nil=>intro _ h;cases h
  | cons j r ih=>
   intro h hm;simp only [mF] at h
   cases hb:yx j i with
   | true=>rw [hb] at h;cases h
   | false=>
    simp_all
 simp only [NB,tU] at h;obtain ⟨⟨h1,h2⟩,h3⟩:=h;refine ⟨fun d hd=>⟨mem (by simpa [hd,GB] using h1),fun hb=>?_⟩,fun d hd=>mem (by simpa [hd,GB] using h2)⟩;rw [hd,hb] at h3;simp [agd] at h3
def aaf {t:Nat}:∀{l:List br},Gn t l=true->∀r,r∈l->r.dst≠some t
 | [],_,r,h=>by cases h
 | x::l,h,r,hr=>by
  simp only [Gn,yg,tf] at h;rcases wK.1 hr with rfl | hr
  ·intro hd;rw [hd] at h;simp [GB,mF] at h
  ·exact aaf h.2 r hr
def SB {sz t:Nat} {ag:Bool}:∀{l:List (Nat×Bool×Nat)},GC sz ag t l=true->(sz,ag,t)∈l
 | [],h=>by simp [GC] at h
 | (s,g,u)::r,h=>by
  simp only [GC,uV,yg] at h;rcases h with ⟨h1,h2,h3⟩ | h
  ·simp_all
  ·exact wI _ (SB h)
def S9:∀{a b:List Nat},cN a b=true->a=b
 | [],[],_=>rfl
 | [],_::_,h=>by simp [cN] at h
 | _::_,[],h=>by simp [cN] at h
 | x::a,y::b,h=>by
  simp only [cN,yg] at h;rw [yo h.1,S9 h.2]
def amj {a b:AV} (h:Pg a b=true):a=b:=by
 unfold Pg at h
 split at h
 ·grind
 ·grind
 ·rw [S9 h]
 ·rfl
 ·rfl
 ·simp_all
 ·simp_all
 ·simp_all
 ·cases h
def Zw {tm:Env} {hp ao:Hp} {sz t:Nat} {ag:Bool} {v:AV}:∀{l:List (Nat×Bool×Nat)},rz tm hp ao l=true->(sz,ag,t)∈l->jx hp sz ag (ab tm t)=some v->jx ao sz ag (ab tm t)=some v
 | [],_,h,_=>by cases h
 | (s,g,u)::r,h,hm,hv=>by
  simp only [rz] at h
  cases h1:jx hp s g (ab tm u) with
  | none=>simp [h1] at h
  | some x=>
   cases h2:jx ao s g (ab tm u) with
   | none=>simp [h1,h2] at h
   | some y=>
    simp only [h1,h2,yg] at h;rcases wK.1 hm with e | hm
    ·simp only [yk] at e;obtain ⟨rfl,rfl,rfl⟩:=e;rw [h1] at hv;rw [h2,<-amj h.1,hv]
    ·exact Zw h.2 hm hv
structure Pn (P:aI) (L:Lib) (run:cT) (rs:List br) (cD:Nat->Env) (cd:Nat->Hp) (bR:Nat->Nat) (vF:Nat->AV):Prop where
 step:∀i r,rs[i]? =some r->fq P L run (cD i) (cd i) (bR i) r=some (vF i,cd (i+1),bR (i+1))
 tm:∀i r,rs[i]? =some r->cD (i+1)=put r.dst (vF i) (cD i)
def adi {P:aI} {L:Lib} {self:cT}:∀{rs:List br} {s s':St},ej P L self rs s=some s'->
  ∃cD cd bR vF,Pn P L self rs cD cd bR vF/\cD 0=s.tm/\cd 0=s.hp/\bR 0=s.ct/\cD rs.length=s'.tm/\cd rs.length=s'.hp/\bR rs.length=s'.ct/\s'.base=s.base
 | [],s,s',h=>by
  simp only [ej,yc] at h;subst h;exact ⟨fun _=>s.tm,fun _=>s.hp,fun _=>s.ct,fun _=> .undef,⟨fun i r h=>by simp at h,fun i r h=>by simp at h⟩,rfl,rfl,rfl,rfl,rfl,rfl,rfl⟩
 | r::rs,s,s',h=>by
  rw [aad] at h
  cases h1:fq P L self s.tm s.hp s.ct r with
  | none=>simp [h1] at h
  | some q=>
   obtain ⟨v,bI,zQ⟩:=q;simp only [h1] at h;obtain ⟨cD,cd,bR,vF,g1,g2,g3,g4,g5,g6,g7,g8⟩:=adi h;refine ⟨fun i=>match i with | 0=>s.tm | i+1=>cD i,fun i=>match i with | 0=>s.hp | i+1=>cd i,fun i=>match i with | 0=>s.ct | i+1=>bR i,fun i=>match i with | 0=>v | i+1=>vF i,⟨?_,?_⟩,rfl,rfl,rfl,by simpa using g5,by simpa using g6,by simpa using g7,g8⟩
   ·intro i r' hi
    cases i with
    | zero=>
     grind
    | succ i=>exact g1.step i r' (by simpa using hi)
   ·intro i r' hi
    cases i with
    | zero=>
     grind
    | succ i=>exact g1.tm i r' (by simpa using hi)
section
variable {P:aI} {L:Lib} {self:cT} {rs:List br} {cD:Nat->Env} {cd:Nat->Hp} {bR:Nat->Nat} {vF:Nat->AV}
def Jn (hR:Pn P L self rs cD cd bR vF) {t i:Nat}:∀(k:Nat),i+k<=rs.length->(∀j r,i<=j->j<i+k->rs[j]? =some r->r.dst≠some t)->ab (cD (i+k)) t=ab (cD i) t
 | 0,_,_=>rfl
 | k+1,hk,h=>by
  have hr:rs[i+k]? =some rs[i+k]:=by simp_all
  rw [show i+(k+1)=i+k+1 by omega,hR.tm _ _ hr,S6,yr (h (i+k) _ (by omega) (by omega) hr)];exact Jn hR k (by omega) (fun j r h1 h2=>h j r h1 (by omega))
def aa5 {r:br} {tm:Env} {hp ao:Hp} {ct bj:Nat} {v:AV} (hk:bK r.op<=1) (hv:fq P L self tm hp ct r=some (v,ao,bj)) (bm:∀id o,ap hp id=some o->id<ct):iU hp ct ao bj:=by
 unfold fq at hv
 cases hw:pZ tm r.guard with
 | none=>simp [hw] at hv
 | some b=>
  cases b with
  | true=>simp only [hw] at hv;exact ZJ hk hv bm
  | false=>
   simp only [hw,yc,yk] at hv;obtain ⟨rfl,rfl,rfl⟩:=hv;exact iU.refl bm
def Nl (hR:Pn P L self rs cD cd bR vF) {i:Nat} (bm:∀id o,ap (cd i) id=some o->id<bR i):∀(k:Nat),i+k<=rs.length->(∀j r,i<=j->j<i+k->rs[j]? =some r->bK r.op<=1)->iU (cd i) (bR i) (cd (i+k)) (bR (i+k))
 | 0,_,_=>iU.refl bm
 | k+1,hk,h=>by
  have ih:=Nl hR bm k (by omega) (fun j r h1 h2=>h j r h1 (by omega));have hr:rs[i+k]? =some rs[i+k]:=by simp_all
  exact ih.trans (aa5 (h (i+k) _ (by omega) (by omega) hr) (hR.step _ _ hr) ih.lt)
end
end
section
open Go
def NJ {tm:Env} {t:Nat}:∀{l:List Nat},t∈l->ab (dE tm l) t=ab tm t
 | [],h=>by cases h
 | i::r,h=>by
  simp only [dE,ab]
  cases hb:yx i t with
  | true=>rw [yo hb];rfl
  | false=>
   rcases wK.1 h with e | h
   ·simp_all
   ·exact NJ h
def amk {P:aI} {L:Lib} {self:cT} {tm tm':Env} {hp:Hp} {ct:Nat} {o:Op} {r:AV×Hp×Nat} (h:∀t,t∈lO o->ab tm' t=ab tm t) (hv:bC P L self tm hp ct o=some r):bC P L self tm' hp ct (nZ o)=some r:=by
 cases o with
 | iE rs f xs=>
  simp only [lO,wG] at h;simp only [nZ,bC] at hv ⊢
  rw [eG (x:=f) fun t ht=>h t (.inl ht),Dx (xs:=xs) fun t ht=>h t (.inr ht)]
  cases hc:dR P L self hp ct .dyn (aC tm f) (dS tm xs) with
  | none=>simp [hc] at hv
  | some q=>
   obtain ⟨v1,bI,zQ⟩:=q;simp only [hc] at hv
   cases hs:rz tm hp bI rs with
   | false=>rw [hs] at hv;cases hv
   | true=>
    rw [hs] at hv;simpa only [rz,ym] using hv
 | jf rs sz x v=>
  simp only [nZ,bC] at hv ⊢
  rw [Fi (o:= .st sz x v) (tm:=tm) h]
  grind
 | call md f xs=>
  rw [<-hv];simp only [lO,wG] at h;simp only [nZ,bC]
  rw [eG (x:=f) fun t ht=>h t (.inl ht),Dx (xs:=xs) fun t ht=>h t (.inr ht)]
 | st s x y=>rw [<-hv];exact Fi h
 | qF kk x y z=>rw [<-hv];exact Fi h
 | qH x=>rw [<-hv];exact Fi h
 | dV s b x y=>rw [<-hv];exact Fi h
 | qI s x y=>rw [<-hv];exact Fi h
 | box s x=>rw [<-hv];simp only [nZ,bC];rw [I6 (hp:=hp) h]
 | dI n s z ps=>rw [<-hv];simp only [nZ,bC];rw [I6 (hp:=hp) h]
 | iw s b z x y=>rw [<-hv];simp only [nZ,bC];rw [I6 (hp:=hp) h]
 | Ba=>exact hv
 | qG x=>rw [<-hv];simp only [nZ,bC];rw [I6 (hp:=hp) h]
 | _=>rw [<-hv];simp only [nZ,bC];rw [akA h]
def ab3 {P:aI} {L:Lib} {self:cT} {tm:Env} {hp ao:Hp} {ct bj:Nat} {q:Op} {v:AV} (hk:bK q=0\/∃sz ag x,q= .ld sz ag x) (hv:bC P L self tm hp ct q=some (v,ao,bj)):bH tm hp q=some v/\ao=hp/\bj=ct:=by
 have lF:∀{q:Op},(match bH tm hp q with | some v=>some (v,hp,ct) | none=>(none:gM))=some (v,ao,bj)->bH tm hp q=some v/\ao=hp/\bj=ct:=by grind
 rcases hk with hk | ⟨sz,ag,x,rfl⟩
 ·cases cz:q with
  | call md f xs=>subst cz;cases md<;>simp [bK] at hk
  | iE rs f xs=>subst cz;simp [bK] at hk
  | jf rs s x y=>subst cz;simp [bK] at hk
  | st s x y=>subst cz;simp [bK] at hk
  | qF kk x y z=>subst cz;simp [bK] at hk
  | qH x=>subst cz;simp [bK] at hk
  | dV s b x y=>subst cz;simp [bK] at hk
  | qI s x y=>subst cz;simp [bK] at hk
  | box s x=>subst cz;simp [bK] at hk
  | dI n s z ps=>subst cz;simp [bK] at hk
  | iw s b z x y=>subst cz;simp [bK] at hk
  | Ba=>subst cz;simp [bK] at hk
  | qG x=>subst cz;simp [bK] at hk
  | _=>exact cz▸lF (q:=q) (by rw [cz] at hv ⊢;exact hv)
 ·exact lF (q:= .ld sz ag x) (by simp only [bC] at hv;exact hv)
section
variable {O:bD} {H:Hint} {ops:Array yY} {rs:List br} {cD:Nat->Env} {cd:Nat->Hp} {bR:Nat->Nat} {vF:Nat->AV} {self:cT} {ro:Option Nat} {Q:uQ->Act->yh->Prop}
structure za (O:bD) (H:Hint) (slf:cT) (ops:Array yY) (rs:List br) (cD:Nat->Env) (cd:Nat->Hp) (bR:Nat->Nat) (vF:Nat->AV):Prop where
 run:Pn O.prog O.aU slf rs cD cd bR vF
 len:rs.length=ops.size
 of:∀(i:Nat) (r:br) (o:yY),rs[i]? =some r->ops[i]? =some o->OF O.P H ops r o
 pair:∀(i j:Nat) (a b:br),i<j->rs[i]? =some a->rs[j]? =some b->Ord ops i j\/Pm a b ((rs.take j).drop (i+1))
 back:∀(i:Nat) (o:yY),ops[i]? =some o->∀e,e∈o.after->Region.binds .any e=true->e.on<i
def kL (rs:List br) (i:Nat):Prop:=∃r,rs[i]? =some r/\bK r.op=2
def Up (rs:List br):∀(k i:Nat),i+k=rs.length->∃c,i<=c/\c<=rs.length/\(∀j,i<=j->j<c->¬kL rs j)/\(c=rs.length\/kL rs c)
 | 0,i,h=>⟨i,yB _,by omega,fun j h1 h2=>by omega,.inl (by omega)⟩
 | k+1,i,h=>by
  rcases vW (kL rs i) with hw | hw
  ·grind
  ·obtain ⟨c,h1,h2,h3,h4⟩:=Up rs k (i+1) (by omega)
   grind
def JE {rs:List br} {i:Nat} {r:br} (hr:rs[i]? =some r) (hw:¬kL rs i):bK r.op<=1:=by
 have h:bK r.op≠2:=fun e=>hw ⟨r,hr,e⟩
 have:bK r.op<=2:=by
  cases r.op with
  | eJ k x lo hi=>cases k<;>simp [bK]
  | len k x=>rcases k with _ | _ | k<;>simp [bK]
  | call md f xs=>cases md<;>simp [bK]
  | _=>simp [bK]
 omega
def Qu (O:bD) (rs:List br) (cD:Nat->Env) (D:Nat->Prop) (m:Mp) (S:Nat->Prop) (w:yh) (a:Act):Prop:=
 ∀t,∃j,j<=rs.length/\(∀(i:Nat) (r:br),rs[i]? =some r->r.dst=some t->(D i↔i<j))/\aj O.ai m S w (ab (cD j) t) (a.tmps.getD t undef)
def aqx {D:Nat->Prop} {m:Mp} {S:Nat->Prop} {w:yh} {a:Act} {i:Nat} {r:br} (hG:za O H self ops rs cD cd bR vF) (hT:Qu O rs cD D m S w a) (hr:rs[i]? =some r) (hi:¬D i)
  (fC:∀j,Ord ops j i->D j) (hJ:∀j,Ord ops i j->¬D j):∀t,t∈DK r->aj O.ai m S w (ab (cD i) t) (a.tmps.getD t undef):=by
 intro t ht;obtain ⟨j,h1,h2,h3⟩:=hT t;have Hk:i<rs.length:=(wh.1 hr).1;have e:ab (cD j) t=ab (cD i) t:=by
  rcases Nat.le_total j i with hji | W9
  ·obtain ⟨k,rfl⟩:∃k,i=j+k:=⟨i-j,by omega⟩;refine (Jn hG.run k (by omega) (fun l rl g1 g2 hl hd=>?_)).symm;rcases hG.pair l (j+k) rl r (by omega) hl hr with ho | hf
   ·grind
   ·exact ((MR hf.1).1 t hd).1 ht
  ·obtain ⟨k,rfl⟩:∃k,j=i+k:=⟨j-i,by omega⟩;refine Jn hG.run k h1 (fun l rl g1 g2 hl hd=>?_);rcases wP g1 with rfl | g1
   ·grind
   ·rcases hG.pair i l r rl g1 hr hl with ho | hf
    ·grind
    ·exact (MR hf.1).2 t hd ht
 grind
def adj {D D':Nat->Prop} {m m':Mp} {S S':Nat->Prop} {w w':yh} {a:Act} {i:Nat} {r:br} {u:yf} (hG:za O H self ops rs cD cd bR vF) (hT:Qu O rs cD D m S w a) (hr:rs[i]? =some r) (hi:¬D i)
  (fC:∀j,Ord ops j i->D j) (hJ:∀j,Ord ops i j->¬D j) (hD:∀j,D' j↔D j\/j=i) (hm:dW m m') (hS:∀b,S b->S' b) (hw:gI S w w') (hd:∀d,r.dst=some d->d<a.tmps.size)
  (hv:aj O.ai m' S' w' (vF i) u):Qu O rs cD D' m' S' w' (a.put r.dst u):=by
 intro t;have Hk:i<rs.length:=(wh.1 hr).1;by_cases LO:r.dst=some t
 ·refine ⟨i+1,Hk,fun l rl hl Xa=>?_,?_⟩
  ·rw [hD];constructor
   ·rintro (h | h)
    ·rcases wY l (i+1) with g | g
     ·grind
     ·rcases hG.pair i l r rl (by omega) hr hl with ho | hf
      ·grind
      ·exact (((MR hf.1).1 t LO).2 Xa).elim
    ·omega
   ·intro h;rcases wP (tq h) with h | h
    ·grind
    ·rcases hG.pair l i rl r h hl hr with ho | hf
     ·grind
     ·exact (((MR hf.1).1 t Xa).2 LO).elim
  ·rw [hG.run.tm i r hr,S6,S7 hd,yF LO,yF LO];exact hv
 ·obtain ⟨j,h1,h2,h3⟩:=hT t;refine ⟨j,h1,fun l rl hl Xa=>?_,?_⟩
  ·grind
  ·rw [S7 hd,yr LO];exact mY hm hS hw _ _ h3
def ZL {tm:Env} {hp ao:Hp} {ct bj id off sz W6 t:Nat} {ag:Bool} {x y:X} {v v':AV}:∀{l:List (Nat×Bool×Nat)},pQ tm id l=true->(sz,ag,t)∈l->aC tm x= .ptr id off->
  dG tm hp ct (.st W6 x y)=some (v',ao,bj)->jx hp sz ag (ab tm t)=some v->jx ao sz ag (ab tm t)=some v
 | [],_,h,_,_,_=>by cases h
 | (s,g,u)::r,h,hm,hx,hw,hv=>by
  simp only [pQ,yg] at h;rcases wK.1 hm with e | hm
  ·simp only [yk] at e;obtain ⟨rfl,rfl,rfl⟩:=e;have h1:=h.1
   split at h1
   ·rename_i j o hj;have ew:j≠id:=by
     intro e
     simp_all
    rw [hj] at hv ⊢;simp only [dG,hx] at hw;have key:∀ob,ap (bf hp id ob) j=ap hp j:=fun ob=>by rw [sJ,yr (ybY ew)]
    split at hw
    ·rename_i pu ex z cs Hl;generalize (yx _ _&&yE _ _&&cf _)=bb at hw
     cases bb with
     | false=>cases hw
     | true=>
      obtain ⟨_,rfl,_⟩:=hw;simp only [jx,key] at hv ⊢;exact hv
    ·cases hw
   ·rename_i cs hj;rw [hj] at hv ⊢;simpa only [jx] using hv
   ·cases h1
  ·exact ZL h.2 hm hx hw hv
def Zx {D:Nat->Prop} {i c:Nat} {r:br} {sz t:Nat} {ag:Bool} (hG:za O H self ops rs cD cd bR vF) (hr:rs[i]? =some r) (hi:¬D i) (CY:r.guard=none/\r.op= .ld sz ag (.t t)) (hc:c<=rs.length)
  (hW:∀j,j<c->kL rs j->D j) (hJ:∀j,Ord ops i j->¬D j) (bm:∀j,j<=c->∀id o,ap (cd j) id=some o->id<bR j):∀k,i+1+k<=c->jx (cd (i+1+k)) sz ag (ab (cD i) t)=some (vF i)
 | 0,hk=>by
  have h1:=hG.run.step i r hr;simp only [fq,CY.1,pZ,CY.2] at h1;obtain ⟨h2,h3,h4⟩:=ab3 (.inr ⟨_,_,_,rfl⟩) h1;simp only [bH,aC] at h2
  grind
 | k+1,hk=>by
  have ih:=Zx hG hr hi CY hc hW hJ bm k (by omega);have hl:i+1+k<rs.length:=by omega
  have hj:rs[i+1+k]? =some rs[i+1+k]:=by simp [hl]
  have bh:=hG.run.step _ _ hj;rw [show i+1+(k+1)=i+1+k+1 by omega];rcases vW (kL rs (i+1+k)) with hw | hw
  ·have hD:=hW _ (by omega) hw;rcases hG.pair i (i+1+k) r _ (by omega) hr hj with ho | hf
   ·grind
   ·obtain ⟨Hm,jj⟩:=hf;obtain ⟨fm,h5,h6⟩:=hw;rw [hj] at h5;injection h5 with h5
    subst h5;rcases jj with jj | jj
    ·have h1k:bK r.op=1:=by rw [CY.2];rfl
     simp only [Ji,h1k,h6] at jj;cases jj
    ·unfold JC at jj;simp only [CY.1,CY.2] at jj;generalize kK:(rs[i+1+k]).op=q at jj;have agk:Gn t (r::(rs.take (i+1+k)).drop (i+1))=true->ab (cD (i+1+k)) t=ab (cD i) t:=by
      intro aw5;have mo:=aaf aw5;rw [show i+1+k=i+(1+k) by omega];refine Jn hG.run (1+k) (by omega) (fun l rl g1 g2 CZ=>mo rl ?_);rcases wP g1 with rfl | g1
      ·grind
      ·refine wI _ ?_
       have:((rs.take (i+1+k)).drop (i+1))[l-(i+1)]? =some rl:=by
        rw [List.getElem?_drop,List.getElem?_take_of_lt (by omega),show i+1+(l-(i+1))=l by omega];exact CZ
       exact List.mem_of_getElem? this
     unfold fq at bh
     cases hg:pZ (cD (i+1+k)) (rs[i+1+k]).guard with
     | none=>simp [hg] at bh
     | some b=>
      cases b with
      | false=>
       simp only [hg,yc,yk] at bh;rw [<-bh.2.1];exact ih
      | true=>
       simp only [hg,kK] at bh;cases q<;>simp only [yA] at jj
       case iE Qv fx xs=>
        simp only [yg] at jj;have Vs:=SB jj.1;have LP:=agk jj.2;simp only [bC] at bh
        cases jg:dR O.prog O.aU self (cd (i+1+k)) (bR (i+1+k)) .dyn (aC (cD (i+1+k)) fx) (dS (cD (i+1+k)) xs) with
        | none=>simp [jg] at bh
        | some z=>
         obtain ⟨v1,bI,zQ⟩:=z;simp only [jg] at bh
         cases hs:rz (cD (i+1+k)) (cd (i+1+k)) bI Qv with
         | false=>rw [hs] at bh;cases bh
         | true=>
          rw [hs] at bh;simp only [ym,yc,yk] at bh;obtain ⟨_,h8,_⟩:=bh;rw [<-h8,<-LP];exact Zw hs Vs (by rw [LP];exact ih)
       case jf Qv W6 x v=>
        simp only [yg] at jj;have Vs:=SB jj.1;have LP:=agk jj.2;simp only [bC] at bh
        split at bh
        ·rename_i id off hx
         cases hs:pQ (cD (i+1+k)) id Qv with
         | false=>rw [hs] at bh;cases bh
         | true=>
          rw [hs] at bh;simp only [ym] at bh;rw [<-LP];exact ZL hs Vs hx bh (by rw [LP];exact ih)
        ·cases bh
  ·exact ac9 (aa5 (JE hj hw) bh (bm _ (by omega))).le ih
structure Inv (O:bD) (ops:Array yY) (rs:List br) (cD:Nat->Env) (cd:Nat->Hp) (bR:Nat->Nat) (D:Nat->Prop) (m0:Mp) (S0:Nat->Prop) (w0:yh) (n0:Nat) (d0:List ybP) (st c:Nat) (m:Mp) (S:Nat->Prop) (w:yh) (a:Act):Prop where
 Xb:st<=c
 cn:c<=rs.length
 before:∀i,i<st->kL rs i->D i
 Hn:∀i,st<=i->i<c->¬kL rs i
 cut:c=rs.length\/(kL rs c/\¬D c)
 behind:∀(i:Nat) (r:br),c<=i->rs[i]? =some r->1<=bK r.op->¬D i
 hp:bg O m S w (cd c) (bR c)
 Xc:∀id p,m id=some p->id<bR st\/∃i,st<=i/\i<c/\D i/\bR i<=id/\id<bR (i+1)
 tm:Qu O rs cD D m S w a
 Qw:cG m0 S0 w0 (cd 0) m S w (cd c) (bR 0)
 ge:bR 0<=bR c
 size:a.tmps.size=n0
 defers:a.defers=d0
 Ho:st=0\/kL rs (st-1)
 Hr:∀j,j<=c->∀id o,ap (cd j) id=some o->id<bR j
end
end
section
open Go
section
variable {O:bD} {H:Hint} {ops:Array yY} {rs:List br} {cD:Nat->Env} {cd:Nat->Hp} {bR:Nat->Nat} {vF:Nat->AV} {self:cT} {ro:Option Nat} {Q:uQ->Act->yh->Prop}
variable {D D':Nat->Prop} {m0:Mp} {S0:Nat->Prop} {w0:yh} {n0:Nat} {d0:List ybP} {st c i:Nat} {m:Mp} {S:Nat->Prop} {w:yh} {a:Act} {r:br} {o:yY}
def Nn (hG:za O H self ops rs cD cd bR vF) (hI:Inv O ops rs cD cd bR D m0 S0 w0 n0 d0 st c m S w a) {x y:Nat} (hx:st<=x) (hxy:x<=y) (hy:y<=c):iU (cd x) (bR x) (cd y) (bR y):=by
 obtain ⟨k,rfl⟩:∃k,y=x+k:=⟨y-x,by omega⟩
 have:=hI.cn
 exact Nl hG.run (hI.Hr x (by omega)) k (by omega) (fun j r h1 h2 hr=>JE hr (hI.Hn j (by omega) (by omega)))
def Ta (hG:za O H self ops rs cD cd bR vF) (hI:Inv O ops rs cD cd bR D m0 S0 w0 n0 d0 st c m S w a) (hr:rs[i]? =some r) (hi:¬D i) (fC:∀j,Ord ops j i->D j) (hJ:∀j,Ord ops i j->¬D j) (hD:∀j,D' j↔D j\/j=i)
  (hd:∀d,r.dst=some d->d<a.tmps.size) (hw:¬kL rs i) (Bj:bK r.op=0\/i<c) {m':Mp} {S':Nat->Prop} {w':yh} {u:yf} (k1:bg O m' S' w' (cd c) (bR c)) (k2:dW m m')
  (k3:∀id p,m' id=some p->m id=some p\/(st<=i/\i<c/\bR i<=id/\id<bR (i+1))) (k4:aj O.ai m' S' w' (vF i) u) (k5:cG m S w (cd c) m' S' w' (cd c) (bR c)):
  Inv O ops rs cD cd bR D' m0 S0 w0 n0 d0 st c m' S' w' (a.put r.dst u) where
 Xb:=hI.Xb
 cn:=hI.cn
 before j hj EL:=(hD j).2 (.inl (hI.before j hj EL))
 Hn:=hI.Hn
 cut:=hI.cut.imp (fun h=>h) (fun h=>⟨h.1,fun hc=>((hD c).1 hc).elim h.2 (fun e=>hw (e▸h.1))⟩)
 behind j rj hj EM hk LQ:=((hD j).1 LQ).elim (hI.behind j rj hj EM hk) (fun e=>by
  subst e;rw [hr] at EM;injection EM with EM
  subst EM
  rcases Bj with h | h<;>omega)
 hp:=k1
 Xc id p hp:=by
  rcases k3 id p hp with h | ⟨h1,h2,h3,h4⟩
  ·rcases hI.Xc id p h with h | ⟨j,g1,g2,g3,g4,g5⟩
   ·exact .inl h
   ·exact .inr ⟨j,g1,g2,(hD j).2 (.inl g3),g4,g5⟩
  ·exact .inr ⟨i,h1,h2,(hD i).2 (.inr rfl),h3,h4⟩
 tm:=adj hG hI.tm hr hi fC hJ hD k2 k5.sub (fun b hb=>k5.still b hb) hd k4
 Qw:=hI.Qw.trans (k5.zh hI.ge)
 ge:=hI.ge
 size:=by rw [NI];exact hI.size
 defers:=by rw [Sc];exact hI.defers
 Ho:=hI.Ho
 Hr:=hI.Hr
def adk (hG:za O H self ops rs cD cd bR vF) (hI:Inv O ops rs cD cd bR D m0 S0 w0 n0 d0 st c m S w a) (hr:rs[c]? =some r) (hi:¬D c) (fC:∀j,Ord ops j c->D j) (hJ:∀j,Ord ops c j->¬D j) (hD:∀j,D' j↔D j\/j=c)
  (hd:∀d,r.dst=some d->d<a.tmps.size) (hw:kL rs c) {m':Mp} {S':Nat->Prop} {w':yh} {u:yf} (k1:bg O m' S' w' (cd (c+1)) (bR (c+1))) (k2:bR c<=bR (c+1))
  (k4:aj O.ai m' S' w' (vF c) u) (k5:cG m S w (cd c) m' S' w' (cd (c+1)) (bR c)):
  ∃c' CT,Inv O ops rs cD cd bR D' m0 S0 w0 n0 d0 (c+1) c' m' CT w' (a.put r.dst u):=by
 have jg:c<rs.length:=(wh.1 hr).1;obtain ⟨c',h1,h2,h3,h4⟩:=Up rs (rs.length-(c+1)) (c+1) (by omega);obtain ⟨k,rfl⟩:∃k,c'=c+1+k:=⟨c'-(c+1),by omega⟩;have hg:∀k',k'<=k->iU (cd (c+1)) (bR (c+1)) (cd (c+1+k')) (bR (c+1+k')):=fun k' qM=>
  Nl hG.run k1.bm k' (by omega) (fun j r g1 g2 hr=>JE hr (h3 j g1 (by omega)))
 obtain ⟨CT,g1,g2,g3,g4⟩:=NH k1 (hg k (yB _));have hml:dW m m':=fun id p h=>k5.old id p (hI.hp.lt id p h) h
 refine ⟨c+1+k,CT,⟨by omega,h2,?_,h3,?_,?_,g1,fun id p h=> .inl (k1.lt id p h),?_,?_,?_,by rw [NI];exact hI.size,by rw [Sc];exact hI.defers,.inr (by simpa using hw),?_⟩⟩
 ·intro j hj EL;rcases wP (tq hj) with e | hj
  ·exact (hD j).2 (.inr e)
  ·rcases wY j st with g | g
   ·exact (hD j).2 (.inl (hI.before j g EL))
   ·exact (hI.Hn j g hj EL).elim
 ·refine h4.imp (fun h=>h) (fun h=>⟨h,fun hc=>?_⟩);obtain ⟨rc,Xd,Bj⟩:=h;rcases (hD _).1 hc with g | g
  ·exact hI.behind _ rc (by omega) Xd (by omega) g
  ·omega
 ·intro j rj hj EM hk LQ;rcases (hD j).1 LQ with g | g
  ·exact hI.behind j rj (by omega) EM hk g
  ·omega
 ·exact adj hG hI.tm hr hi fC hJ hD hml (fun b hb=>g2 b (k5.sub b hb)) (fun b hb=>k5.still b hb) hd (mY (fun _ _ h=>h) g2 (fun _ _=>rfl) _ _ k4)
 ·exact (hI.Qw.trans (k5.zh hI.ge)).trans (g4 (bR 0))
 ·have:=(hg k (yB _)).qQ
  have:=hI.ge
  omega
 ·intro j hj;rcases wY c j with g | g
  ·obtain ⟨k',rfl⟩:∃k',j=c+1+k':=⟨j-(c+1),by omega⟩;exact (hg k' (by omega)).lt
  ·exact hI.Hr j g
def aog {q:Op} (h:bK q≠2):nZ q=q:=by
 cases q<;>first
  | rfl
  | exact absurd rfl h
def aag {x y:br} {l:List br} (h:Pm x y l):¬(bK x.op=2/\1<=bK y.op)/\(1<=bK x.op->bK y.op=2->x.guard=none/\∃sz ag t,x.op= .ld sz ag (.t t)):=by
 obtain ⟨_,h⟩:=h;have ex:JC x y l=true->x.guard=none/\∃sz ag t,x.op= .ld sz ag (.t t):=by
  intro he;unfold JC at he
  grind
 have k2:∀q:Op,bK q<=2:=fun q=>by
  cases q with
  | eJ k x lo hi=>cases k<;>simp [bK]
  | len k x=>rcases k with _ | _ | k<;>simp [bK]
  | call md f xs=>cases md<;>simp [bK]
  | _=>simp [bK]
 constructor
 ·rintro ⟨h1,h2⟩;rcases h with h | h
  ·have:bK y.op=1\/bK y.op=2:=by grind
   rcases this with e | e<;>(simp only [Ji,h1,e] at h;cases h)
  ·obtain ⟨_,sz,ag,t,e⟩:=ex h;rw [e] at h1;cases h1
 ·intro h1 h2;rcases h with h | h
  ·have:bK x.op=1\/bK x.op=2:=by grind
   rcases this with e | e<;>(simp only [Ji,h2,e] at h;cases h)
  ·exact ex h
def aoh (hC:oG O self) (hH:gl O H) (hG:za O H self ops rs cD cd bR vF) (hn:H.n<=n0) (hI:Inv O ops rs cD cd bR D m0 S0 w0 n0 d0 st c m S w a) (hr:rs[i]? =some r) (ho:ops[i]? =some o) (hi:¬D i)
  (fC:∀j,Ord ops j i->D j) (hJ:∀j,Ord ops i j->¬D j) (hD:∀j,D' j↔D j\/j=i) {K:Act->yh->Prop}
  (hK:∀st' c' m' S' w' a',Inv O ops rs cD cd bR D' m0 S0 w0 n0 d0 st' c' m' S' w' a'->K a' w'):wpOpIn (WF ro) 0 O.P ops Q i K a w:=by
 have dF:=hG.of i r o hr ho;have Vt:=aqx hG hI.tm hr hi fC hJ;have bh:=hG.run.step i r hr;have hd:∀d,r.dst=some d->d<a.tmps.size:=by
  rw [dF.dst];exact ab2 dF.ok (by rw [hI.size];exact hn)
 have mq:=hI.Xb;have mQ:1<=bK r.op->i<=c:=by
  intro hk;rcases wY c i with Xe | Xe
  ·have Hk:i<rs.length:=(wh.1 hr).1;rcases hI.cut with h | ⟨⟨rc,Xd,Bj⟩,LC⟩
   ·omega
   ·rcases hG.pair c i rc r Xe Xd hr with h | h
    ·exact (LC (fC c h)).elim
    ·exact ((aag h).1 ⟨Bj,hk⟩).elim
  ·exact Xe
 have hwc:kL rs i->i=c:=by
  intro hw;obtain ⟨fm,h1,h2⟩:=hw;rw [hr] at h1;injection h1 with h1
  subst h1;have h3:=mQ (by omega);rcases wP h3 with e | h3
  ·exact e
  ·rcases wY i st with g | g
   ·exact (hi (hI.before i g ⟨r,hr,h2⟩)).elim
   ·exact (hI.Hn i g h3 ⟨r,hr,h2⟩).elim
 have bm:1<=bK r.op->¬kL rs i->i<c:=by
  intro hk hw;rcases wP (mQ hk) with e | h
  ·subst e;rcases hI.cut with h | h
   ·have Hk:i<rs.length:=(wh.1 hr).1;omega
   ·exact (hw h.1).elim
  ·exact h
 have Bj:¬kL rs i->bK r.op=0\/i<c:=fun hw=>by
  rcases xu (bK r.op) with h | h
  ·exact .inl h
  ·exact .inr (bm h hw)
 unfold wpOpIn;simp only [ho];unfold fq at bh
 cases Qx:pZ (cD i) r.guard with
 | none=>simp [Qx] at bh
 | some b=>
  have W7:=aa2 dF.guard (fun t ht=>Vt t (by simp [DK,ht])) Qx;rw [W7]
  cases b with
  | false=>
   simp only [Qx,yc,yk] at bh;obtain ⟨hv,hh,hc⟩:=bh;simp only [yA,yN];refine ⟨fun _ _=>trivial,?_⟩;have fh:∀m S w,aj O.ai m S w (vF i) undef:=fun m S w=>by rw [<-hv];simp [aj,au,undef]
   rw [<-dF.dst];rcases vW (kL rs i) with hw | hw
   ·have e:=hwc hw;subst e;obtain ⟨c',CT,h⟩:=adk hG hI hr hi fC hJ hD hd hw (m':=m) (S':=S) (w':=w) (u:=undef) (by rw [<-hh,<-hc];exact hI.hp) (by omega) (fh _ _ _) (by rw [<-hh];exact cG.refl)
    exact hK _ _ _ _ _ _ h
   ·exact hK _ _ _ _ _ _ (Ta hG hI hr hi fC hJ hD hd hw (Bj hw) (m':=m) (S':=S) (w':=w) (u:=undef) hI.hp dW.refl (fun _ _ h=> .inl h) (fh _ _ _) cG.refl)
  | true=>
   simp only [Qx] at bh;simp only [yV];have mo:=ZK dF.op bh;have Qy:cF O m S w (dE (cD i) (lO r.op)) a.tmps:=fun t=>by
    rcases vW (t∈lO r.op) with h | h
    ·rw [NJ h];exact Vt t (by simp [DK,h])
    ·have:ab (dE (cD i) (lO r.op)) t= .undef:=by
      clear Vt bh;revert h;generalize lO r.op=l;intro h
      induction l with
      | nil=>rfl
      | cons x l ih=>
       simp only [dE,ab];have hx:yx x t=false:=by
        cases hq:yx x t with
        | false=>rfl
        | true=>exact absurd (by rw [yo hq];exact List.mem_cons_self) h
       rw [hx];exact ih (fun h'=>h (wI _ h'))
     rw [this];simp only [aj]
   have EN:bC O.prog O.aU self (dE (cD i) (lO r.op)) (cd i) (bR i) (nZ r.op)=some (vF i,cd (i+1),bR (i+1)):=
    amk (fun t ht=>NJ ht) bh
   have aev:¬kL rs i->nZ r.op=r.op:=fun hw=>aog (fun h=>hw ⟨r,hr,h⟩)
   have now:¬kL rs i->bH (dE (cD i) (lO r.op)) (cd c) r.op=some (vF i)->Oper.wpIn (WF ro) 0 O.P o a w K Q:=by
    intro hw lF;have kK:∃k,r.op=bw O.P H k o:=by
     rcases dF.op with h | ⟨cc,f,rr,_,_,h⟩ | ⟨_,_,_,_,_,_,_,h⟩
     ·exact h
     ·rw [h] at lF;simp [bH] at lF
     ·rw [h] at lF;simp [bH] at lF
    obtain ⟨k,hk⟩:=kK;rw [hk] at lF;rw [hk] at Qy;obtain ⟨u,h1,h2⟩:=ac3 hH Qy hI.hp lF;refine Ok mo h1 (.inl rfl) ?_;rw [<-dF.dst];exact hK _ _ _ _ _ _ (Ta hG hI hr hi fC hJ hD hd hw (Bj hw) hI.hp dW.refl (fun _ _ h=> .inl h) h2 cG.refl)
   rcases vW (kL rs i) with hw | hw
   ·have e:=hwc hw;subst e;refine ab1 hC hH (alc dF.op) mo EN Qy hI.hp (fun u m' S' w' k1 k2 k3 k4=>?_);rw [<-dF.dst];obtain ⟨c',CT,h⟩:=adk hG hI hr hi fC hJ hD hd hw k1 k2 k3 k4;exact hK _ _ _ _ _ _ h
   ·rcases xu (bK r.op) with hk | hk
    ·have EN:=aev hw▸EN;obtain ⟨h1,_,_⟩:=ab3 (.inl hk) EN;exact now hw (by rw [amb hk (cd c) (cd i)];exact h1)
    ·have Hg:=bm hk hw;rcases wY i st with Vu | Vu
     ·
      rcases hI.Ho with h0 | h0
      ·omega
      ·have bI:D (st-1):=hI.before _ (by omega) h0;have ew:i≠st-1:=fun e=>hi (e▸bI)
       obtain ⟨rp,hrp,hkp⟩:=h0;rcases hG.pair i (st-1) r rp (by omega) hr hrp with h | h
       ·exact (hJ _ h bI).elim
       ·obtain ⟨hg,sz,ag,t,kK⟩:=(aag h).2 hk hkp;have hl:=Zx (c:=c) hG hr hi ⟨hg,kK⟩ hI.cn (fun j hj EL=>by
         rcases wY j st with g | g
         ·exact hI.before j g EL
         ·exact (hI.Hn j g hj EL).elim) hJ hI.Hr (c-(i+1)) (by omega)
        rw [show i+1+(c-(i+1))=c by omega] at hl;refine now hw ?_;rw [kK];simp only [bH,aC];rw [NJ (by simp [lO,kB])];exact hl
     ·have iM:=Nn hG hI (x:=i+1) (y:=c) (by omega) Hg (yB _);have LR:=Nn hG hI (x:=st) (y:=i) (yB _) Vu (by omega)
      refine quiet_step (Hq:=cd c) (cH:=bR c) hC hH (JE hr hw) dF.op mo (aev hw▸EN) iM.le iM.qQ (hI.Hr i (by omega)) ?_ Qy hI.hp (fun u m' S' w' k1 k2 k3 k4 k5=>?_)
      ·intro id h1 h2
       cases hm:m id with
       | none=>rfl
       | some p=>
        rcases hI.Xc id p hm with h | ⟨j,q1,q2,q3,q4,q5⟩
        ·have:=LR.qQ;omega
        ·rcases Nat.lt_trichotomy j i with g | g | g
         ·have:=(Nn hG hI (x:=j+1) (y:=i) (by omega) g (by omega)).qQ;omega
         ·subst g;exact (hi q3).elim
         ·have:=(Nn hG hI (x:=i+1) (y:=j) (by omega) g (by omega)).qQ;omega
      ·rw [<-dF.dst];exact hK _ _ _ _ _ _ (Ta hG hI hr hi fC hJ hD hd hw (.inr Hg) k1 k2 (fun id p h=>(k3 id p h).imp (fun h=>h) (fun h=>⟨Vu,Hg,h.1,h.2⟩)) k4 k5)
def left (n:Nat) (listed:Array Bool):Nat:=(List.range n).countP fun i=> !listed.getD i false
def aoi {n:Nat} {listed:Array Bool} {i:Nat} (hi:i<n) (hs:listed.size=n) (hl:listed.getD i true=false):left n (listed.setIfInBounds i true)+1=left n listed:=by
 have key:∀(l:List Nat),l.Nodup->(i∈l->(l.countP fun j=> !(listed.setIfInBounds i true).getD j false)+1=l.countP fun j=> !listed.getD j false)/\(i∉l->(l.countP fun j=> !(listed.setIfInBounds i true).getD j false)=l.countP fun j=> !listed.getD j false):=by
  intro l
  induction l with
  | nil=>intro _;exact ⟨fun h=>(by cases h),fun _=>rfl⟩
  | cons x l ih=>
   intro mo;have hx:x≠i->(listed.setIfInBounds i true).getD x false=listed.getD x false:=fun h=>getD_set_ne false (ybY h)
   refine ⟨fun hm=>?_,fun hm=>?_⟩
   ·rw [yaJ,yaJ];by_cases e:x=i
    ·simp_all
    ·grind
   ·grind
 exact (key _ List.nodup_range).1 (List.mem_range.2 hi)
def aml {n:Nat} {listed:Array Bool} (h:left n listed=0):∀i,i<n->listed.getD i false=true:=by
 unfold left at h
 simp_all
def amm {listed:Array Bool} (hs:listed.size=ops.size) (hb:∀(i:Nat) (o:yY),ops[i]? =some o->∀e,e∈o.after->Region.binds .any e=true->e.on<i) (h:Region.ready .any ops listed=[]):∀i,i<ops.size->listed.getD i false=true:=by
 intro i
 induction i using vZ with
 | _ i ih=>
  intro hi
  cases hq:listed.getD i false with
  | true=>rfl
  | false=>
   have:i∈Region.ready .any ops listed:=by
    refine mem_ready.2 ⟨?_,ops[i],by simp [hi],fun e he zL=>?_⟩
    ·have bm:i<listed.size:=by omega
     simp only [wV,bm,Array.getElem?_eq_getElem,vt] at hq ⊢;exact hq
    ·have:=hb i ops[i] (by simp [hi]) e he zL
     exact ih e.on this (by omega)
   rw [h] at this;cases this
def aqy (hG:za O H self ops rs cD cd bR vF) (hI:Inv O ops rs cD cd bR D m0 S0 w0 n0 d0 st c m S w a) (nt:∀i,i<rs.length->D i):
  bg O m S w (cd rs.length) (bR rs.length)/\cF O m S w (cD rs.length) a.tmps/\cG m0 S0 w0 (cd 0) m S w (cd rs.length) (bR 0)/\bR 0<=bR rs.length:=by
 have hc:c=rs.length:=by
  rcases hI.cut with h | ⟨⟨r,h1,_⟩,h2⟩
  ·grind
  ·grind
 subst hc;refine ⟨hI.hp,fun t=>?_,hI.Qw,hI.ge⟩;obtain ⟨j,h1,h2,h3⟩:=hI.tm t;obtain ⟨k,hk⟩:∃k,rs.length=j+k:=⟨rs.length-j,by omega⟩
 have:=Jn (t:=t) (i:=j) hG.run k (by omega) (fun l r g1 g2 hl hd=>by
  have:=(h2 l r hl hd).1 (nt l (wh.1 hl).1)
  omega)
 grind
def asS (hC:oG O self) (hH:gl O H) (hG:za O H self ops rs cD cd bR vF) (hn:H.n<=n0)
  (hQ:∀a' m' S' w',bg O m' S' w' (cd rs.length) (bR rs.length)->bR 0<=bR rs.length->cF O m' S' w' (cD rs.length) a'.tmps->cG m0 S0 w0 (cd 0) m' S' w' (cd rs.length) (bR 0)->a'.tmps.size=n0->a'.defers=d0->Q .normal a' w'):
  ∀(bF:Nat) (listed:Array Bool) (st c:Nat) (m:Mp) (S:Nat->Prop) (w:yh) (a:Act),listed.size=ops.size->left ops.size listed=bF->Uo ops (fun i=>listed.getD i false=true)->
   Inv O ops rs cD cd bR (fun i=>listed.getD i false=true) m0 S0 w0 n0 d0 st c m S w a->wpAnyIn (WF ro) 0 O.P .any ops Q bF listed a w:=by
 have fin:∀(listed:Array Bool) (st c:Nat) (m:Mp) (S:Nat->Prop) (w:yh) (a:Act),Inv O ops rs cD cd bR (fun i=>listed.getD i false=true) m0 S0 w0 n0 d0 st c m S w a->(∀i,i<ops.size->listed.getD i false=true)->Q .normal a w:=by
  intro listed st c m S w a hI nt;obtain ⟨h1,h2,h3,h4⟩:=aqy hG hI (fun i hi=>nt i (by rw [<-hG.len];exact hi))
  exact hQ a m S w h1 h4 h2 h3 hI.size hI.defers
 intro bF
 induction bF with
 | zero=>
  intro listed st c m S w a hs hl hc hI;have nt:=aml hl;refine ⟨?_,fin listed st c m S w a hI nt⟩;rw [List.eq_nil_iff_forall_not_mem];intro i hm;obtain ⟨h1,o,ho,_⟩:=mem_ready.1 hm
  grind
 | succ bF ih=>
  intro listed st c m S w a hs hl hc hI;refine ⟨fun h=>fin listed st c m S w a hI (amm hs hG.back h),fun i hm=>?_⟩;obtain ⟨h1,o,ho,h2⟩:=mem_ready.1 hm;have hi:i<ops.size:=(Array.getElem?_eq_some_iff.1 ho).1;have hr:rs[i]? =some (rs[i]'(by rw [hG.len];exact hi)):=by simp [hG.len,hi]
  have bm:i<listed.size:=by omega
  have hni:¬listed.getD i false=true:=by
   grind
  have hD:∀j,(listed.setIfInBounds i true).getD j false=true↔listed.getD j false=true\/j=i:=by
   intro j;by_cases e:j=i
   ·simp_all
   ·rw [getD_set_ne false (ybY e)];simp [e]
  refine aoh hC hH hG hn hI hr ho hni (aa4 hc i o ho h2) (fun j hj LQ=>?_) hD (fun st' c' m' S' w' a' Xf=>ih (listed.setIfInBounds i true) st' c' m' S' w' a' (by simp [hs]) ?_ ?_ Xf)
  ·have hjl:j<ops.size:=by
    grind
   exact hni (aof hc (show ops[j]? =some ops[j] by simp [hjl]) LQ hj)
  ·have:=aoi hi hs h1
   omega
  ·intro j oj hoj hj e he hb;rw [hD];rcases (hD j).1 hj with g | g
   ·exact .inl (hc j oj hoj g e he hb)
   ·grind
end
end
end VE
