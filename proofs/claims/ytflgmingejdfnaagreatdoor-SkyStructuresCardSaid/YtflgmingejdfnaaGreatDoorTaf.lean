import Derived.OrdersIn
import Derived.Test.YtflgmingejdfnaaGreatDoorTae
set_option linter.all false
set_option maxRecDepth 100000
open Array renaming getD_eq_getD_getElem?→wh
open Bool renaming and_eq_true→ye,false_eq_true→yq,not_eq_true'→ua,or_eq_false_iff→uI,or_eq_true→vV
open Classical renaming em→wV
open Go renaming Call→th,Deferred→yaQ,Exit→vQ,Oper→yI,Operand→y8,Program→yJ,Value→yd,World→yf
open List renaming countP_cons→tJ,getElem?_cons_zero→wA,getElem?_eq_some_iff→xI,length_append→yW,length_cons→yx,length_nil→yZ,mem_append→xT,mem_cons→wm,mem_cons_of_mem→xU
open Nat renaming beq→yk,ble→yy,eq_of_beq_eq_true→yh,eq_or_lt_of_le→wa,eq_zero_or_pos→xv,le_of_lt_succ→uh,le_refl→yC,le_trans→xz,lt_or_ge→wj,strongRecOn→wY,testBit→vm
open Ne renaming symm→yaP
open Option renaming bind_some→xt,getD_some→vW
open Option.some renaming injEq→yb
open Prod.mk renaming injEq→yg
namespace VE
section
open Go
section
variable {O:a8} {H:Hint} {m:Mp} {S:Nat->Prop} {w:yf} {tm:Env} {a:Act} {hp ai:Hp} {ct aO:Nat} {self:b9} {ro:Option Nat} {next:Act->yf->Prop} {Q:vQ->Act->yf->Prop}
def bK.mz {m':Mp} {S':Nat->Prop} {w':yf} {b b':Nat} (h:bK m S w hp m' S' w' ai b) (hb:b'<=b):bK m S w hp m' S' w' ai b':=
 ⟨h.os,h.tape,h.output,h.size,h.same,h.sub,h.still,h.new,h.own,fun i q hi hq=>h.old i q (by omega) hq,h.loops⟩
def aeU {hp:Hp} {ct:Nat} {r:AV} (aV:∀id o,ak hp id=some o->id<ct):∀id o,ak (own hp ct r).2.1 id=some o->id<(own hp ct r).2.2:=by
 have hL:∀(vs:List AV) (hp:Hp) (ct:Nat),(∀id o,ak hp id=some o->id<ct)->∀id o,ak (gI hp ct vs).2.1 id=some o->id<(gI hp ct vs).2.2:=by
  intro vs
  induction vs with
  | nil=>intro hp ct h id o ho;exact h id o ho
  | cons v r ih=>intro hp ct h id o ho;exact ih _ _ (A0 h) id o ho
 cases r with
 | aw vs=>exact hL vs hp ct aV
 | _=>exact A0 aV
def aeV {hp:Hp} {ct:Nat} {r:AV} (aV:∀id o,ak hp id=some o->id<ct):∀id o,ak hp id=some o->ak (own hp ct r).2.1 id=some o:=by
 cases r with
 | aw vs=>exact Ec aV
 | _=>exact Iz aV
def aeW {hp:Hp} {ct:Nat} {r:AV}:ct<=(own hp ct r).2.2:=by
 cases r with
 | aw vs=>exact Eb
 | _=>exact Ea
def aaI {hp:Hp} {ct:Nat} {r:AV}:∀id o,ak (own hp ct r).2.1 id=some o->id<ct->ak hp id=some o:=by
 have h1:∀(hp:Hp) (ct:Nat) (r:AV) id o,ak (dO hp ct r).2.1 id=some o->id<ct->ak hp id=some o:=by
  intro hp ct r id o h hc;cases r<;>simp only [dO] at h<;>try exact h
  rw [fc,yE (by omega)] at h;exact h
 have hL:∀(vs:List AV) (hp:Hp) (ct:Nat) id o,ak (gI hp ct vs).2.1 id=some o->id<ct->ak hp id=some o:=by
  intro vs
  induction vs with
  | nil=>intro hp ct id o ho _;exact ho
  | cons v r ih=>intro hp ct id o ho hc;exact h1 hp ct v id o (ih _ _ id o ho (by have:=Ea (hp:=hp) (ct:=ct) (r:=v);omega)) hc
 cases r with
 | aw vs=>exact hL vs hp ct
 | _=>exact h1 hp ct _
structure fy (hp:Hp) (ct:Nat) (ai:Hp) (aO:Nat):Prop where
 le:cr hp ai
 kR:ct<=aO
 lt:∀id o,ak ai id=some o->id<aO
 back:∀id o,ak ai id=some o->id<ct->∃o',ak hp id=some o'
def fy.refl (aV:∀id o,ak hp id=some o->id<ct):fy hp ct hp ct:=⟨cr.refl,yC _,aV,fun _ o h _=>⟨o,h⟩⟩
def fy.trans {BX:Hp} {Tm:Nat} (h:fy hp ct ai aO) (k:fy ai aO BX Tm):fy hp ct BX Tm:=
 ⟨h.le.trans k.le,xz h.kR k.kR,k.lt,fun id o ho hi=>let ⟨o1,h1⟩:=k.back id o ho (Nat.lt_of_lt_of_le hi h.kR);h.back id o1 h1 hi⟩
def No {EI ap:List AV} {bm:Hp} (hz:bS deep hp EI=some (ap,bm)) (aV:∀id o,ak hp id=some o->id<ct):fy hp ct bm ct:=by
 obtain ⟨z1,z2,_⟩:=G9 (O:=⟨default,⟨fun _=>none,fun _=>none⟩,fun _=>0,fun _=>none,fun _=>⟨0,fun _=>none,fun _=>[],fun _=>none,fun _=> .pure,fun _=>[]⟩,default⟩) hz;have hb:∀id o,ak bm id=some o->∃o',ak hp id=some o':=fun id o h=>by
  have:=z2 id
  rw [h] at this
  cases hq:ak hp id with
  | none=>rw [hq] at this;cases this
  | some q=>exact ⟨q,rfl⟩
 exact ⟨z1,yC _,fun id o h=>let ⟨o',h'⟩:=hb id o h;aV id o' h',fun id o h _=>hb id o h⟩
def YZ {r:AV} (aV:∀id o,ak hp id=some o->id<ct):fy hp ct (own hp ct r).2.1 (own hp ct r).2.2:=
 ⟨fun id o h=>⟨o,aeV aV id o h,gw.refl o⟩,aeW,aeU aV,fun id o h hi=>⟨o,aaI id o h hi⟩⟩
def L5 {P:aF} {L:Lib} {q:Op} {v:AV} (hk:bh q<=1) (hv:aZ P L self tm hp ct q=some (v,ai,aO)) (aV:∀id o,ak hp id=some o->id<ct):fy hp ct ai aO:=by
 have b7:∀{q:Op},(match b6 tm hp ct q with | some (v,b)=>some (v,(ct,b)::hp,ct+1) | none=>(none:eF))=some (v,ai,aO)->fy hp ct ai aO:=by
  intro q h
  cases hm:b6 tm hp ct q with
  | none=>simp [hm] at h
  | some r=>
   obtain ⟨v1,b⟩:=r;simp only [hm,yb,yg] at h;obtain ⟨rfl,rfl,rfl⟩:=h;refine ⟨fun id o ho=>⟨o,?_,gw.refl o⟩,by omega,fun id o ho=>?_,fun id o ho hi=>?_⟩
   ·rw [fc,yE (by have:=aV id o ho;omega)];exact ho
   ·rw [fc] at ho
    grind
   ·rw [fc,yE (by omega)] at ho;exact ⟨o,ho⟩
 have gN:∀{q:Op},(match bf tm hp q with | some v=>some (v,hp,ct) | none=>(none:eF))=some (v,ai,aO)->fy hp ct ai aO:=by
  intro q h
  cases hm:bf tm hp q with
  | none=>simp [hm] at h
  | some r=>
   simp only [hm,yb,yg] at h;obtain ⟨rfl,rfl,rfl⟩:=h;exact fy.refl aV
 cases bI:q with
 | st _ _ _=>simp [bI,bh] at hk
 | kK _ _ _ _=>simp [bI,bh] at hk
 | kM _=>simp [bI,bh] at hk
 | cy _ _ _ _=>simp [bI,bh] at hk
 | kN _ _ _=>simp [bI,bh] at hk
 | fg _ _ _=>simp [bI,bh] at hk
 | gZ _ _ _ _=>simp [bI,bh] at hk
 | box s x=>exact b7 (q:=q) (by rw [bI] at hv ⊢;simp only [aZ] at hv;exact hv)
 | bw n s z ps=>exact b7 (q:=q) (by rw [bI] at hv ⊢;simp only [aZ] at hv;exact hv)
 | eY s b z x y=>exact b7 (q:=q) (by rw [bI] at hv ⊢;simp only [aZ] at hv;exact hv)
 | nV=>exact b7 (q:=q) (by rw [bI] at hv ⊢;simp only [aZ] at hv;exact hv)
 | kL x=>exact b7 (q:=q) (by rw [bI] at hv ⊢;simp only [aZ] at hv;exact hv)
 | call md x xs=>
  subst bI;simp only [aZ,cK] at hv
  split at hv
  ·rename_i g first cap hx
   cases md with
   | heap=>simp [bh] at hk
   | dyn=>simp [bh] at hk
   | pure=>
    simp only at hv
    cases hz:bS deep hp (first++(cA tm xs++cap)) with
    | none=>simp [hz] at hv
    | some z=>
     obtain ⟨ap,bm⟩:=z;simp only [hz] at hv
     cases hr:b5 P L self g ap with
     | none=>simp [hr] at hv
     | some r=>
      simp only [hr,yb,yg] at hv;obtain ⟨rfl,rfl,rfl⟩:=hv;exact No hz aV
   | own=>
    simp only at hv
    cases hz:bS deep hp (first++(cA tm xs++cap)) with
    | none=>simp [hz] at hv
    | some z=>
     obtain ⟨ap,bm⟩:=z;simp only [hz] at hv
     cases hr:b5 P L self g ap with
     | none=>simp [hr] at hv
     | some r=>
      simp only [hr,yb] at hv;have e2:ai=(own bm ct r).2.1:=by rw [hv]
      have e3:aO=(own bm ct r).2.2:=by rw [hv]
      subst e2;subst e3;have g1:=No hz aV;exact g1.trans (YZ g1.lt)
  ·cases md with
   | heap=>simp [bh] at hk
   | dyn=>simp [bh] at hk
   | _=>simp at hv
  ·cases hv
 | _=>exact gN (q:=q) (by rw [bI] at hv ⊢;simp only [aZ] at hv;exact hv)
def DV (hh:aJ O m S w hp ct) (hg:fy hp ct ai aO):∃S',aJ O m S' w ai aO/\(∀b,S b->S' b)/\(∀b,S' b->S b\/da m hp b)/\∀base,bK m S w hp m S' w ai base:=by
 have hd:∀id o p,ak ai id=some o->m id=some p->∃o',ak hp id=some o':=fun id o p h hm=>hg.back id o h (hh.lt id p hm)
 obtain ⟨S',g1,g2,g3⟩:=OX hh hg.le hd hg.kR hg.lt;refine ⟨S',g1,g2,g3,fun base=>⟨rfl,rfl,rfl,yC _,fun _ _ _=>rfl,g2,fun _ _=>rfl,fun b hb=>(g3 b hb).imp (fun h=>h) .inl,?_,fun _ _ _ h=>h,fun _ r h=>⟨r,h⟩⟩⟩;rintro b ⟨i,o,p,h1,h2,h3⟩;obtain ⟨o',h4⟩:=hd i o p h1 h2;exact .inl ⟨i,o',p,h4,h2,h3⟩
def aaJ {q:Op} {v:AV} (hv:cg tm hp ct q=some (v,ai,aO)):ct<=aO:=by
 cases q<;>simp only [cg,reduceCtorEq] at hv
 all_goals
  grind
def HX {P:yJ} {H:Hint} {o:yI} {rs:List (Nat×Bool×Nat)} {x:X} {xs:List X} (hq:nM P H (.fg rs x xs) o):∃c f,o.op= .call c/\c.callee= .value f/\x=aH H f/\xs=eW H c.args.toList:=by
 rcases hq with ⟨k,hk⟩ | ⟨c,f,rs',h1,h2,h3⟩ | ⟨_,_,_,_,_,_,_,h3⟩
 ·cases ho:o.op with
  | call c=>
   obtain ⟨callee,args,ts⟩:=c;simp only [aW,ho] at hk
   split at hk
   ·grind
   ·repeat' split at hk
    all_goals first
     | (cases hk;done)
     | (simp only [bad] at hk;cases hk;done)
     | (revert hk;generalize yk _ _=bb;intro hk;cases bb<;>simp [bad] at hk)
   ·simp only [bad] at hk;cases hk
  | binOp op t x' y ty=>
   cases op<;>simp only [aW,ho,mj,nl] at hk
   case eql=>
         repeat' split at hk
         all_goals first
          | (cases hk;done)
          | (simp only [bad] at hk;cases hk;done)
          | (cases db:(P.stoodInHeld t||P.eqGuardType P.depth t)<;>rw [db] at hk<;>simp [bad] at hk)
   case neq=>
         repeat' split at hk
         all_goals first
          | (cases hk;done)
          | (simp only [bad] at hk;cases hk;done)
          | (cases db:(P.stoodInHeld t||P.eqGuardType P.depth t)<;>rw [db] at hk<;>simp [bad] at hk)
   all_goals cases hk
  | buildSlice t n parts=>
   simp only [aW,ho] at hk
   repeat' split at hk
   all_goals first
    | (cases hk;done)
    | (simp only [bad] at hk;cases hk;done)
    | (revert hk;generalize yy _ _=bb;intro hk;cases bb<;>simp [bad] at hk)
  | makeMap t r=>
   cases r<;>simp only [aW,ho] at hk
   ·repeat' split at hk
    all_goals first
     | (cases hk;done)
     | (simp only [bad] at hk;cases hk;done)
   ·simp only [bad] at hk;cases hk
  | next x' b=>
   cases b<;>simp only [aW,ho] at hk
   ·simp only [bad] at hk;cases hk
   ·cases hk
  | _=>
   simp only [aW,ho] at hk
   (repeat' split at hk)
   all_goals first
    | contradiction
    | (cases hk;done)
    | (simp only [bad] at hk;cases hk;done)
 ·simp only [Op.fg.injEq] at h3;exact ⟨c,f,h1,h2,h3.2.1,h3.2.2⟩
 ·cases h3
def X3 {P:yJ} {H:Hint} {o:yI} {k:Nat} {rs:List (Nat×Bool×Nat)} {sz:Nat} {x y:X} (hk:Op.gZ rs sz x y=aW P H k o):False:=by
 cases ho:o.op with
 | call c=>
  obtain ⟨callee,args,ts⟩:=c;simp only [aW,ho] at hk
  split at hk
  ·grind
  ·repeat' split at hk
   all_goals first
    | (cases hk;done)
    | (simp only [bad] at hk;cases hk;done)
    | (revert hk;generalize yk _ _=bb;intro hk;cases bb<;>simp [bad] at hk)
  ·simp only [bad] at hk;cases hk
 | binOp op t x' y ty=>
  cases op<;>simp only [aW,ho,mj,nl] at hk
  case eql=>
        repeat' split at hk
        all_goals first
         | (cases hk;done)
         | (simp only [bad] at hk;cases hk;done)
         | (cases db:(P.stoodInHeld t||P.eqGuardType P.depth t)<;>rw [db] at hk<;>simp [bad] at hk)
  case neq=>
        repeat' split at hk
        all_goals first
         | (cases hk;done)
         | (simp only [bad] at hk;cases hk;done)
         | (cases db:(P.stoodInHeld t||P.eqGuardType P.depth t)<;>rw [db] at hk<;>simp [bad] at hk)
  all_goals cases hk
 | buildSlice t n parts=>
  simp only [aW,ho] at hk
  repeat' split at hk
  all_goals first
   | (cases hk;done)
   | (simp only [bad] at hk;cases hk;done)
   | (revert hk;generalize yy _ _=bb;intro hk;cases bb<;>simp [bad] at hk)
 | makeMap t r=>
  cases r<;>simp only [aW,ho] at hk
  ·repeat' split at hk
   all_goals first
    | (cases hk;done)
    | (simp only [bad] at hk;cases hk;done)
  ·simp only [bad] at hk;cases hk
 | next x' b=>
  cases b<;>simp only [aW,ho] at hk
  ·simp only [bad] at hk;cases hk
  ·cases hk
 | _=>
  simp only [aW,ho] at hk
  (repeat' split at hk)
  all_goals first
   | contradiction
   | (cases hk;done)
   | (simp only [bad] at hk;cases hk;done)
def ahr {P:yJ} {H:Hint} {o:yI} {sz:Nat} {x y:X} (hq:nM P H (.st sz x y) o):∃t x' y',o.op= .store t x' y'/\bU P t=some sz/\x=aH H x'/\y=aH H y':=by
 obtain ⟨k,hk⟩:∃k,Op.st sz x y=aW P H k o:=by
  rcases hq with h | ⟨_,_,_,_,_,h⟩ | ⟨_,_,_,_,_,_,_,h⟩
  ·grind
  ·grind
  ·cases h
 cases ho:o.op with
 | call c=>
  obtain ⟨callee,args,ts⟩:=c;simp only [aW,ho] at hk
  split at hk
  ·grind
  ·repeat' split at hk
   all_goals first
    | (cases hk;done)
    | (simp only [bad] at hk;cases hk;done)
    | (revert hk;generalize yk _ _=bb;intro hk;cases bb<;>simp [bad] at hk)
  ·simp only [bad] at hk;cases hk
 | binOp op t x' y ty=>
  cases op<;>simp only [aW,ho,mj,nl] at hk
  case eql=>
        repeat' split at hk
        all_goals first
         | (cases hk;done)
         | (simp only [bad] at hk;cases hk;done)
         | (cases db:(P.stoodInHeld t||P.eqGuardType P.depth t)<;>rw [db] at hk<;>simp [bad] at hk)
  case neq=>
        repeat' split at hk
        all_goals first
         | (cases hk;done)
         | (simp only [bad] at hk;cases hk;done)
         | (cases db:(P.stoodInHeld t||P.eqGuardType P.depth t)<;>rw [db] at hk<;>simp [bad] at hk)
  all_goals cases hk
 | buildSlice t n parts=>
  simp only [aW,ho] at hk
  repeat' split at hk
  all_goals first
   | (cases hk;done)
   | (simp only [bad] at hk;cases hk;done)
   | (revert hk;generalize yy _ _=bb;intro hk;cases bb<;>simp [bad] at hk)
 | makeMap t r=>
  cases r<;>simp only [aW,ho] at hk
  ·repeat' split at hk
   all_goals first
    | (cases hk;done)
    | (simp only [bad] at hk;cases hk;done)
  ·simp only [bad] at hk;cases hk
 | next x' b=>
  cases b<;>simp only [aW,ho] at hk
  ·simp only [bad] at hk;cases hk
  ·cases hk
 | store t x' y'=>
  simp only [aW,ho] at hk
  split at hk
  ·rename_i s hs;simp only [Op.st.injEq] at hk;obtain ⟨rfl,rfl,rfl⟩:=hk;exact ⟨t,x',y',rfl,hs,rfl,rfl⟩
  ·simp only [bad] at hk;cases hk
 | _=>
  simp only [aW,ho] at hk
  (repeat' split at hk)
  all_goals first
   | contradiction
   | (cases hk;done)
   | (simp only [bad] at hk;cases hk;done)
def PQ {P:yJ} {H:Hint} {o:yI} {rs:List (Nat×Bool×Nat)} {sz:Nat} {x y:X} (hq:nM P H (.gZ rs sz x y) o):∃t x' y',o.op= .store t x' y'/\bU P t=some sz/\x=aH H x'/\y=aH H y':=by
 rcases hq with ⟨k,hk⟩ | ⟨_,_,_,_,_,h3⟩ | ⟨t,x',y',KB,rs',h1,h2,h3⟩
 ·exact (X3 hk).elim
 ·grind
 ·grind
def X4 {P:yJ} {H:Hint} {q:Op} {o:yI} (hq:nM P H q o):nM P H (jv q) o:=by
 cases h:q with
 | fg rs f xs=>
  subst h;obtain ⟨c,f',g1,g2,g3,g4⟩:=HX hq;exact .inr (.inl ⟨c,f',[],g1,g2,by rw [g3,g4];rfl⟩)
 | gZ rs sz x y=>
  subst h;obtain ⟨t,x',y',g1,g2,g3,g4⟩:=PQ hq;refine .inl ⟨0,?_⟩;simp only [jv,aW,g1,g2,g3,g4]
 | _=>subst h;exact hq
def Oa (hC:jI O self) (hH:dY O H) {o:yI} {q:Op} {v:AV} (hq:nM O.P H q o) (hd:∀c,o.op≠.defer c) (hv:aZ O.prog O.aK self tm hp ct q=some (v,ai,aO))
  (ht:bM O m S w tm a.tmps) (hh:aJ O m S w hp ct)
  (hn:∀u m' S' w',aJ O m' S' w' ai aO->ct<=aO->af O.ae m' S' w' v u->bK m S w hp m' S' w' ai ct->next (a.put o.dst u) w'):o.wpIn (WF ro) 0 O.P a w next Q:=by
 have quiet:bh q<=1->o.wpIn (WF ro) 0 O.P a w next Q:=by
  intro hk;have hg:=L5 hk hv hh.aV;obtain ⟨S1,g1,g2,g3,g4⟩:=DV hh hg;refine quiet_step hC hH hk hq hd hv cr.refl (yC _) hh.aV (fun id h1 h2=>?_) (ow (fun _ _ h=>h) g2 (fun _ _=>rfl) ht) g1 (fun u m' S' w' k1 k2 k3 k4 k5=>hn u m' S' w' k1 hg.kR k4 ((g4 ct).trans (k5.mz hg.kR)))
  cases hm:m id with
  | none=>rfl
  | some p=>have:=hh.lt id p hm;omega
 have PR:∀{q':Op},(∃k,q'=aW O.P H k o)->cg tm hp ct q'=some (v,ai,aO)->o.wpIn (WF ro) 0 O.P a w next Q:=by
  intro q' gL hw;obtain ⟨k,rfl⟩:=gL;obtain ⟨n,u,w',m',S',h1,h2,h3,h4,h5,h6⟩:=acN hH ht hh hw;exact Em hd h1 h2 (hn u m' S' w' h3 (aaJ hw) h4 h6)
 have write:cg tm hp ct q=some (v,ai,aO)->o.wpIn (WF ro) 0 O.P a w next Q:=by
  intro hw;refine PR ?_ hw;rcases hq with h | ⟨c,f,rs,_,_,rfl⟩ | ⟨_,_,_,_,_,_,_,rfl⟩
  ·exact h
  ·simp [cg] at hw
  ·simp [cg] at hw
 have heap:∀{c:th} {f:y8} {g:Nat} {first cap:List AV},o.op= .call c->c.callee= .value f->aq tm (aH H f)= .fn (.f g) first cap->
   fK O.prog O.aK self hp ct g (first++(cA tm (eW H c.args.toList)++cap))=some (v,ai,aO)->o.wpIn (WF ro) 0 O.P a w next Q:=by
  intro c f g first cap ho fH hx he;obtain ⟨fi,ca,h1,h2⟩:=DU hH ht (args:=c.args) hx;refine Du ho fH h1 (hC.heap _ _ _ _ _ _ _ he m S w _ hh h2) ?_;rintro e w' ⟨u,m',S',rfl,k1,k2,k3,k4⟩;exact ⟨u,rfl,hn u m' S' w' k1 k2 k3 k4⟩
 have round:∀{c:th} {f:y8} {l:Nat} {x y:List AV},o.op= .call c->c.callee= .value f->aq tm (aH H f)= .fn (.y l) x y->
   fV self hp ct l (cA tm (eW H c.args.toList))=some (v,ai,aO)->o.wpIn (WF ro) 0 O.P a w next Q:=by
  intro c f l x y ho fH hx he;have rf:=bQ hH ht f;rw [hx] at rf;simp only [af] at rf;obtain ⟨p,hm,hf⟩:=rf;have fM:=qF hH ht c.args.toList;obtain ⟨g,tmps,as_,body,h1,h2⟩:=hC.round _ _ _ _ _ _ _ he m S w (c.args.map a.eval) p hh hm (by simpa using fM);refine aaH ho fH hf h1 h2 ?_;rintro e w' ⟨u,m',S',rfl,k1,k2,k3,k4⟩;exact ⟨u,rfl,hn u m' S' w' k1 k2 k3 k4⟩
 have dyn:∀{c:th} {f:y8},o.op= .call c->c.callee= .value f->cK O.prog O.aK self hp ct .dyn (aq tm (aH H f)) (cA tm (eW H c.args.toList))=some (v,ai,aO)->o.wpIn (WF ro) 0 O.P a w next Q:=by
  intro c f ho fH he;unfold cK at he
  split at he
  ·rename_i g first cap hx
   (try simp only at he)
   cases hp0:az (first++(cA tm (eW H c.args.toList)++cap)) with
   | true=>
    rw [hp0] at he;simp only [yi] at he
    cases hr:b5 O.prog O.aK self g (first++(cA tm (eW H c.args.toList)++cap)) with
    | none=>simp [hr] at he
    | some r=>
     simp only [hr,yb,yg] at he;obtain ⟨rfl,rfl,rfl⟩:=he;obtain ⟨fi,ca,h1,h2⟩:=DU hH ht (args:=c.args) hx;refine Du ho fH h1 (hC.pure g _ r hr w S _ (IA hh) hh.slt (nh (fun _ h=>h) (fun _ _=>rfl) _ _ hp0 h2) hp0) ?_;rintro e w' ⟨u,S',rfl,hw,g1,g2,g3,g4⟩;obtain ⟨S2,k1,k2,k3⟩:=Nj g4 m;have hS:∀b,S b->S2 b:=fun b hb=>k1 b (g1 b hb)
     have CF:∀b,S2 b->S b\/w.heap.size<=b:=fun b hb=>(k2 b hb).elim (g2 b) (fun h=> .inr h.1)
     have hl:∀b,S2 b->b<w'.heap.size:=fun b hb=>(k2 b hb).elim (g3 b) (fun h=>h.2)
     exact ⟨u,rfl,hn u m S2 w' (AO hh hw hS CF hl) (yC _) k3 (AW hh hw hS CF)⟩
   | false=>
    rw [hp0] at he;simp only [yr] at he;exact heap ho fH hx he
  ·rename_i l x y hx;exact round ho fH hx he
  ·cases he
 cases bI:q with
 | fg rs x xs=>
  subst bI;simp only [aZ] at hv;have key:=HX hq;obtain ⟨c,f,ho,fH,rfl,rfl⟩:=key
  cases hc:cK O.prog O.aK self hp ct .dyn (aq tm (aH H f)) (cA tm (eW H c.args.toList)) with
  | none=>simp [hc] at hv
  | some r=>
   obtain ⟨v1,bm,mP⟩:=r;simp only [hc] at hv
   cases hs:lk tm hp bm rs with
   | false=>rw [hs] at hv;cases hv
   | true=>
    rw [hs] at hv;simp only [yi,yb,yg] at hv;obtain ⟨rfl,rfl,rfl⟩:=hv;exact dyn ho fH hc
 | call md x xs=>
  subst bI;have gL:∃k,Op.call md x xs=aW O.P H k o:=by
   rcases hq with h | ⟨c,f,rs,_,_,h⟩ | ⟨_,_,_,_,_,_,_,h⟩
   ·exact h
   ·cases h
   ·cases h
  obtain ⟨k,hk⟩:=gL
  cases md with
  | pure=>exact quiet (by simp [bh])
  | own=>exact quiet (by simp [bh])
  | heap=>
   simp only [aZ] at hv;obtain ⟨c,f,ho,fH,rfl,rfl⟩:=Ed hk.symm (by rintro rfl;simp [aq,cK] at hv);unfold cK at hv
   split at hv
   ·rename_i g first cap hx;exact heap ho fH hx hv
   ·rename_i l x y hx;exact round ho fH hx hv
   ·cases hv
  | dyn=>
   simp only [aZ] at hv;obtain ⟨c,f,ho,fH,rfl,rfl⟩:=Ed hk.symm (by rintro rfl;simp [aq,cK] at hv);exact dyn ho fH hv
 | gZ rs s x y=>
  subst bI;obtain ⟨t,x',y',g1,g2,g3,g4⟩:=PQ hq;simp only [aZ] at hv
  split at hv
  ·rename_i id off hx
   cases hf:sT tm id rs with
   | false=>rw [hf] at hv;cases hv
   | true=>
    rw [hf] at hv;simp only [yi] at hv
    exact PR (q':= .st s x y) ⟨0,by simp only [aW,g1,g2,g3,g4]⟩ hv
  ·cases hv
 | st s x y=>subst bI;exact write (by simpa only [aZ] using hv)
 | kK kk x y z=>subst bI;exact write (by simpa only [aZ] using hv)
 | kM x=>subst bI;exact write (by simpa only [aZ] using hv)
 | cy s b x y=>subst bI;exact write (by simpa only [aZ] using hv)
 | kN s x y=>subst bI;exact write (by simpa only [aZ] using hv)
 | cY k x lo hi=>subst bI;exact quiet (by cases k<;>simp [bh])
 | len k x=>subst bI;exact quiet (by rcases k with _ | _ | k<;>simp [bh])
 | _=>subst bI;exact quiet (by simp [bh])
end
end
section
open Go
def kD (tm:Env) (g:Option (Nat×Bool)):Option Bool:=
 match g with
 | none=>some true
 | some (t,b)=>match ah tm t with | .bool c=>some (c==b) | .aw []=>some false | _=>none
def eP (P:aF) (L:Lib) (self:b9) (tm:Env) (hp:Hp) (ct:Nat) (r:aU):eF:=
 match kD tm r.guard with
 | some true=>aZ P L self tm hp ct r.op
 | some false=>some (.aw [],hp,ct)
 | none=>none
def Mx {P:aF} {L:Lib} {self:b9} {r:aU} {rs:List aU} {s:St}:
  cM P L self (r::rs) s=match eP P L self s.tm s.hp s.ct r with | some (v,hp,ct)=>cM P L self rs {s with tm:=put r.dst v s.tm,hp:=hp,ct:=ct} | none=>none:=by
 obtain ⟨d,g,o⟩:=r;simp only [cM,eP]
 cases g with
 | none=>rfl
 | some q=>
  obtain ⟨t,b⟩:=q;simp only [kD];generalize ah s.tm t=x
  cases x with
  | bool c=>
   simp only;cases (c==b)<;>rfl
  | aw vs=>cases vs<;>rfl
  | _=>rfl
def O7 (ops:Array yI) (g:Option (Nat×Bool)) (g':Option (Nat×Bool)):Prop:=
 (g=none/\g'=none)\/∃t b j,g=some (t,b)/\g'=some (j,b)/\(ops[j]?).bind (·.dst)=some t
structure EJ (P:yJ) (H:Hint) (ops:Array yI) (r:aU) (o:yI):Prop where
 op:nM P H r.op o
 dst:r.dst=o.dst
 ok:BE H o.dst=true
 guard:O7 ops r.guard o.guard
def jq (P:yJ) (H:Hint) (ops:Array yI):List aU->List yI->Prop
 | [],[]=>True
 | r::rs,o::l=>(EJ P H ops r o\/(r.guard=none/\r.op=bad))/\jq P H ops rs l
 | _,_=>False
def My {P:yJ} {H:Hint} {ops:Array yI}:∀(l:List yI) (k:Nat),jq P H ops (qB P H ops l k).1 l
 | [],k=>by simp [qB,jq]
 | o::l,k=>by
  have ih:=My (P:=P) (H:=H) (ops:=ops) l (k+(bif IX o then 1 else 0));simp only [qB];generalize hq:qB P H ops l (k+(bif IX o then 1 else 0))=q at ih;obtain ⟨l',k'⟩:=q;simp only;have JI:jq P H ops (⟨o.dst,none,bad⟩::l') (o::l):=⟨.inr ⟨rfl,rfl⟩,ih⟩
  cases hg:o.guard with
  | none=>
   simp only
   cases hd:BE H o.dst with
   | false=>exact JI
   | true=>exact ⟨.inl ⟨.inl ⟨k,rfl⟩,rfl,hd,.inl ⟨rfl,hg⟩⟩,ih⟩
  | some p=>
   obtain ⟨j,b⟩:=p;simp only
   cases ht:(ops[j]?).bind (·.dst) with
   | none=>exact JI
   | some t=>
    simp only
    cases hd:BE H o.dst with
    | false=>exact JI
    | true=>exact ⟨.inl ⟨.inl ⟨k,rfl⟩,rfl,hd,.inr ⟨t,b,j,rfl,hg,ht⟩⟩,ih⟩
section
variable {O:a8} {H:Hint} {m:Mp} {S:Nat->Prop} {w:yf} {tm:Env} {a:Act} {hp ai:Hp} {ct aO:Nat} {self:b9} {ro:Option Nat} {Q:vQ->Act->yf->Prop} {ops:Array yI}
def HY {d:Option Nat} {v:AV} {tm:Env} {t:Nat}:ah (put d v tm) t=if d=some t then v else ah tm t:=by
 cases d with
 | none=>simp [put]
 | some i=>
  simp only [put,ah];by_cases h:i=t
  ·subst h;simp
  ·have:yk i t=false:=by
    cases hq:yk i t with
    | false=>rfl
    | true=>exact absurd (yh hq) h
   simp [this,h]
def DW (a:Act) (d:Option Nat) (u:yd):(a.put d u).tmps.size=a.tmps.size:=by
 cases d with
 | none=>rfl
 | some i=>simp [Act.put]
def Hd (a:Act) (d:Option Nat) (u:yd):(a.put d u).defers=a.defers:=by
 cases d with
 | none=>rfl
 | some i=>rfl
def HZ {a:Act} {d:Option Nat} {u:yd} {t:Nat} (hd:∀i,d=some i->i<a.tmps.size):(a.put d u).tmps.getD t undef=if d=some t then u else a.tmps.getD t undef:=by
 cases d with
 | none=>simp [Act.put]
 | some i=>
  have hi:=hd i rfl;by_cases h:i=t
  ·subst h;simp [Act.put,hi]
  ·simp only [Act.put,yb,h,yM];simp [Array.getElem?_setIfInBounds_ne h]
def Ob {n:Nat} {d:Option Nat} (h:BE H d=true) (hn:H.n<=n):∀i,d=some i->i<n:=by
 rintro i rfl
 have:=nn.1 h
 omega
def H0 {d:Option Nat} {v:AV} {u:yd} (ht:bM O m S w tm a.tmps) (hd:∀i,d=some i->i<a.tmps.size) (hv:af O.ae m S w v u):bM O m S w (put d v tm) (a.put d u).tmps:=fun t=>by
 rw [HY,HZ hd]
 split
 ·exact hv
 ·exact ht t
def Np {o:yI} {g:Option (Nat×Bool)} {b:Bool} (hg:O7 ops g o.guard) (ht:∀t,t∈Jf g->af O.ae m S w (ah tm t) (a.tmps.getD t undef)) (hw:kD tm g=some b):Region.wanted o (yielded ops a.tmps)=b:=by
 rcases hg with ⟨rfl,h2⟩ | ⟨t,c,j,rfl,h2,h3⟩
 ·simp only [kD,yb] at hw;subst hw;simp [Region.wanted,h2]
 ·simp only [kD] at hw;have h4:=ht t (by simp [Jf]);simp only [Region.wanted,h2]
  split at hw
  ·rename_i d hd;rw [hd] at h4;simp only [af] at h4;simp only [yb] at hw
   have:yielded ops a.tmps j=some d:=by
    simp only [yielded,h3,xt];have h5:a.tmps[t]? =some (.bool d):=by
     simp only [wh] at h4
     cases hq:a.tmps[t]? with
     | none=>rw [hq] at h4;simp [undef] at h4
     | some x=>rw [hq] at h4;simp at h4;rw [h4]
    rw [h5]
   rw [this,<-hw];cases d<;>cases c<;>rfl
  ·rename_i hd;rw [hd] at h4;simp only [af,an] at h4;obtain ⟨xs,h4,h5⟩:=h4;simp only [yb] at hw;subst hw
   have:yielded ops a.tmps j=none:=by
    simp only [yielded,h3,xt];simp only [wh] at h4
    cases hq:a.tmps[t]? with
    | none=>rfl
    | some x=>rw [hq] at h4;simp at h4;rw [h4]
   rw [this];rfl
  ·cases hw
def L6 {o:yI} {q:Op} (hq:nM O.P H q o) {r:AV×Hp×Nat} (hv:aZ O.prog O.aK self tm hp ct q=some r):∀c,o.op≠.defer c:=by
 rcases hq with ⟨k,rfl⟩ | ⟨c,f,rs,h1,_,_⟩ | ⟨_,_,_,_,_,h1,_,_⟩
 ·exact X1 hv
 ·intro c' h;rw [h1] at h;cases h
 ·intro c' h;rw [h1] at h;cases h
def acP (hC:jI O self) (hH:dY O H) {i:Nat} {r:aU} {o:yI} {v:AV} (hi:ops[i]? =some o) (hr:EJ O.P H ops r o\/(r.guard=none/\r.op=bad)) (hv:eP O.prog O.aK self tm hp ct r=some (v,ai,aO))
  (ht:bM O m S w tm a.tmps) (hh:aJ O m S w hp ct) (hn:H.n<=a.tmps.size) {K:Act->yf->Prop}
  (hK:∀u m' S' w',aJ O m' S' w' ai aO->ct<=aO->bM O m' S' w' (put r.dst v tm) (a.put o.dst u).tmps->bK m S w hp m' S' w' ai ct->K (a.put o.dst u) w'):wpOpIn (WF ro) 0 O.P ops Q i K a w:=by
 rcases hr with hr | ⟨h1,h2⟩
 case inr=>
  simp only [eP,h1,kD,h2,bad,aZ,cK,aq] at hv;cases hv
 unfold wpOpIn;simp only [hi];unfold eP at hv
 cases hw:kD tm r.guard with
 | none=>simp [hw] at hv
 | some b=>
  have KC:=Np hr.guard (fun t _=>ht t) hw;have hd:=Ob hr.ok hn;rw [KC]
  cases b with
  | true=>
   simp only [hw] at hv;simp only [yR];refine Oa hC hH hr.op (L6 hr.op hv) hv ht hh (fun u m' S' w' k1 k2 k3 k4=>hK u m' S' w' k1 k2 ?_ k4);rw [hr.dst];exact H0 (ow (fun id p h=>k4.old id p (hh.lt id p h) h) k4.sub (fun b hb=>k4.still b hb) ht) hd k3
  | false=>
   simp only [hw,yb,yg] at hv;obtain ⟨rfl,rfl,rfl⟩:=hv;simp only [yq,yM];refine ⟨fun _ _=>trivial,hK undef m S w hh (yC _) ?_ bK.refl⟩;rw [hr.dst];exact H0 ht hd (by simp [af,an,undef])
def O8 (hC:jI O self) (hH:dY O H):∀(l:List yI) (rs:List aU) (i:Nat) (s s':St) (a:Act) (m:Mp) (S:Nat->Prop) (w:yf),(∀j,l[j]? =ops[i+j]?)->jq O.P H ops rs l->
  cM O.prog O.aK self rs s=some s'->bM O m S w s.tm a.tmps->aJ O m S w s.hp s.ct->H.n<=a.tmps.size->
  (∀a' m' S' w',aJ O m' S' w' s'.hp s'.ct->s.ct<=s'.ct->bM O m' S' w' s'.tm a'.tmps->bK m S w s.hp m' S' w' s'.hp s.ct->a'.tmps.size=a.tmps.size->a'.defers=a.defers->s'.base=s.base->Q .normal a' w')->
  wpOpsIn (WF ro) 0 O.P ops Q (List.range' i l.length) a w
 | [],rs,i,s,s',a,m,S,w,hl,hr,hv,ht,hh,hn,hQ=>by
  cases rs with
  | cons _ _=>simp [jq] at hr
  | nil=>
   simp only [cM,yb] at hv;subst hv;simp only [yZ,List.range'_zero,wpOpsIn];exact hQ a m S w hh (yC _) ht bK.refl rfl rfl rfl
 | o::l,rs,i,s,s',a,m,S,w,hl,hr,hv,ht,hh,hn,hQ=>by
  cases rs with
  | nil=>simp [jq] at hr
  | cons r rs=>
   simp only [jq] at hr;rw [Mx] at hv
   cases h1:eP O.prog O.aK self s.tm s.hp s.ct r with
   | none=>simp [h1] at hv
   | some q=>
    obtain ⟨v,bm,mP⟩:=q;simp only [h1] at hv;have hi:ops[i]? =some o:=by have:=hl 0;simpa using this.symm
    rw [yx,List.range'_succ,wpOpsIn_cons];refine acP hC hH hi hr.1 h1 ht hh hn (fun u m1 S1 w1 k1 k2 k3 k4=>?_)
    refine O8 hC hH l rs (i+1) {s with tm:=put r.dst v s.tm,hp:=bm,ct:=mP} s' _ m1 S1 w1 (fun j=>?_) hr.2 hv k3 k1 (by rw [DW];exact hn) (fun a' m' S' w' g1 g2 g3 g4 g5 g6 g7=>?_)
    ·have:=hl (j+1)
     rw [List.getElem?_cons_succ] at this;rw [this];congr 1;omega
    ·exact hQ a' m' S' w' g1 (xz k2 g2) g3 (k4.trans (g4.mz k2)) (by rw [g5,DW]) (by rw [g6,Hd]) g7
end
end
section
open Go
section
variable {ops:Array yI}
def G2 {acc:List Nat} {i:Nat}:∀{es:List Edge},vm (oK acc es) i=true->∃e,e∈es/\Region.binds .any e=true/\(i=e.on\/vm (acc.getD e.on 0) i=true)
 | [],h=>by simp [oK] at h
 | e::r,h=>by
  simp only [oK] at h
  cases hb:Region.binds .any e with
  | false=>
   rw [hb] at h;obtain ⟨e',h1,h2⟩:=G2 h
   grind
  | true=>
   rw [hb] at h;simp only [yi,Nat.testBit_or,vV] at h;rcases h with (h | h) | h
   ·grind
   ·grind
   ·obtain ⟨e',h1,h2⟩:=G2 h
    grind
def Nq {l:List yI} {acc:List Nat} {j:Nat} (hj:j<acc.length):(iY acc l)[j]? =acc[j]? :=by
 induction l generalizing acc with
 | nil=>rfl
 | cons o l ih=>
  simp only [iY]
  grind
def X5 {l:List yI} {acc:List Nat} {j:Nat} {o:yI} (h:l[j]? =some o):∃rq:List Nat,(iY acc l)[acc.length+j]? =some (oK rq o.after.toList)/\rq.length=acc.length+j/\∀k,k<rq.length->rq[k]? =(iY acc l)[k]? :=by
 induction l generalizing acc j with
 | nil=>simp at h
 | cons x l ih=>
  cases j with
  | zero=>
   simp only [wA,yb] at h;subst h;refine ⟨acc,?_,by simp,fun k hk=>?_⟩
   ·simp only [iY];rw [Nq (by simp)]
    simp
   ·simp only [iY];rw [Nq (by rw [yW];omega),List.getElem?_append_left hk]
  | succ j=>
   obtain ⟨rq,h1,h2,h3⟩:=ih (acc:=acc++[oK acc x.after.toList]) h;simp only [yW,yx,yZ] at h1 h2;refine ⟨rq,?_,by omega,fun k hk=>?_⟩
   ·simp only [iY]
    grind
   ·simp only [iY];exact h3 k hk
def Ord (ops:Array yI) (i j:Nat):Prop:=vm ((iY [] ops.toList).getD j 0) i=true
def I0 (ops:Array yI) (D:Nat->Prop):Prop:=∀j o,ops[j]? =some o->D j->∀e,e∈o.after->Region.binds .any e=true->D e.on
def Nr {D:Nat->Prop} (hc:I0 ops D):∀(j:Nat) (o:yI),ops[j]? =some o->(∀e,e∈o.after->Region.binds .any e=true->D e.on)->∀i,Ord ops i j->D i:=by
 intro j
 induction j using wY with
 | _ j ih=>
  intro o ho hr i hi;have jz:ops.toList[j]? =some o:=by simp_all
  obtain ⟨rq,h1,h2,h3⟩:=X5 (acc:=[]) jz;simp only [yZ,Nat.zero_add] at h1 h2;unfold Ord at hi;rw [List.getD_eq_getElem?_getD,h1,vW] at hi;obtain ⟨e,g1,g2,g3⟩:=G2 hi;have he:D e.on:=hr e (by simpa using g1) g2;rcases g3 with rfl | g3
  ·grind
  ·rcases wj e.on j with aV | kQ
   ·have h4:=h3 e.on (by omega);have hol:e.on<ops.size:=by
     grind
    have Kw:ops[e.on]? =some ops[e.on]:=by simp_all
    refine ih e.on aV _ Kw (fun e' he' db=>hc e.on _ Kw he e' he' db) i ?_;unfold Ord
    grind
   ·grind
def aaK {D:Nat->Prop} (hc:I0 ops D) {i j:Nat} {o:yI} (ho:ops[j]? =some o) (hj:D j) (hi:Ord ops i j):D i:=
 Nr hc j o ho (fun e he hb=>hc j o ho hj e he hb) i hi
def LI:∀{l:List yI} {k j:Nat} {o:yI},AK l k=true->l[j]? =some o->∀e,e∈o.after->Region.binds .any e=true->e.on<k+j
 | [],k,j,o,_,h=>by simp at h
 | x::l,k,j,o,hb,h=>by
  simp only [AK,ye] at hb
  cases j with
  | zero=>
   simp only [wA,yb] at h;subst h;intro e he mN
   have:=List.all_eq_true.1 hb.1 e (by simpa using he)
   simp_all
  | succ j=>
   intro e he mN
   have:=LI hb.2 h e he mN
   omega
end
def E7 (a b:aU) (r:List aU):Prop:=DP a b=false/\(AJ a b=false\/AZ a b r=true)
def LK {m:Nat} {b:aU}:∀{l:List aU} {k i:Nat} {a:aU},DQ m b l k=true->l[i]? =some a->vm m (k+i)=true\/E7 a b (l.drop (i+1))
 | [],k,i,a,_,h=>by simp at h
 | x::l,k,i,a,hp,h=>by
  simp only [DQ,ye] at hp
  cases i with
  | zero=>
   simp only [wA,yb] at h;subst h;have h1:=hp.1;simp only [vV,ua,uI,Bool.and_eq_false_iff,Bool.not_eq_false'] at h1;rcases h1 with h1 | ⟨h1,h2⟩
   ·grind
   ·exact .inr ⟨h1,by simpa using h2⟩
  | succ i=>
   rcases LK hp.2 h with h1 | h1
   ·grind
   ·grind
def LQ:∀{l done:List aU} {ms:List Nat} {i j:Nat} {a b:aU},sN done l ms=true->(done++l)[i]? =some a->l[j]? =some b->i<done.length+j->
  ∃m,ms[j]? =some m/\(vm m i=true\/E7 a b (((done++l).take (done.length+j)).drop (i+1)))
 | [],done,ms,i,j,a,b,_,_,h,_=>by simp at h
 | x::l,done,[],i,j,a,b,hp,_,h,_=>by simp [sN] at hp
 | x::l,done,m::ms,i,j,a,b,hp,ha,h,KD=>by
  simp only [sN,ye] at hp
  cases j with
  | zero=>
   have KE:done[i]? =some a:=by grind
   have:=LK hp.1 KE
   grind
  | succ j=>
   have e:done++x::l=(done++[x])++l:=by simp
   obtain ⟨m',h1,h2⟩:=LQ (i:=i) (a:=a) hp.2 (by rw [<-e];exact ha) h (by simp;omega)
   grind
def Dh {a b:aU} (h:DP a b=false):(∀d,a.dst=some d->d∉qD b/\b.dst≠some d)/\(∀d,b.dst=some d->d∉qD a):=by
 have mem:∀{i:Nat} {l:List Nat},iJ i l=false->i∉l:=by
  intro i l
  induction l with
  | nil=>intro _ h;cases h
  | cons j r ih=>
   intro h hm;simp only [iJ] at h
   cases hb:yk j i with
   | true=>rw [hb] at h;cases h
   | false=>
    simp_all
 simp only [DP,uI] at h;obtain ⟨⟨h1,h2⟩,h3⟩:=h;refine ⟨fun d hd=>⟨mem (by simpa [hd,zn] using h1),fun hb=>?_⟩,fun d hd=>mem (by simpa [hd,zn] using h2)⟩;rw [hd,hb] at h3;simp [RB] at h3
def Mz {t:Nat}:∀{l:List aU},zd t l=true->∀r,r∈l->r.dst≠some t
 | [],_,r,h=>by cases h
 | x::l,h,r,hr=>by
  simp only [zd,ye,ua] at h;rcases wm.1 hr with rfl | hr
  ·intro hd;rw [hd] at h;simp [zn,iJ] at h
  ·exact Mz h.2 r hr
def Hz {sz t:Nat} {ag:Bool}:∀{l:List (Nat×Bool×Nat)},zo sz ag t l=true->(sz,ag,t)∈l
 | [],h=>by simp [zo] at h
 | (s,g,u)::r,h=>by
  simp only [zo,vV,ye] at h;rcases h with ⟨h1,h2,h3⟩ | h
  ·simp_all
  ·exact xU _ (Hz h)
def H2:∀{a b:List Nat},dA a b=true->a=b
 | [],[],_=>rfl
 | [],_::_,h=>by simp [dA] at h
 | _::_,[],h=>by simp [dA] at h
 | x::a,y::b,h=>by
  simp only [dA,ye] at h;rw [yh h.1,H2 h.2]
def Y0 {a b:AV} (h:E3 a b=true):a=b:=by
 unfold E3 at h
 split at h
 ·grind
 ·grind
 ·rw [H2 h]
 ·rfl
 ·rfl
 ·simp_all
 ·simp_all
 ·simp_all
 ·cases h
def LR {tm:Env} {hp ai:Hp} {sz t:Nat} {ag:Bool} {v:AV}:∀{l:List (Nat×Bool×Nat)},lk tm hp ai l=true->(sz,ag,t)∈l->gk hp sz ag (ah tm t)=some v->gk ai sz ag (ah tm t)=some v
 | [],_,h,_=>by cases h
 | (s,g,u)::r,h,hm,hv=>by
  simp only [lk] at h
  cases h1:gk hp s g (ah tm u) with
  | none=>simp [h1] at h
  | some x=>
   cases h2:gk ai s g (ah tm u) with
   | none=>simp [h1,h2] at h
   | some y=>
    simp only [h1,h2,ye] at h;rcases wm.1 hm with e | hm
    ·simp only [yg] at e;obtain ⟨rfl,rfl,rfl⟩:=e;rw [h1] at hv;rw [h2,<-Y0 h.1,hv]
    ·exact LR h.2 hm hv
structure E8 (P:aF) (L:Lib) (run:b9) (rs:List aU) (bG:Nat->Env) (bz:Nat->Hp) (bl:Nat->Nat) (vF:Nat->AV):Prop where
 step:∀i r,rs[i]? =some r->eP P L run (bG i) (bz i) (bl i) r=some (vF i,bz (i+1),bl (i+1))
 tm:∀i r,rs[i]? =some r->bG (i+1)=put r.dst (vF i) (bG i)
def O9 {P:aF} {L:Lib} {self:b9}:∀{rs:List aU} {s s':St},cM P L self rs s=some s'->
  ∃bG bz bl vF,E8 P L self rs bG bz bl vF/\bG 0=s.tm/\bz 0=s.hp/\bl 0=s.ct/\bG rs.length=s'.tm/\bz rs.length=s'.hp/\bl rs.length=s'.ct/\s'.base=s.base
 | [],s,s',h=>by
  simp only [cM,yb] at h;subst h;exact ⟨fun _=>s.tm,fun _=>s.hp,fun _=>s.ct,fun _=> .undef,⟨fun i r h=>by simp at h,fun i r h=>by simp at h⟩,rfl,rfl,rfl,rfl,rfl,rfl,rfl⟩
 | r::rs,s,s',h=>by
  rw [Mx] at h
  cases h1:eP P L self s.tm s.hp s.ct r with
  | none=>simp [h1] at h
  | some q=>
   obtain ⟨v,bm,mP⟩:=q;simp only [h1] at h;obtain ⟨bG,bz,bl,vF,g1,g2,g3,g4,g5,g6,g7,g8⟩:=O9 h;refine ⟨fun i=>match i with | 0=>s.tm | i+1=>bG i,fun i=>match i with | 0=>s.hp | i+1=>bz i,fun i=>match i with | 0=>s.ct | i+1=>bl i,fun i=>match i with | 0=>v | i+1=>vF i,⟨?_,?_⟩,rfl,rfl,rfl,by simpa using g5,by simpa using g6,by simpa using g7,g8⟩
   ·intro i r' hi
    cases i with
    | zero=>
     grind
    | succ i=>exact g1.step i r' (by simpa using hi)
   ·intro i r' hi
    cases i with
    | zero=>
     grind
    | succ i=>exact g1.tm i r' (by simpa using hi)
section
variable {P:aF} {L:Lib} {self:b9} {rs:List aU} {bG:Nat->Env} {bz:Nat->Hp} {bl:Nat->Nat} {vF:Nat->AV}
def AP (hR:E8 P L self rs bG bz bl vF) {t i:Nat}:∀(k:Nat),i+k<=rs.length->(∀j r,i<=j->j<i+k->rs[j]? =some r->r.dst≠some t)->ah (bG (i+k)) t=ah (bG i) t
 | 0,_,_=>rfl
 | k+1,hk,h=>by
  have hr:rs[i+k]? =some rs[i+k]:=by simp_all
  rw [show i+(k+1)=i+k+1 by omega,hR.tm _ _ hr,HY,yE (h (i+k) _ (by omega) (by omega) hr)];exact AP hR k (by omega) (fun j r h1 h2=>h j r h1 (by omega))
def Ns {r:aU} {tm:Env} {hp ai:Hp} {ct aO:Nat} {v:AV} (hk:bh r.op<=1) (hv:eP P L self tm hp ct r=some (v,ai,aO)) (aV:∀id o,ak hp id=some o->id<ct):fy hp ct ai aO:=by
 unfold eP at hv
 cases hw:kD tm r.guard with
 | none=>simp [hw] at hv
 | some b=>
  cases b with
  | true=>simp only [hw] at hv;exact L5 hk hv aV
  | false=>
   simp only [hw,yb,yg] at hv;obtain ⟨rfl,rfl,rfl⟩:=hv;exact fy.refl aV
def DF (hR:E8 P L self rs bG bz bl vF) {i:Nat} (aV:∀id o,ak (bz i) id=some o->id<bl i):∀(k:Nat),i+k<=rs.length->(∀j r,i<=j->j<i+k->rs[j]? =some r->bh r.op<=1)->fy (bz i) (bl i) (bz (i+k)) (bl (i+k))
 | 0,_,_=>fy.refl aV
 | k+1,hk,h=>by
  have ih:=DF hR aV k (by omega) (fun j r h1 h2=>h j r h1 (by omega));have hr:rs[i+k]? =some rs[i+k]:=by simp_all
  exact ih.trans (Ns (h (i+k) _ (by omega) (by omega) hr) (hR.step _ _ hr) ih.lt)
end
end
section
open Go
def DX {tm:Env} {t:Nat}:∀{l:List Nat},t∈l->ah (cN tm l) t=ah tm t
 | [],h=>by cases h
 | i::r,h=>by
  simp only [cN,ah]
  cases hb:yk i t with
  | true=>rw [yh hb];rfl
  | false=>
   rcases wm.1 h with e | h
   ·simp_all
   ·exact DX h
def Y1 {P:aF} {L:Lib} {self:b9} {tm tm':Env} {hp:Hp} {ct:Nat} {o:Op} {r:AV×Hp×Nat} (h:∀t,t∈ie o->ah tm' t=ah tm t) (hv:aZ P L self tm hp ct o=some r):aZ P L self tm' hp ct (jv o)=some r:=by
 cases o with
 | fg rs f xs=>
  simp only [ie,xT] at h;simp only [jv,aZ] at hv ⊢
  rw [cU (x:=f) fun t ht=>h t (.inl ht),qc (xs:=xs) fun t ht=>h t (.inr ht)]
  cases hc:cK P L self hp ct .dyn (aq tm f) (cA tm xs) with
  | none=>simp [hc] at hv
  | some q=>
   obtain ⟨v1,bm,mP⟩:=q;simp only [hc] at hv
   cases hs:lk tm hp bm rs with
   | false=>rw [hs] at hv;cases hv
   | true=>
    rw [hs] at hv;simpa only [lk,yi] using hv
 | gZ rs sz x v=>
  simp only [jv,aZ] at hv ⊢
  rw [sC (o:= .st sz x v) (tm:=tm) h]
  grind
 | call md f xs=>
  rw [<-hv];simp only [ie,xT] at h;simp only [jv,aZ]
  rw [cU (x:=f) fun t ht=>h t (.inl ht),qc (xs:=xs) fun t ht=>h t (.inr ht)]
 | st s x y=>rw [<-hv];exact sC h
 | kK kk x y z=>rw [<-hv];exact sC h
 | kM x=>rw [<-hv];exact sC h
 | cy s b x y=>rw [<-hv];exact sC h
 | kN s x y=>rw [<-hv];exact sC h
 | box s x=>rw [<-hv];simp only [jv,aZ];rw [AA (hp:=hp) h]
 | bw n s z ps=>rw [<-hv];simp only [jv,aZ];rw [AA (hp:=hp) h]
 | eY s b z x y=>rw [<-hv];simp only [jv,aZ];rw [AA (hp:=hp) h]
 | nV=>exact hv
 | kL x=>rw [<-hv];simp only [jv,aZ];rw [AA (hp:=hp) h]
 | _=>rw [<-hv];simp only [jv,aZ];rw [Xs h]
def Oc {P:aF} {L:Lib} {self:b9} {tm:Env} {hp ai:Hp} {ct aO:Nat} {q:Op} {v:AV} (hk:bh q=0\/∃sz ag x,q= .ld sz ag x) (hv:aZ P L self tm hp ct q=some (v,ai,aO)):bf tm hp q=some v/\ai=hp/\aO=ct:=by
 have gN:∀{q:Op},(match bf tm hp q with | some v=>some (v,hp,ct) | none=>(none:eF))=some (v,ai,aO)->bf tm hp q=some v/\ai=hp/\aO=ct:=by grind
 rcases hk with hk | ⟨sz,ag,x,rfl⟩
 ·cases bI:q with
  | call md f xs=>subst bI;cases md<;>simp [bh] at hk
  | fg rs f xs=>subst bI;simp [bh] at hk
  | gZ rs s x y=>subst bI;simp [bh] at hk
  | st s x y=>subst bI;simp [bh] at hk
  | kK kk x y z=>subst bI;simp [bh] at hk
  | kM x=>subst bI;simp [bh] at hk
  | cy s b x y=>subst bI;simp [bh] at hk
  | kN s x y=>subst bI;simp [bh] at hk
  | box s x=>subst bI;simp [bh] at hk
  | bw n s z ps=>subst bI;simp [bh] at hk
  | eY s b z x y=>subst bI;simp [bh] at hk
  | nV=>subst bI;simp [bh] at hk
  | kL x=>subst bI;simp [bh] at hk
  | _=>exact bI▸gN (q:=q) (by rw [bI] at hv ⊢;exact hv)
 ·exact gN (q:= .ld sz ag x) (by simp only [aZ] at hv;exact hv)
section
variable {O:a8} {H:Hint} {ops:Array yI} {rs:List aU} {bG:Nat->Env} {bz:Nat->Hp} {bl:Nat->Nat} {vF:Nat->AV} {self:b9} {ro:Option Nat} {Q:vQ->Act->yf->Prop}
structure mr (O:a8) (H:Hint) (slf:b9) (ops:Array yI) (rs:List aU) (bG:Nat->Env) (bz:Nat->Hp) (bl:Nat->Nat) (vF:Nat->AV):Prop where
 run:E8 O.prog O.aK slf rs bG bz bl vF
 len:rs.length=ops.size
 of:∀(i:Nat) (r:aU) (o:yI),rs[i]? =some r->ops[i]? =some o->EJ O.P H ops r o
 pair:∀(i j:Nat) (a b:aU),i<j->rs[i]? =some a->rs[j]? =some b->Ord ops i j\/E7 a b ((rs.take j).drop (i+1))
 back:∀(i:Nat) (o:yI),ops[i]? =some o->∀e,e∈o.after->Region.binds .any e=true->e.on<i
def gO (rs:List aU) (i:Nat):Prop:=∃r,rs[i]? =some r/\bh r.op=2
def I1 (rs:List aU):∀(k i:Nat),i+k=rs.length->∃c,i<=c/\c<=rs.length/\(∀j,i<=j->j<c->¬gO rs j)/\(c=rs.length\/gO rs c)
 | 0,i,h=>⟨i,yC _,by omega,fun j h1 h2=>by omega,.inl (by omega)⟩
 | k+1,i,h=>by
  rcases wV (gO rs i) with hw | hw
  ·grind
  ·obtain ⟨c,h1,h2,h3,h4⟩:=I1 rs k (i+1) (by omega)
   grind
def A1 {rs:List aU} {i:Nat} {r:aU} (hr:rs[i]? =some r) (hw:¬gO rs i):bh r.op<=1:=by
 have h:bh r.op≠2:=fun e=>hw ⟨r,hr,e⟩
 have:bh r.op<=2:=by
  cases r.op with
  | cY k x lo hi=>cases k<;>simp [bh]
  | len k x=>rcases k with _ | _ | k<;>simp [bh]
  | call md f xs=>cases md<;>simp [bh]
  | _=>simp [bh]
 omega
def FQ (O:a8) (rs:List aU) (bG:Nat->Env) (D:Nat->Prop) (m:Mp) (S:Nat->Prop) (w:yf) (a:Act):Prop:=
 ∀t,∃j,j<=rs.length/\(∀(i:Nat) (r:aU),rs[i]? =some r->r.dst=some t->(D i↔i<j))/\af O.ae m S w (ah (bG j) t) (a.tmps.getD t undef)
def acQ {D:Nat->Prop} {m:Mp} {S:Nat->Prop} {w:yf} {a:Act} {i:Nat} {r:aU} (hG:mr O H self ops rs bG bz bl vF) (hT:FQ O rs bG D m S w a) (hr:rs[i]? =some r) (hi:¬D i)
  (fB:∀j,Ord ops j i->D j) (fZ:∀j,Ord ops i j->¬D j):∀t,t∈qD r->af O.ae m S w (ah (bG i) t) (a.tmps.getD t undef):=by
 intro t ht;obtain ⟨j,h1,h2,h3⟩:=hT t;have zT:i<rs.length:=(xI.1 hr).1;have e:ah (bG j) t=ah (bG i) t:=by
  rcases Nat.le_total j i with hji | KD
  ·obtain ⟨k,rfl⟩:∃k,i=j+k:=⟨i-j,by omega⟩;refine (AP hG.run k (by omega) (fun l rl g1 g2 hl hd=>?_)).symm;rcases hG.pair l (j+k) rl r (by omega) hl hr with ho | hf
   ·grind
   ·exact ((Dh hf.1).1 t hd).1 ht
  ·obtain ⟨k,rfl⟩:∃k,j=i+k:=⟨j-i,by omega⟩;refine AP hG.run k h1 (fun l rl g1 g2 hl hd=>?_);rcases wa g1 with rfl | g1
   ·grind
   ·rcases hG.pair i l r rl g1 hr hl with ho | hf
    ·grind
    ·exact (Dh hf.1).2 t hd ht
 grind
def Pa {D D':Nat->Prop} {m m':Mp} {S S':Nat->Prop} {w w':yf} {a:Act} {i:Nat} {r:aU} {u:yd} (hG:mr O H self ops rs bG bz bl vF) (hT:FQ O rs bG D m S w a) (hr:rs[i]? =some r) (hi:¬D i)
  (fB:∀j,Ord ops j i->D j) (fZ:∀j,Ord ops i j->¬D j) (hD:∀j,D' j↔D j\/j=i) (hm:cE m m') (hS:∀b,S b->S' b) (hw:ej S w w') (hd:∀d,r.dst=some d->d<a.tmps.size)
  (hv:af O.ae m' S' w' (vF i) u):FQ O rs bG D' m' S' w' (a.put r.dst u):=by
 intro t;have zT:i<rs.length:=(xI.1 hr).1;by_cases CG:r.dst=some t
 ·refine ⟨i+1,zT,fun l rl hl KF=>?_,?_⟩
  ·rw [hD];constructor
   ·rintro (h | h)
    ·rcases wj l (i+1) with g | g
     ·grind
     ·rcases hG.pair i l r rl (by omega) hr hl with ho | hf
      ·grind
      ·exact (((Dh hf.1).1 t CG).2 KF).elim
    ·omega
   ·intro h;rcases wa (uh h) with h | h
    ·grind
    ·rcases hG.pair l i rl r h hl hr with ho | hf
     ·grind
     ·exact (((Dh hf.1).1 t KF).2 CG).elim
  ·rw [hG.run.tm i r hr,HY,HZ hd,yS CG,yS CG];exact hv
 ·obtain ⟨j,h1,h2,h3⟩:=hT t;refine ⟨j,h1,fun l rl hl KF=>?_,?_⟩
  ·grind
  ·rw [HZ hd,yE CG];exact iU hm hS hw _ _ h3
def L7 {tm:Env} {hp ai:Hp} {ct aO id off sz KB t:Nat} {ag:Bool} {x y:X} {v v':AV}:∀{l:List (Nat×Bool×Nat)},sT tm id l=true->(sz,ag,t)∈l->aq tm x= .ptr id off->
  cg tm hp ct (.st KB x y)=some (v',ai,aO)->gk hp sz ag (ah tm t)=some v->gk ai sz ag (ah tm t)=some v
 | [],_,h,_,_,_=>by cases h
 | (s,g,u)::r,h,hm,hx,hw,hv=>by
  simp only [sT,ye] at h;rcases wm.1 hm with e | hm
  ·simp only [yg] at e;obtain ⟨rfl,rfl,rfl⟩:=e;have h1:=h.1
   split at h1
   ·rename_i j o hj;have e9:j≠id:=by
     intro e
     simp_all
    rw [hj] at hv ⊢;simp only [cg,hx] at hw;have key:∀ob,ak (aY hp id ob) j=ak hp j:=fun ob=>by rw [mb,yE (yaP e9)]
    split at hw
    ·rename_i pu ex z cs Vk;generalize (yk _ _&&yy _ _&&bY _)=bb at hw
     cases bb with
     | false=>cases hw
     | true=>
      obtain ⟨_,rfl,_⟩:=hw;simp only [gk,key] at hv ⊢;exact hv
    ·cases hw
   ·rename_i cs hj;rw [hj] at hv ⊢;simpa only [gk] using hv
   ·cases h1
  ·exact L7 h.2 hm hx hw hv
def LS {D:Nat->Prop} {i c:Nat} {r:aU} {sz t:Nat} {ag:Bool} (hG:mr O H self ops rs bG bz bl vF) (hr:rs[i]? =some r) (hi:¬D i) (zU:r.guard=none/\r.op= .ld sz ag (.t t)) (hc:c<=rs.length)
  (hW:∀j,j<c->gO rs j->D j) (fZ:∀j,Ord ops i j->¬D j) (aV:∀j,j<=c->∀id o,ak (bz j) id=some o->id<bl j):∀k,i+1+k<=c->gk (bz (i+1+k)) sz ag (ah (bG i) t)=some (vF i)
 | 0,hk=>by
  have h1:=hG.run.step i r hr;simp only [eP,zU.1,kD,zU.2] at h1;obtain ⟨h2,h3,h4⟩:=Oc (.inr ⟨_,_,_,rfl⟩) h1;simp only [bf,aq] at h2
  grind
 | k+1,hk=>by
  have ih:=LS hG hr hi zU hc hW fZ aV k (by omega);have hl:i+1+k<rs.length:=by omega
  have hj:rs[i+1+k]? =some rs[i+1+k]:=by simp [hl]
  have aT:=hG.run.step _ _ hj;rw [show i+1+(k+1)=i+1+k+1 by omega];rcases wV (gO rs (i+1+k)) with hw | hw
  ·have hD:=hW _ (by omega) hw;rcases hG.pair i (i+1+k) r _ (by omega) hr hj with ho | hf
   ·grind
   ·obtain ⟨FR,gA⟩:=hf;obtain ⟨dL,h5,h6⟩:=hw;rw [hj] at h5;injection h5 with h5
    subst h5;rcases gA with gA | gA
    ·have h1k:bh r.op=1:=by rw [zU.2];rfl
     simp only [AJ,h1k,h6] at gA;cases gA
    ·unfold AZ at gA;simp only [zU.1,zU.2] at gA;generalize gL:(rs[i+1+k]).op=q at gA;have RH:zd t (r::(rs.take (i+1+k)).drop (i+1))=true->ah (bG (i+1+k)) t=ah (bG i) t:=by
      intro ai8;have iN:=Mz ai8;rw [show i+1+k=i+(1+k) by omega];refine AP hG.run (1+k) (by omega) (fun l rl g1 g2 Vm=>iN rl ?_);rcases wa g1 with rfl | g1
      ·grind
      ·refine xU _ ?_
       have:((rs.take (i+1+k)).drop (i+1))[l-(i+1)]? =some rl:=by
        rw [List.getElem?_drop,List.getElem?_take_of_lt (by omega),show i+1+(l-(i+1))=l by omega];exact Vm
       exact List.mem_of_getElem? this
     unfold eP at aT
     cases hg:kD (bG (i+1+k)) (rs[i+1+k]).guard with
     | none=>simp [hg] at aT
     | some b=>
      cases b with
      | false=>
       simp only [hg,yb,yg] at aT;rw [<-aT.2.1];exact ih
      | true=>
       simp only [hg,gL] at aT;cases q<;>simp only [yq] at gA
       case fg FT fx xs=>
        simp only [ye] at gA;have JJ:=Hz gA.1;have CH:=RH gA.2;simp only [aZ] at aT
        cases gr:cK O.prog O.aK self (bz (i+1+k)) (bl (i+1+k)) .dyn (aq (bG (i+1+k)) fx) (cA (bG (i+1+k)) xs) with
        | none=>simp [gr] at aT
        | some z=>
         obtain ⟨v1,bm,mP⟩:=z;simp only [gr] at aT
         cases hs:lk (bG (i+1+k)) (bz (i+1+k)) bm FT with
         | false=>rw [hs] at aT;cases aT
         | true=>
          rw [hs] at aT;simp only [yi,yb,yg] at aT;obtain ⟨_,h8,_⟩:=aT;rw [<-h8,<-CH];exact LR hs JJ (by rw [CH];exact ih)
       case gZ FT KB x v=>
        simp only [ye] at gA;have JJ:=Hz gA.1;have CH:=RH gA.2;simp only [aZ] at aT
        split at aT
        ·rename_i id off hx
         cases hs:sT (bG (i+1+k)) id FT with
         | false=>rw [hs] at aT;cases aT
         | true=>
          rw [hs] at aT;simp only [yi] at aT;rw [<-CH];exact L7 hs JJ hx aT (by rw [CH];exact ih)
        ·cases aT
  ·exact O2 (Ns (A1 hj hw) aT (aV _ (by omega))).le ih
structure Inv (O:a8) (ops:Array yI) (rs:List aU) (bG:Nat->Env) (bz:Nat->Hp) (bl:Nat->Nat) (D:Nat->Prop) (m0:Mp) (S0:Nat->Prop) (w0:yf) (n0:Nat) (d0:List yaQ) (st c:Nat) (m:Mp) (S:Nat->Prop) (w:yf) (a:Act):Prop where
 KG:st<=c
 cn:c<=rs.length
 before:∀i,i<st->gO rs i->D i
 zV:∀i,st<=i->i<c->¬gO rs i
 cut:c=rs.length\/(gO rs c/\¬D c)
 behind:∀(i:Nat) (r:aU),c<=i->rs[i]? =some r->1<=bh r.op->¬D i
 hp:aJ O m S w (bz c) (bl c)
 KH:∀id p,m id=some p->id<bl st\/∃i,st<=i/\i<c/\D i/\bl i<=id/\id<bl (i+1)
 tm:FQ O rs bG D m S w a
 FU:bK m0 S0 w0 (bz 0) m S w (bz c) (bl 0)
 ge:bl 0<=bl c
 size:a.tmps.size=n0
 defers:a.defers=d0
 KI:st=0\/gO rs (st-1)
 zW:∀j,j<=c->∀id o,ak (bz j) id=some o->id<bl j
end
end
section
open Go
section
variable {O:a8} {H:Hint} {ops:Array yI} {rs:List aU} {bG:Nat->Env} {bz:Nat->Hp} {bl:Nat->Nat} {vF:Nat->AV} {self:b9} {ro:Option Nat} {Q:vQ->Act->yf->Prop}
variable {D D':Nat->Prop} {m0:Mp} {S0:Nat->Prop} {w0:yf} {n0:Nat} {d0:List yaQ} {st c i:Nat} {m:Mp} {S:Nat->Prop} {w:yf} {a:Act} {r:aU} {o:yI}
def DG (hG:mr O H self ops rs bG bz bl vF) (hI:Inv O ops rs bG bz bl D m0 S0 w0 n0 d0 st c m S w a) {x y:Nat} (hx:st<=x) (hxy:x<=y) (hy:y<=c):fy (bz x) (bl x) (bz y) (bl y):=by
 obtain ⟨k,rfl⟩:∃k,y=x+k:=⟨y-x,by omega⟩
 have:=hI.cn
 exact DF hG.run (hI.zW x (by omega)) k (by omega) (fun j r h1 h2 hr=>A1 hr (hI.zV j (by omega) (by omega)))
def H4 (hG:mr O H self ops rs bG bz bl vF) (hI:Inv O ops rs bG bz bl D m0 S0 w0 n0 d0 st c m S w a) (hr:rs[i]? =some r) (hi:¬D i) (fB:∀j,Ord ops j i->D j) (fZ:∀j,Ord ops i j->¬D j) (hD:∀j,D' j↔D j\/j=i)
  (hd:∀d,r.dst=some d->d<a.tmps.size) (hw:¬gO rs i) (n5:bh r.op=0\/i<c) {m':Mp} {S':Nat->Prop} {w':yf} {u:yd} (k1:aJ O m' S' w' (bz c) (bl c)) (k2:cE m m')
  (k3:∀id p,m' id=some p->m id=some p\/(st<=i/\i<c/\bl i<=id/\id<bl (i+1))) (k4:af O.ae m' S' w' (vF i) u) (k5:bK m S w (bz c) m' S' w' (bz c) (bl c)):
  Inv O ops rs bG bz bl D' m0 S0 w0 n0 d0 st c m' S' w' (a.put r.dst u) where
 KG:=hI.KG
 cn:=hI.cn
 before j hj rV:=(hD j).2 (.inl (hI.before j hj rV))
 zV:=hI.zV
 cut:=hI.cut.imp (fun h=>h) (fun h=>⟨h.1,fun hc=>((hD c).1 hc).elim h.2 (fun e=>hw (e▸h.1))⟩)
 behind j rj hj rW hk CI:=((hD j).1 CI).elim (hI.behind j rj hj rW hk) (fun e=>by
  subst e;rw [hr] at rW;injection rW with rW
  subst rW
  rcases n5 with h | h<;>omega)
 hp:=k1
 KH id p hp:=by
  rcases k3 id p hp with h | ⟨h1,h2,h3,h4⟩
  ·rcases hI.KH id p h with h | ⟨j,g1,g2,g3,g4,g5⟩
   ·exact .inl h
   ·exact .inr ⟨j,g1,g2,(hD j).2 (.inl g3),g4,g5⟩
  ·exact .inr ⟨i,h1,h2,(hD i).2 (.inr rfl),h3,h4⟩
 tm:=Pa hG hI.tm hr hi fB fZ hD k2 k5.sub (fun b hb=>k5.still b hb) hd k4
 FU:=hI.FU.trans (k5.mz hI.ge)
 ge:=hI.ge
 size:=by rw [DW];exact hI.size
 defers:=by rw [Hd];exact hI.defers
 KI:=hI.KI
 zW:=hI.zW
def Pb (hG:mr O H self ops rs bG bz bl vF) (hI:Inv O ops rs bG bz bl D m0 S0 w0 n0 d0 st c m S w a) (hr:rs[c]? =some r) (hi:¬D c) (fB:∀j,Ord ops j c->D j) (fZ:∀j,Ord ops c j->¬D j) (hD:∀j,D' j↔D j\/j=c)
  (hd:∀d,r.dst=some d->d<a.tmps.size) (hw:gO rs c) {m':Mp} {S':Nat->Prop} {w':yf} {u:yd} (k1:aJ O m' S' w' (bz (c+1)) (bl (c+1))) (k2:bl c<=bl (c+1))
  (k4:af O.ae m' S' w' (vF c) u) (k5:bK m S w (bz c) m' S' w' (bz (c+1)) (bl c)):
  ∃c' py,Inv O ops rs bG bz bl D' m0 S0 w0 n0 d0 (c+1) c' m' py w' (a.put r.dst u):=by
 have gr:c<rs.length:=(xI.1 hr).1;obtain ⟨c',h1,h2,h3,h4⟩:=I1 rs (rs.length-(c+1)) (c+1) (by omega);obtain ⟨k,rfl⟩:∃k,c'=c+1+k:=⟨c'-(c+1),by omega⟩;have hg:∀k',k'<=k->fy (bz (c+1)) (bl (c+1)) (bz (c+1+k')) (bl (c+1+k')):=fun k' pE=>
  DF hG.run k1.aV k' (by omega) (fun j r g1 g2 hr=>A1 hr (h3 j g1 (by omega)))
 obtain ⟨py,g1,g2,g3,g4⟩:=DV k1 (hg k (yC _));have hml:cE m m':=fun id p h=>k5.old id p (hI.hp.lt id p h) h
 refine ⟨c+1+k,py,⟨by omega,h2,?_,h3,?_,?_,g1,fun id p h=> .inl (k1.lt id p h),?_,?_,?_,by rw [DW];exact hI.size,by rw [Hd];exact hI.defers,.inr (by simpa using hw),?_⟩⟩
 ·intro j hj rV;rcases wa (uh hj) with e | hj
  ·exact (hD j).2 (.inr e)
  ·rcases wj j st with g | g
   ·exact (hD j).2 (.inl (hI.before j g rV))
   ·exact (hI.zV j g hj rV).elim
 ·refine h4.imp (fun h=>h) (fun h=>⟨h,fun hc=>?_⟩);obtain ⟨rc,KJ,n5⟩:=h;rcases (hD _).1 hc with g | g
  ·exact hI.behind _ rc (by omega) KJ (by omega) g
  ·omega
 ·intro j rj hj rW hk CI;rcases (hD j).1 CI with g | g
  ·exact hI.behind j rj (by omega) rW hk g
  ·omega
 ·exact Pa hG hI.tm hr hi fB fZ hD hml (fun b hb=>g2 b (k5.sub b hb)) (fun b hb=>k5.still b hb) hd (iU (fun _ _ h=>h) g2 (fun _ _=>rfl) _ _ k4)
 ·exact (hI.FU.trans (k5.mz hI.ge)).trans (g4 (bl 0))
 ·have:=(hg k (yC _)).kR
  have:=hI.ge
  omega
 ·intro j hj;rcases wj c j with g | g
  ·obtain ⟨k',rfl⟩:∃k',j=c+1+k':=⟨j-(c+1),by omega⟩;exact (hg k' (by omega)).lt
  ·exact hI.zW j g
def aaL {q:Op} (h:bh q≠2):jv q=q:=by
 cases q<;>first
  | rfl
  | exact absurd rfl h
def MA {x y:aU} {l:List aU} (h:E7 x y l):¬(bh x.op=2/\1<=bh y.op)/\(1<=bh x.op->bh y.op=2->x.guard=none/\∃sz ag t,x.op= .ld sz ag (.t t)):=by
 obtain ⟨_,h⟩:=h;have ex:AZ x y l=true->x.guard=none/\∃sz ag t,x.op= .ld sz ag (.t t):=by
  intro he;unfold AZ at he
  grind
 have k2:∀q:Op,bh q<=2:=fun q=>by
  cases q with
  | cY k x lo hi=>cases k<;>simp [bh]
  | len k x=>rcases k with _ | _ | k<;>simp [bh]
  | call md f xs=>cases md<;>simp [bh]
  | _=>simp [bh]
 constructor
 ·rintro ⟨h1,h2⟩;rcases h with h | h
  ·have:bh y.op=1\/bh y.op=2:=by grind
   rcases this with e | e<;>(simp only [AJ,h1,e] at h;cases h)
  ·obtain ⟨_,sz,ag,t,e⟩:=ex h;rw [e] at h1;cases h1
 ·intro h1 h2;rcases h with h | h
  ·have:bh x.op=1\/bh x.op=2:=by grind
   rcases this with e | e<;>(simp only [AJ,h2,e] at h;cases h)
  ·exact ex h
def aaM (hC:jI O self) (hH:dY O H) (hG:mr O H self ops rs bG bz bl vF) (hn:H.n<=n0) (hI:Inv O ops rs bG bz bl D m0 S0 w0 n0 d0 st c m S w a) (hr:rs[i]? =some r) (ho:ops[i]? =some o) (hi:¬D i)
  (fB:∀j,Ord ops j i->D j) (fZ:∀j,Ord ops i j->¬D j) (hD:∀j,D' j↔D j\/j=i) {K:Act->yf->Prop}
  (hK:∀st' c' m' S' w' a',Inv O ops rs bG bz bl D' m0 S0 w0 n0 d0 st' c' m' S' w' a'->K a' w'):wpOpIn (WF ro) 0 O.P ops Q i K a w:=by
 have cC:=hG.of i r o hr ho;have JK:=acQ hG hI.tm hr hi fB fZ;have aT:=hG.run.step i r hr;have hd:∀d,r.dst=some d->d<a.tmps.size:=by
  rw [cC.dst];exact Ob cC.ok (by rw [hI.size];exact hn)
 have kS:=hI.KG;have kQ:1<=bh r.op->i<=c:=by
  intro hk;rcases wj c i with KK | KK
  ·have zT:i<rs.length:=(xI.1 hr).1;rcases hI.cut with h | ⟨⟨rc,KJ,n5⟩,Cy⟩
   ·omega
   ·rcases hG.pair c i rc r KK KJ hr with h | h
    ·exact (Cy (fB c h)).elim
    ·exact ((MA h).1 ⟨n5,hk⟩).elim
  ·exact KK
 have Vn:gO rs i->i=c:=by
  intro hw;obtain ⟨dL,h1,h2⟩:=hw;rw [hr] at h1;injection h1 with h1
  subst h1;have h3:=kQ (by omega);rcases wa h3 with e | h3
  ·exact e
  ·rcases wj i st with g | g
   ·exact (hi (hI.before i g ⟨r,hr,h2⟩)).elim
   ·exact (hI.zV i g h3 ⟨r,hr,h2⟩).elim
 have aV:1<=bh r.op->¬gO rs i->i<c:=by
  intro hk hw;rcases wa (kQ hk) with e | h
  ·subst e;rcases hI.cut with h | h
   ·have zT:i<rs.length:=(xI.1 hr).1;omega
   ·exact (hw h.1).elim
  ·exact h
 have n5:¬gO rs i->bh r.op=0\/i<c:=fun hw=>by
  rcases xv (bh r.op) with h | h
  ·exact .inl h
  ·exact .inr (aV h hw)
 unfold wpOpIn;simp only [ho];unfold eP at aT
 cases FV:kD (bG i) r.guard with
 | none=>simp [FV] at aT
 | some b=>
  have KC:=Np cC.guard (fun t ht=>JK t (by simp [qD,ht])) FV;rw [KC]
  cases b with
  | false=>
   simp only [FV,yb,yg] at aT;obtain ⟨hv,hh,hc⟩:=aT;simp only [yq,yM];refine ⟨fun _ _=>trivial,?_⟩;have dD:∀m S w,af O.ae m S w (vF i) undef:=fun m S w=>by rw [<-hv];simp [af,an,undef]
   rw [<-cC.dst];rcases wV (gO rs i) with hw | hw
   ·have e:=Vn hw;subst e;obtain ⟨c',py,h⟩:=Pb hG hI hr hi fB fZ hD hd hw (m':=m) (S':=S) (w':=w) (u:=undef) (by rw [<-hh,<-hc];exact hI.hp) (by omega) (dD _ _ _) (by rw [<-hh];exact bK.refl)
    exact hK _ _ _ _ _ _ h
   ·exact hK _ _ _ _ _ _ (H4 hG hI hr hi fB fZ hD hd hw (n5 hw) (m':=m) (S':=S) (w':=w) (u:=undef) hI.hp cE.refl (fun _ _ h=> .inl h) (dD _ _ _) bK.refl)
  | true=>
   simp only [FV] at aT;simp only [yR];have iN:=L6 cC.op aT;have FW:bM O m S w (cN (bG i) (ie r.op)) a.tmps:=fun t=>by
    rcases wV (t∈ie r.op) with h | h
    ·rw [DX h];exact JK t (by simp [qD,h])
    ·have:ah (cN (bG i) (ie r.op)) t= .undef:=by
      clear JK aT;revert h;generalize ie r.op=l;intro h
      induction l with
      | nil=>rfl
      | cons x l ih=>
       simp only [cN,ah];have hx:yk x t=false:=by
        cases hq:yk x t with
        | false=>rfl
        | true=>exact absurd (by rw [yh hq];exact List.mem_cons_self) h
       rw [hx];exact ih (fun h'=>h (xU _ h'))
     rw [this];simp only [af]
   have CJ:aZ O.prog O.aK self (cN (bG i) (ie r.op)) (bz i) (bl i) (jv r.op)=some (vF i,bz (i+1),bl (i+1)):=
    Y1 (fun t ht=>DX ht) aT
   have PS:¬gO rs i->jv r.op=r.op:=fun hw=>aaL (fun h=>hw ⟨r,hr,h⟩)
   have now:¬gO rs i->bf (cN (bG i) (ie r.op)) (bz c) r.op=some (vF i)->Oper.wpIn (WF ro) 0 O.P o a w K Q:=by
    intro hw gN;have gL:∃k,r.op=aW O.P H k o:=by
     rcases cC.op with h | ⟨cc,f,rr,_,_,h⟩ | ⟨_,_,_,_,_,_,_,h⟩
     ·exact h
     ·rw [h] at gN;simp [bf] at gN
     ·rw [h] at gN;simp [bf] at gN
    obtain ⟨k,hk⟩:=gL;rw [hk] at gN;rw [hk] at FW;obtain ⟨u,h1,h2⟩:=OW hH FW hI.hp gN;refine Em iN h1 (.inl rfl) ?_;rw [<-cC.dst];exact hK _ _ _ _ _ _ (H4 hG hI hr hi fB fZ hD hd hw (n5 hw) hI.hp cE.refl (fun _ _ h=> .inl h) h2 bK.refl)
   rcases wV (gO rs i) with hw | hw
   ·have e:=Vn hw;subst e;refine Oa hC hH (X4 cC.op) iN CJ FW hI.hp (fun u m' S' w' k1 k2 k3 k4=>?_);rw [<-cC.dst];obtain ⟨c',py,h⟩:=Pb hG hI hr hi fB fZ hD hd hw k1 k2 k3 k4;exact hK _ _ _ _ _ _ h
   ·rcases xv (bh r.op) with hk | hk
    ·have CJ:=PS hw▸CJ;obtain ⟨h1,_,_⟩:=Oc (.inl hk) CJ;exact now hw (by rw [YS hk (bz c) (bz i)];exact h1)
    ·have zN:=aV hk hw;rcases wj i st with JL | JL
     ·
      rcases hI.KI with h0 | h0
      ·omega
      ·have bm:D (st-1):=hI.before _ (by omega) h0;have e9:i≠st-1:=fun e=>hi (e▸bm)
       obtain ⟨rp,hrp,hkp⟩:=h0;rcases hG.pair i (st-1) r rp (by omega) hr hrp with h | h
       ·exact (fZ _ h bm).elim
       ·obtain ⟨hg,sz,ag,t,gL⟩:=(MA h).2 hk hkp;have hl:=LS (c:=c) hG hr hi ⟨hg,gL⟩ hI.cn (fun j hj rV=>by
         rcases wj j st with g | g
         ·exact hI.before j g rV
         ·exact (hI.zV j g hj rV).elim) fZ hI.zW (c-(i+1)) (by omega)
        rw [show i+1+(c-(i+1))=c by omega] at hl;refine now hw ?_;rw [gL];simp only [bf,aq];rw [DX (by simp [ie,gD])];exact hl
     ·have hX:=DG hG hI (x:=i+1) (y:=c) (by omega) zN (yC _);have CK:=DG hG hI (x:=st) (y:=i) (yC _) JL (by omega)
      refine quiet_step (Hq:=bz c) (cH:=bl c) hC hH (A1 hr hw) cC.op iN (PS hw▸CJ) hX.le hX.kR (hI.zW i (by omega)) ?_ FW hI.hp (fun u m' S' w' k1 k2 k3 k4 k5=>?_)
      ·intro id h1 h2
       cases hm:m id with
       | none=>rfl
       | some p=>
        rcases hI.KH id p hm with h | ⟨j,q1,q2,q3,q4,q5⟩
        ·have:=CK.kR;omega
        ·rcases Nat.lt_trichotomy j i with g | g | g
         ·have:=(DG hG hI (x:=j+1) (y:=i) (by omega) g (by omega)).kR;omega
         ·subst g;exact (hi q3).elim
         ·have:=(DG hG hI (x:=i+1) (y:=j) (by omega) g (by omega)).kR;omega
      ·rw [<-cC.dst];exact hK _ _ _ _ _ _ (H4 hG hI hr hi fB fZ hD hd hw (.inr zN) k1 k2 (fun id p h=>(k3 id p h).imp (fun h=>h) (fun h=>⟨JL,zN,h.1,h.2⟩)) k4 k5)
def left (n:Nat) (listed:Array Bool):Nat:=(List.range n).countP fun i=> !listed.getD i false
def aaN {n:Nat} {listed:Array Bool} {i:Nat} (hi:i<n) (hs:listed.size=n) (hl:listed.getD i true=false):left n (listed.setIfInBounds i true)+1=left n listed:=by
 have key:∀(l:List Nat),l.Nodup->(i∈l->(l.countP fun j=> !(listed.setIfInBounds i true).getD j false)+1=l.countP fun j=> !listed.getD j false)/\(i∉l->(l.countP fun j=> !(listed.setIfInBounds i true).getD j false)=l.countP fun j=> !listed.getD j false):=by
  intro l
  induction l with
  | nil=>intro _;exact ⟨fun h=>(by cases h),fun _=>rfl⟩
  | cons x l ih=>
   intro iN;have hx:x≠i->(listed.setIfInBounds i true).getD x false=listed.getD x false:=fun h=>getD_set_ne false (yaP h)
   refine ⟨fun hm=>?_,fun hm=>?_⟩
   ·rw [tJ,tJ];by_cases e:x=i
    ·simp_all
    ·grind
   ·grind
 exact (key _ List.nodup_range).1 (List.mem_range.2 hi)
def Y2 {n:Nat} {listed:Array Bool} (h:left n listed=0):∀i,i<n->listed.getD i false=true:=by
 unfold left at h
 simp_all
def Y3 {listed:Array Bool} (hs:listed.size=ops.size) (hb:∀(i:Nat) (o:yI),ops[i]? =some o->∀e,e∈o.after->Region.binds .any e=true->e.on<i) (h:Region.ready .any ops listed=[]):∀i,i<ops.size->listed.getD i false=true:=by
 intro i
 induction i using wY with
 | _ i ih=>
  intro hi
  cases hq:listed.getD i false with
  | true=>rfl
  | false=>
   have:i∈Region.ready .any ops listed:=by
    refine mem_ready.2 ⟨?_,ops[i],by simp [hi],fun e he mN=>?_⟩
    ·have aV:i<listed.size:=by omega
     simp only [wh,aV,Array.getElem?_eq_getElem,vW] at hq ⊢;exact hq
    ·have:=hb i ops[i] (by simp [hi]) e he mN
     exact ih e.on this (by omega)
   rw [h] at this;cases this
def acR (hG:mr O H self ops rs bG bz bl vF) (hI:Inv O ops rs bG bz bl D m0 S0 w0 n0 d0 st c m S w a) (ri:∀i,i<rs.length->D i):
  aJ O m S w (bz rs.length) (bl rs.length)/\bM O m S w (bG rs.length) a.tmps/\bK m0 S0 w0 (bz 0) m S w (bz rs.length) (bl 0)/\bl 0<=bl rs.length:=by
 have hc:c=rs.length:=by
  rcases hI.cut with h | ⟨⟨r,h1,_⟩,h2⟩
  ·grind
  ·grind
 subst hc;refine ⟨hI.hp,fun t=>?_,hI.FU,hI.ge⟩;obtain ⟨j,h1,h2,h3⟩:=hI.tm t;obtain ⟨k,hk⟩:∃k,rs.length=j+k:=⟨rs.length-j,by omega⟩
 have:=AP (t:=t) (i:=j) hG.run k (by omega) (fun l r g1 g2 hl hd=>by
  have:=(h2 l r hl hd).1 (ri l (xI.1 hl).1)
  omega)
 grind
def aeX (hC:jI O self) (hH:dY O H) (hG:mr O H self ops rs bG bz bl vF) (hn:H.n<=n0)
  (hQ:∀a' m' S' w',aJ O m' S' w' (bz rs.length) (bl rs.length)->bl 0<=bl rs.length->bM O m' S' w' (bG rs.length) a'.tmps->bK m0 S0 w0 (bz 0) m' S' w' (bz rs.length) (bl 0)->a'.tmps.size=n0->a'.defers=d0->Q .normal a' w'):
  ∀(a7:Nat) (listed:Array Bool) (st c:Nat) (m:Mp) (S:Nat->Prop) (w:yf) (a:Act),listed.size=ops.size->left ops.size listed=a7->I0 ops (fun i=>listed.getD i false=true)->
   Inv O ops rs bG bz bl (fun i=>listed.getD i false=true) m0 S0 w0 n0 d0 st c m S w a->wpAnyIn (WF ro) 0 O.P .any ops Q a7 listed a w:=by
 have fin:∀(listed:Array Bool) (st c:Nat) (m:Mp) (S:Nat->Prop) (w:yf) (a:Act),Inv O ops rs bG bz bl (fun i=>listed.getD i false=true) m0 S0 w0 n0 d0 st c m S w a->(∀i,i<ops.size->listed.getD i false=true)->Q .normal a w:=by
  intro listed st c m S w a hI ri;obtain ⟨h1,h2,h3,h4⟩:=acR hG hI (fun i hi=>ri i (by rw [<-hG.len];exact hi))
  exact hQ a m S w h1 h4 h2 h3 hI.size hI.defers
 intro a7
 induction a7 with
 | zero=>
  intro listed st c m S w a hs hl hc hI;have ri:=Y2 hl;refine ⟨?_,fin listed st c m S w a hI ri⟩;rw [List.eq_nil_iff_forall_not_mem];intro i hm;obtain ⟨h1,o,ho,_⟩:=mem_ready.1 hm
  grind
 | succ a7 ih=>
  intro listed st c m S w a hs hl hc hI;refine ⟨fun h=>fin listed st c m S w a hI (Y3 hs hG.back h),fun i hm=>?_⟩;obtain ⟨h1,o,ho,h2⟩:=mem_ready.1 hm;have hi:i<ops.size:=(Array.getElem?_eq_some_iff.1 ho).1;have hr:rs[i]? =some (rs[i]'(by rw [hG.len];exact hi)):=by simp [hG.len,hi]
  have aV:i<listed.size:=by omega
  have Vo:¬listed.getD i false=true:=by
   grind
  have hD:∀j,(listed.setIfInBounds i true).getD j false=true↔listed.getD j false=true\/j=i:=by
   intro j;by_cases e:j=i
   ·simp_all
   ·rw [getD_set_ne false (yaP e)];simp [e]
  refine aaM hC hH hG hn hI hr ho Vo (Nr hc i o ho h2) (fun j hj CI=>?_) hD (fun st' c' m' S' w' a' hI'=>ih (listed.setIfInBounds i true) st' c' m' S' w' a' (by simp [hs]) ?_ ?_ hI')
  ·have Vi:j<ops.size:=by
    grind
   exact Vo (aaK hc (show ops[j]? =some ops[j] by simp [Vi]) CI hj)
  ·have:=aaN hi hs h1
   omega
  ·intro j oj hoj hj e he hb;rw [hD];rcases (hD j).1 hj with g | g
   ·exact .inl (hc j oj hoj g e he hb)
   ·grind
end
end
end VE
