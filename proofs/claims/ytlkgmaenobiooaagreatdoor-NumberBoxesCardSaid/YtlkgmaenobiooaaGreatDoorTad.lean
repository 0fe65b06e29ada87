import Derived.OrdersIn
import Derived.LoopNIn
import Derived.RangeFuncIn
import Derived.Test.YtlkgmaenobiooaaGreatDoorTac
import Derived.Test.YtlkgmaenobiooaaGreatDoorTaa
set_option linter.all false
set_option maxRecDepth 100000
open Array renaming getD_eq_getD_getElem?→wR,getElem?_eq_some_iff→xp,replicate→uA
open Bool renaming and_eq_true→yg,false_eq_true→yE,not_eq_true'→ud,or_eq_false_iff→yac,or_eq_true→ta
open Classical renaming em→vS
open Go renaming Call→yas,Code→wO,Deferred→tc,Exit→uL,Loop→uR,Oper→yZ,Operand→xu,Program→xe,Value→yf,World→yh
open List renaming countP_cons→yaJ,getElem?_cons_zero→vv,getElem?_eq_some_iff→wv,length_append→yU,length_cons→yx,length_nil→yJ,mem_append→wI,mem_cons→wb,mem_cons_of_mem→xg
open Nat renaming beq→yu,ble→yG,eq_of_beq_eq_true→yo,eq_or_lt_of_le→wP,eq_zero_or_pos→xj,le_of_lt_succ→tF,le_refl→yA,le_trans→yS,lt_of_lt_of_le→yO,lt_or_ge→wU,strongRecOn→vV,testBit→uj,zero_add→yd,zero_le→uF
open Ne renaming symm→ybT
open Option renaming bind_some→xJ,getD_some→vZ
open Option.some renaming injEq→yc
open Prod.mk renaming injEq→yq
namespace VE
section
open Go
section
variable {O:bw} {H:Hint} {m:Mp} {S:Nat->Prop} {w:yh} {tm:Env} {a:Act} {hp aw:Hp} {ct a6:Nat} {self:cN} {ro:Option Nat} {next:Act->yh->Prop} {Q:uL->Act->yh->Prop}
def cC.sE {m':Mp} {S':Nat->Prop} {w':yh} {b b':Nat} (h:cC m S w hp m' S' w' aw b) (hb:b'<=b):cC m S w hp m' S' w' aw b':=
 ⟨h.os,h.tape,h.output,h.size,h.same,h.sub,h.still,h.new,h.own,fun i q hi hq=>h.old i q (by omega) hq,h.loops⟩
def ax6 {hp:Hp} {ct:Nat} {r:AV} (aZ:∀id o,aF hp id=some o->id<ct):∀id o,aF (own hp ct r).2.1 id=some o->id<(own hp ct r).2.2:=by
 have hL:∀(vs:List AV) (hp:Hp) (ct:Nat),(∀id o,aF hp id=some o->id<ct)->∀id o,aF (jQ hp ct vs).2.1 id=some o->id<(jQ hp ct vs).2.2:=by
  intro vs
  induction vs with
  | nil=>intro hp ct h id o ho;exact h id o ho
  | cons v r ih=>intro hp ct h id o ho;exact ih _ _ (Kz h) id o ho
 cases r with
 | af vs=>exact hL vs hp ct aZ
 | _=>exact Kz aZ
def ax7 {hp:Hp} {ct:Nat} {r:AV} (aZ:∀id o,aF hp id=some o->id<ct):∀id o,aF hp id=some o->aF (own hp ct r).2.1 id=some o:=by
 cases r with
 | af vs=>exact O6 aZ
 | _=>exact Vu aZ
def ax8 {hp:Hp} {ct:Nat} {r:AV}:ct<=(own hp ct r).2.2:=by
 cases r with
 | af vs=>exact O5
 | _=>exact O4
def atW {hp:Hp} {ct:Nat} {r:AV}:∀id o,aF (own hp ct r).2.1 id=some o->id<ct->aF hp id=some o:=by
 have h1:∀(hp:Hp) (ct:Nat) (r:AV) id o,aF (fu hp ct r).2.1 id=some o->id<ct->aF hp id=some o:=by
  intro hp ct r id o h hc;cases r<;>simp only [fu] at h<;>try exact h
  rw [ic,yp (by omega)] at h;exact h
 have hL:∀(vs:List AV) (hp:Hp) (ct:Nat) id o,aF (jQ hp ct vs).2.1 id=some o->id<ct->aF hp id=some o:=by
  intro vs
  induction vs with
  | nil=>intro hp ct id o ho _;exact ho
  | cons v r ih=>intro hp ct id o ho hc;exact h1 hp ct v id o (ih _ _ id o ho (by have:=O4 (hp:=hp) (ct:=ct) (r:=v);omega)) hc
 cases r with
 | af vs=>exact hL vs hp ct
 | _=>exact h1 hp ct _
structure iG (hp:Hp) (ct:Nat) (aw:Hp) (a6:Nat):Prop where
 le:dC hp aw
 qH:ct<=a6
 lt:∀id o,aF aw id=some o->id<a6
 back:∀id o,aF aw id=some o->id<ct->∃o',aF hp id=some o'
def iG.refl (aZ:∀id o,aF hp id=some o->id<ct):iG hp ct hp ct:=⟨dC.refl,yA _,aZ,fun _ o h _=>⟨o,h⟩⟩
def iG.trans {LQ:Hp} {al9:Nat} (h:iG hp ct aw a6) (k:iG aw a6 LQ al9):iG hp ct LQ al9:=
 ⟨h.le.trans k.le,yS h.qH k.qH,k.lt,fun id o ho hi=>let ⟨o1,h1⟩:=k.back id o ho (yO hi h.qH);h.back id o1 h1 hi⟩
def afo {PP av:List AV} {bI:Hp} (hz:dc deep hp PP=some (av,bI)) (aZ:∀id o,aF hp id=some o->id<ct):iG hp ct bI ct:=by
 obtain ⟨z1,z2,_⟩:=Uj (O:=⟨default,⟨fun _=>none,fun _=>none⟩,fun _=>0,fun _=>none,fun _=>⟨0,fun _=>none,fun _=>[],fun _=>none,fun _=> .pure,fun _=>[]⟩,default⟩) hz;have hb:∀id o,aF bI id=some o->∃o',aF hp id=some o':=fun id o h=>by
  have:=z2 id
  rw [h] at this
  cases hq:aF hp id with
  | none=>rw [hq] at this;cases this
  | some q=>exact ⟨q,rfl⟩
 exact ⟨z1,yA _,fun id o h=>let ⟨o',h'⟩:=hb id o h;aZ id o' h',fun id o h _=>hb id o h⟩
def ar6 {r:AV} (aZ:∀id o,aF hp id=some o->id<ct):iG hp ct (own hp ct r).2.1 (own hp ct r).2.2:=
 ⟨fun id o h=>⟨o,ax7 aZ id o h,jH.refl o⟩,ax8,ax6 aZ,fun id o h hi=>⟨o,atW id o h hi⟩⟩
def aeg {P:aJ} {L:Lib} {q:Op} {v:AV} (hk:bK q<=1) (hv:bn P L self tm hp ct q=some (v,aw,a6)) (aZ:∀id o,aF hp id=some o->id<ct):iG hp ct aw a6:=by
 have cV:∀{q:Op},(match de tm hp ct q with | some (v,b)=>some (v,(ct,b)::hp,ct+1) | none=>(none:gP))=some (v,aw,a6)->iG hp ct aw a6:=by
  intro q h
  cases hm:de tm hp ct q with
  | none=>simp [hm] at h
  | some r=>
   obtain ⟨v1,b⟩:=r;simp only [hm,yc,yq] at h;obtain ⟨rfl,rfl,rfl⟩:=h;refine ⟨fun id o ho=>⟨o,?_,jH.refl o⟩,by omega,fun id o ho=>?_,fun id o ho hi=>?_⟩
   ·rw [ic,yp (by have:=aZ id o ho;omega)];exact ho
   ·rw [ic] at ho
    grind
   ·rw [ic,yp (by omega)] at ho;exact ⟨o,ho⟩
 have mV:∀{q:Op},(match bH tm hp q with | some v=>some (v,hp,ct) | none=>(none:gP))=some (v,aw,a6)->iG hp ct aw a6:=by
  intro q h
  cases hm:bH tm hp q with
  | none=>simp [hm] at h
  | some r=>
   simp only [hm,yc,yq] at h;obtain ⟨rfl,rfl,rfl⟩:=h;exact iG.refl aZ
 cases cm:q with
 | st _ _ _=>simp [cm,bK] at hk
 | qw _ _ _ _=>simp [cm,bK] at hk
 | qC _=>simp [cm,bK] at hk
 | a7 _ _ _ _=>simp [cm,bK] at hk
 | qD _ _ _=>simp [cm,bK] at hk
 | jA _ _ _=>simp [cm,bK] at hk
 | jT _ _ _ _=>simp [cm,bK] at hk
 | box s x=>exact cV (q:=q) (by rw [cm] at hv ⊢;simp only [bn] at hv;exact hv)
 | cQ n s z ps=>exact cV (q:=q) (by rw [cm] at hv ⊢;simp only [bn] at hv;exact hv)
 | iA s b z x y=>exact cV (q:=q) (by rw [cm] at hv ⊢;simp only [bn] at hv;exact hv)
 | AY=>exact cV (q:=q) (by rw [cm] at hv ⊢;simp only [bn] at hv;exact hv)
 | qB x=>exact cV (q:=q) (by rw [cm] at hv ⊢;simp only [bn] at hv;exact hv)
 | call md x xs=>
  subst cm;simp only [bn,fe] at hv
  split at hv
  ·rename_i g first cap hx
   cases md with
   | heap=>simp [bK] at hk
   | dyn=>simp [bK] at hk
   | pure=>
    simp only at hv
    cases hz:dc deep hp (first++(dK tm xs++cap)) with
    | none=>simp [hz] at hv
    | some z=>
     obtain ⟨av,bI⟩:=z;simp only [hz] at hv
     cases hr:bZ P L self g av with
     | none=>simp [hr] at hv
     | some r=>
      simp only [hr,yc,yq] at hv;obtain ⟨rfl,rfl,rfl⟩:=hv;exact afo hz aZ
   | own=>
    simp only at hv
    cases hz:dc deep hp (first++(dK tm xs++cap)) with
    | none=>simp [hz] at hv
    | some z=>
     obtain ⟨av,bI⟩:=z;simp only [hz] at hv
     cases hr:bZ P L self g av with
     | none=>simp [hr] at hv
     | some r=>
      simp only [hr,yc] at hv;have e2:aw=(own bI ct r).2.1:=by rw [hv]
      have e3:a6=(own bI ct r).2.2:=by rw [hv]
      subst e2;subst e3;have g1:=afo hz aZ;exact g1.trans (ar6 g1.lt)
  ·cases md with
   | heap=>simp [bK] at hk
   | dyn=>simp [bK] at hk
   | _=>simp at hv
  ·cases hv
 | _=>exact mV (q:=q) (by rw [cm] at hv ⊢;simp only [bn] at hv;exact hv)
def OH (hh:aX O m S w hp ct) (hg:iG hp ct aw a6):∃S',aX O m S' w aw a6/\(∀b,S b->S' b)/\(∀b,S' b->S b\/eI m hp b)/\∀base,cC m S w hp m S' w aw base:=by
 have hd:∀id o p,aF aw id=some o->m id=some p->∃o',aF hp id=some o':=fun id o p h hm=>hg.back id o h (hh.lt id p hm)
 obtain ⟨S',g1,g2,g3⟩:=agY hh hg.le hd hg.qH hg.lt;refine ⟨S',g1,g2,g3,fun base=>⟨rfl,rfl,rfl,yA _,fun _ _ _=>rfl,g2,fun _ _=>rfl,fun b hb=>(g3 b hb).imp (fun h=>h) .inl,?_,fun _ _ _ h=>h,fun _ r h=>⟨r,h⟩⟩⟩;rintro b ⟨i,o,p,h1,h2,h3⟩;obtain ⟨o',h4⟩:=hd i o p h1 h2;exact .inl ⟨i,o',p,h4,h2,h3⟩
def atX {q:Op} {v:AV} (hv:dz tm hp ct q=some (v,aw,a6)):ct<=a6:=by
 cases q<;>simp only [dz,reduceCtorEq] at hv
 all_goals
  grind
def U3 {P:xe} {H:Hint} {o:yZ} {rs:List (Nat×Bool×Nat)} {x:X} {xs:List X} (hq:Aq P H (.jA rs x xs) o):∃c f,o.op= .call c/\c.callee= .value f/\x=aT H f/\xs=gY H c.args.toList:=by
 rcases hq with ⟨k,hk⟩ | ⟨c,f,rs',h1,h2,h3⟩ | ⟨_,_,_,_,_,_,_,h3⟩
 ·cases ho:o.op with
  | call c=>
   obtain ⟨callee,args,ts⟩:=c;simp only [bi,ho] at hk
   split at hk
   ·grind
   ·repeat' split at hk
    all_goals first
     | (cases hk;done)
     | (simp only [bad] at hk;cases hk;done)
     | (revert hk;generalize yu _ _=bb;intro hk;cases bb<;>simp [bad] at hk)
   ·simp only [bad] at hk;cases hk
  | binOp op t x' y ty=>
   cases op<;>simp only [bi,ho,sq,zP] at hk
   case eql=>
         repeat' split at hk
         all_goals first
          | (cases hk;done)
          | (simp only [bad] at hk;cases hk;done)
          | (cases da:(P.stoodInHeld t||P.eqGuardType P.depth t)<;>rw [da] at hk<;>simp [bad] at hk)
   case neq=>
         repeat' split at hk
         all_goals first
          | (cases hk;done)
          | (simp only [bad] at hk;cases hk;done)
          | (cases da:(P.stoodInHeld t||P.eqGuardType P.depth t)<;>rw [da] at hk<;>simp [bad] at hk)
   all_goals cases hk
  | buildSlice t n parts=>
   simp only [bi,ho] at hk
   repeat' split at hk
   all_goals first
    | (cases hk;done)
    | (simp only [bad] at hk;cases hk;done)
    | (revert hk;generalize yG _ _=bb;intro hk;cases bb<;>simp [bad] at hk)
  | makeMap t r=>
   cases r<;>simp only [bi,ho] at hk
   ·repeat' split at hk
    all_goals first
     | (cases hk;done)
     | (simp only [bad] at hk;cases hk;done)
   ·simp only [bad] at hk;cases hk
  | next x' b=>
   cases b<;>simp only [bi,ho] at hk
   ·simp only [bad] at hk;cases hk
   ·cases hk
  | _=>
   simp only [bi,ho] at hk
   (repeat' split at hk)
   all_goals first
    | contradiction
    | (cases hk;done)
    | (simp only [bad] at hk;cases hk;done)
 ·simp only [Op.jA.injEq] at h3;exact ⟨c,f,h1,h2,h3.2.1,h3.2.2⟩
 ·cases h3
def aq2 {P:xe} {H:Hint} {o:yZ} {k:Nat} {rs:List (Nat×Bool×Nat)} {sz:Nat} {x y:X} (hk:Op.jT rs sz x y=bi P H k o):False:=by
 cases ho:o.op with
 | call c=>
  obtain ⟨callee,args,ts⟩:=c;simp only [bi,ho] at hk
  split at hk
  ·grind
  ·repeat' split at hk
   all_goals first
    | (cases hk;done)
    | (simp only [bad] at hk;cases hk;done)
    | (revert hk;generalize yu _ _=bb;intro hk;cases bb<;>simp [bad] at hk)
  ·simp only [bad] at hk;cases hk
 | binOp op t x' y ty=>
  cases op<;>simp only [bi,ho,sq,zP] at hk
  case eql=>
        repeat' split at hk
        all_goals first
         | (cases hk;done)
         | (simp only [bad] at hk;cases hk;done)
         | (cases da:(P.stoodInHeld t||P.eqGuardType P.depth t)<;>rw [da] at hk<;>simp [bad] at hk)
  case neq=>
        repeat' split at hk
        all_goals first
         | (cases hk;done)
         | (simp only [bad] at hk;cases hk;done)
         | (cases da:(P.stoodInHeld t||P.eqGuardType P.depth t)<;>rw [da] at hk<;>simp [bad] at hk)
  all_goals cases hk
 | buildSlice t n parts=>
  simp only [bi,ho] at hk
  repeat' split at hk
  all_goals first
   | (cases hk;done)
   | (simp only [bad] at hk;cases hk;done)
   | (revert hk;generalize yG _ _=bb;intro hk;cases bb<;>simp [bad] at hk)
 | makeMap t r=>
  cases r<;>simp only [bi,ho] at hk
  ·repeat' split at hk
   all_goals first
    | (cases hk;done)
    | (simp only [bad] at hk;cases hk;done)
  ·simp only [bad] at hk;cases hk
 | next x' b=>
  cases b<;>simp only [bi,ho] at hk
  ·simp only [bad] at hk;cases hk
  ·cases hk
 | _=>
  simp only [bi,ho] at hk
  (repeat' split at hk)
  all_goals first
   | contradiction
   | (cases hk;done)
   | (simp only [bad] at hk;cases hk;done)
def aBO {P:xe} {H:Hint} {o:yZ} {sz:Nat} {x y:X} (hq:Aq P H (.st sz x y) o):∃t x' y',o.op= .store t x' y'/\cU P t=some sz/\x=aT H x'/\y=aT H y':=by
 obtain ⟨k,hk⟩:∃k,Op.st sz x y=bi P H k o:=by
  rcases hq with h | ⟨_,_,_,_,_,h⟩ | ⟨_,_,_,_,_,_,_,h⟩
  ·grind
  ·grind
  ·cases h
 cases ho:o.op with
 | call c=>
  obtain ⟨callee,args,ts⟩:=c;simp only [bi,ho] at hk
  split at hk
  ·grind
  ·repeat' split at hk
   all_goals first
    | (cases hk;done)
    | (simp only [bad] at hk;cases hk;done)
    | (revert hk;generalize yu _ _=bb;intro hk;cases bb<;>simp [bad] at hk)
  ·simp only [bad] at hk;cases hk
 | binOp op t x' y ty=>
  cases op<;>simp only [bi,ho,sq,zP] at hk
  case eql=>
        repeat' split at hk
        all_goals first
         | (cases hk;done)
         | (simp only [bad] at hk;cases hk;done)
         | (cases da:(P.stoodInHeld t||P.eqGuardType P.depth t)<;>rw [da] at hk<;>simp [bad] at hk)
  case neq=>
        repeat' split at hk
        all_goals first
         | (cases hk;done)
         | (simp only [bad] at hk;cases hk;done)
         | (cases da:(P.stoodInHeld t||P.eqGuardType P.depth t)<;>rw [da] at hk<;>simp [bad] at hk)
  all_goals cases hk
 | buildSlice t n parts=>
  simp only [bi,ho] at hk
  repeat' split at hk
  all_goals first
   | (cases hk;done)
   | (simp only [bad] at hk;cases hk;done)
   | (revert hk;generalize yG _ _=bb;intro hk;cases bb<;>simp [bad] at hk)
 | makeMap t r=>
  cases r<;>simp only [bi,ho] at hk
  ·repeat' split at hk
   all_goals first
    | (cases hk;done)
    | (simp only [bad] at hk;cases hk;done)
  ·simp only [bad] at hk;cases hk
 | next x' b=>
  cases b<;>simp only [bi,ho] at hk
  ·simp only [bad] at hk;cases hk
  ·cases hk
 | store t x' y'=>
  simp only [bi,ho] at hk
  split at hk
  ·rename_i s hs;simp only [Op.st.injEq] at hk;obtain ⟨rfl,rfl,rfl⟩:=hk;exact ⟨t,x',y',rfl,hs,rfl,rfl⟩
  ·simp only [bad] at hk;cases hk
 | _=>
  simp only [bi,ho] at hk
  (repeat' split at hk)
  all_goals first
   | contradiction
   | (cases hk;done)
   | (simp only [bad] at hk;cases hk;done)
def aj3 {P:xe} {H:Hint} {o:yZ} {rs:List (Nat×Bool×Nat)} {sz:Nat} {x y:X} (hq:Aq P H (.jT rs sz x y) o):∃t x' y',o.op= .store t x' y'/\cU P t=some sz/\x=aT H x'/\y=aT H y':=by
 rcases hq with ⟨k,hk⟩ | ⟨_,_,_,_,_,h3⟩ | ⟨t,x',y',sz',rs',h1,h2,h3⟩
 ·exact (aq2 hk).elim
 ·grind
 ·grind
def aq3 {P:xe} {H:Hint} {q:Op} {o:yZ} (hq:Aq P H q o):Aq P H (nE q) o:=by
 cases h:q with
 | jA rs f xs=>
  subst h;obtain ⟨c,f',g1,g2,g3,g4⟩:=U3 hq;exact .inr (.inl ⟨c,f',[],g1,g2,by rw [g3,g4];rfl⟩)
 | jT rs sz x y=>
  subst h;obtain ⟨t,x',y',g1,g2,g3,g4⟩:=aj3 hq;refine .inl ⟨0,?_⟩;simp only [nE,bi,g1,g2,g3,g4]
 | _=>subst h;exact hq
def af9 (hC:og O self) (hH:fM O H) {o:yZ} {q:Op} {v:AV} (hq:Aq O.P H q o) (hd:∀c,o.op≠.defer c) (hv:bn O.prog O.aE self tm hp ct q=some (v,aw,a6))
  (ht:cA O m S w tm a.tmps) (hh:aX O m S w hp ct)
  (hn:∀u m' S' w',aX O m' S' w' aw a6->ct<=a6->an O.aj m' S' w' v u->cC m S w hp m' S' w' aw ct->next (a.put o.dst u) w'):o.wpIn (WF ro) 0 O.P a w next Q:=by
 have quiet:bK q<=1->o.wpIn (WF ro) 0 O.P a w next Q:=by
  intro hk;have hg:=aeg hk hv hh.aZ;obtain ⟨S1,g1,g2,g3,g4⟩:=OH hh hg;refine quiet_step hC hH hk hq hd hv dC.refl (yA _) hh.aZ (fun id h1 h2=>?_) (BL (fun _ _ h=>h) g2 (fun _ _=>rfl) ht) g1 (fun u m' S' w' k1 k2 k3 k4 k5=>hn u m' S' w' k1 hg.qH k4 ((g4 ct).trans (k5.sE hg.qH)))
  cases hm:m id with
  | none=>rfl
  | some p=>have:=hh.lt id p hm;omega
 have aj4:∀{q':Op},(∃k,q'=bi O.P H k o)->dz tm hp ct q'=some (v,aw,a6)->o.wpIn (WF ro) 0 O.P a w next Q:=by
  intro q' gn hw;obtain ⟨k,rfl⟩:=gn;obtain ⟨n,u,w',m',S',h1,h2,h3,h4,h5,h6⟩:=avW hH ht hh hw;exact Pt hd h1 h2 (hn u m' S' w' h3 (atX hw) h4 h6)
 have write:dz tm hp ct q=some (v,aw,a6)->o.wpIn (WF ro) 0 O.P a w next Q:=by
  intro hw;refine aj4 ?_ hw;rcases hq with h | ⟨c,f,rs,_,_,rfl⟩ | ⟨_,_,_,_,_,_,_,rfl⟩
  ·exact h
  ·simp [dz] at hw
  ·simp [dz] at hw
 have heap:∀{c:yas} {f:xu} {g:Nat} {first cap:List AV},o.op= .call c->c.callee= .value f->aG tm (aT H f)= .fn (.f g) first cap->
   ja O.prog O.aE self hp ct g (first++(dK tm (gY H c.args.toList)++cap))=some (v,aw,a6)->o.wpIn (WF ro) 0 O.P a w next Q:=by
  intro c f g first cap ho iT hx he;obtain ⟨fi,ca,h1,h2⟩:=OG hH ht (args:=c.args) hx;refine Oe ho iT h1 (hC.heap _ _ _ _ _ _ _ he m S w _ hh h2) ?_;rintro e w' ⟨u,m',S',rfl,k1,k2,k3,k4⟩;exact ⟨u,rfl,hn u m' S' w' k1 k2 k3 k4⟩
 have round:∀{c:yas} {f:xu} {l:Nat} {x y:List AV},o.op= .call c->c.callee= .value f->aG tm (aT H f)= .fn (.y l) x y->
   oe self hp ct l (dK tm (gY H c.args.toList))=some (v,aw,a6)->o.wpIn (WF ro) 0 O.P a w next Q:=by
  intro c f l x y ho iT hx he;have rf:=cL hH ht f;rw [hx] at rf;simp only [an] at rf;obtain ⟨p,hm,hf⟩:=rf;have gW:=D4 hH ht c.args.toList;obtain ⟨g,tmps,cT,body,h1,h2⟩:=hC.round _ _ _ _ _ _ _ he m S w (c.args.map a.eval) p hh hm (by simpa using gW);refine atV ho iT hf h1 h2 ?_;rintro e w' ⟨u,m',S',rfl,k1,k2,k3,k4⟩;exact ⟨u,rfl,hn u m' S' w' k1 k2 k3 k4⟩
 have dyn:∀{c:yas} {f:xu},o.op= .call c->c.callee= .value f->fe O.prog O.aE self hp ct .dyn (aG tm (aT H f)) (dK tm (gY H c.args.toList))=some (v,aw,a6)->o.wpIn (WF ro) 0 O.P a w next Q:=by
  intro c f ho iT he;unfold fe at he
  split at he
  ·rename_i g first cap hx
   (try simp only at he)
   cases hp0:aO (first++(dK tm (gY H c.args.toList)++cap)) with
   | true=>
    rw [hp0] at he;simp only [yB] at he
    cases hr:bZ O.prog O.aE self g (first++(dK tm (gY H c.args.toList)++cap)) with
    | none=>simp [hr] at he
    | some r=>
     simp only [hr,yc,yq] at he;obtain ⟨rfl,rfl,rfl⟩:=he;obtain ⟨fi,ca,h1,h2⟩:=OG hH ht (args:=c.args) hx;refine Oe ho iT h1 (hC.pure g _ r hr w S _ (Vv hh) hh.slt (zH (fun _ h=>h) (fun _ _=>rfl) _ _ hp0 h2) hp0) ?_;rintro e w' ⟨u,S',rfl,hw,g1,g2,g3,g4⟩;obtain ⟨S2,k1,k2,k3⟩:=afk g4 m;have hS:∀b,S b->S2 b:=fun b hb=>k1 b (g1 b hb)
     have Ni:∀b,S2 b->S b\/w.heap.size<=b:=fun b hb=>(k2 b hb).elim (g2 b) (fun h=> .inr h.1)
     have hl:∀b,S2 b->b<w'.heap.size:=fun b hb=>(k2 b hb).elim (g3 b) (fun h=>h.2)
     exact ⟨u,rfl,hn u m S2 w' (F5 hh hw hS Ni hl) (yA _) k3 (DP hh hw hS Ni)⟩
   | false=>
    rw [hp0] at he;simp only [yM] at he;exact heap ho iT hx he
  ·rename_i l x y hx;exact round ho iT hx he
  ·cases he
 cases cm:q with
 | jA rs x xs=>
  subst cm;simp only [bn] at hv;have key:=U3 hq;obtain ⟨c,f,ho,iT,rfl,rfl⟩:=key
  cases hc:fe O.prog O.aE self hp ct .dyn (aG tm (aT H f)) (dK tm (gY H c.args.toList)) with
  | none=>simp [hc] at hv
  | some r=>
   obtain ⟨v1,bI,zk⟩:=r;simp only [hc] at hv
   cases hs:BU tm hp bI rs with
   | false=>rw [hs] at hv;cases hv
   | true=>
    rw [hs] at hv;simp only [yB,yc,yq] at hv;obtain ⟨rfl,rfl,rfl⟩:=hv;exact dyn ho iT hc
 | call md x xs=>
  subst cm;have gn:∃k,Op.call md x xs=bi O.P H k o:=by
   rcases hq with h | ⟨c,f,rs,_,_,h⟩ | ⟨_,_,_,_,_,_,_,h⟩
   ·exact h
   ·cases h
   ·cases h
  obtain ⟨k,hk⟩:=gn
  cases md with
  | pure=>exact quiet (by simp [bK])
  | own=>exact quiet (by simp [bK])
  | heap=>
   simp only [bn] at hv;obtain ⟨c,f,ho,iT,rfl,rfl⟩:=O7 hk.symm (by rintro rfl;simp [aG,fe] at hv);unfold fe at hv
   split at hv
   ·rename_i g first cap hx;exact heap ho iT hx hv
   ·rename_i l x y hx;exact round ho iT hx hv
   ·cases hv
  | dyn=>
   simp only [bn] at hv;obtain ⟨c,f,ho,iT,rfl,rfl⟩:=O7 hk.symm (by rintro rfl;simp [aG,fe] at hv);exact dyn ho iT hv
 | jT rs s x y=>
  subst cm;obtain ⟨t,x',y',g1,g2,g3,g4⟩:=aj3 hq;simp only [bn] at hv
  split at hv
  ·rename_i id off hx
   cases hf:pG tm id rs with
   | false=>rw [hf] at hv;cases hv
   | true=>
    rw [hf] at hv;simp only [yB] at hv
    exact aj4 (q':= .st s x y) ⟨0,by simp only [bi,g1,g2,g3,g4]⟩ hv
  ·cases hv
 | st s x y=>subst cm;exact write (by simpa only [bn] using hv)
 | qw kk x y z=>subst cm;exact write (by simpa only [bn] using hv)
 | qC x=>subst cm;exact write (by simpa only [bn] using hv)
 | a7 s b x y=>subst cm;exact write (by simpa only [bn] using hv)
 | qD s x y=>subst cm;exact write (by simpa only [bn] using hv)
 | eF k x lo hi=>subst cm;exact quiet (by cases k<;>simp [bK])
 | len k x=>subst cm;exact quiet (by rcases k with _ | _ | k<;>simp [bK])
 | _=>subst cm;exact quiet (by simp [bK])
end
end
section
open Go
def pP (tm:Env) (g:Option (Nat×Bool)):Option Bool:=
 match g with
 | none=>some true
 | some (t,b)=>match ak tm t with | .bool c=>some (c==b) | .af []=>some false | _=>none
def fh (P:aJ) (L:Lib) (self:cN) (tm:Env) (hp:Hp) (ct:Nat) (r:bc):gP:=
 match pP tm r.guard with
 | some true=>bn P L self tm hp ct r.op
 | some false=>some (.af [],hp,ct)
 | none=>none
def aeH {P:aJ} {L:Lib} {self:cN} {r:bc} {rs:List bc} {s:St}:
  dT P L self (r::rs) s=match fh P L self s.tm s.hp s.ct r with | some (v,hp,ct)=>dT P L self rs {s with tm:=put r.dst v s.tm,hp:=hp,ct:=ct} | none=>none:=by
 obtain ⟨d,g,o⟩:=r;simp only [dT,fh]
 cases g with
 | none=>rfl
 | some q=>
  obtain ⟨t,b⟩:=q;simp only [pP];generalize ak s.tm t=x
  cases x with
  | bool c=>
   simp only;cases (c==b)<;>rfl
  | af vs=>cases vs<;>rfl
  | _=>rfl
def ag8 (ops:Array yZ) (g:Option (Nat×Bool)) (g':Option (Nat×Bool)):Prop:=
 (g=none/\g'=none)\/∃t b j,g=some (t,b)/\g'=some (j,b)/\(ops[j]?).bind (·.dst)=some t
structure PQ (P:xe) (H:Hint) (ops:Array yZ) (r:bc) (o:yZ):Prop where
 op:Aq P H r.op o
 dst:r.dst=o.dst
 ok:Lx H o.dst=true
 guard:ag8 ops r.guard o.guard
def nv (P:xe) (H:Hint) (ops:Array yZ):List bc->List yZ->Prop
 | [],[]=>True
 | r::rs,o::l=>(PQ P H ops r o\/(r.guard=none/\r.op=bad))/\nv P H ops rs l
 | _,_=>False
def aeI {P:xe} {H:Hint} {ops:Array yZ}:∀(l:List yZ) (k:Nat),nv P H ops (DW P H ops l k).1 l
 | [],k=>by simp [DW,nv]
 | o::l,k=>by
  have ih:=aeI (P:=P) (H:=H) (ops:=ops) l (k+(bif VR o then 1 else 0));simp only [DW];generalize hq:DW P H ops l (k+(bif VR o then 1 else 0))=q at ih;obtain ⟨l',k'⟩:=q;simp only;have WU:nv P H ops (⟨o.dst,none,bad⟩::l') (o::l):=⟨.inr ⟨rfl,rfl⟩,ih⟩
  cases hg:o.guard with
  | none=>
   simp only
   cases hd:Lx H o.dst with
   | false=>exact WU
   | true=>exact ⟨.inl ⟨.inl ⟨k,rfl⟩,rfl,hd,.inl ⟨rfl,hg⟩⟩,ih⟩
  | some p=>
   obtain ⟨j,b⟩:=p;simp only
   cases ht:(ops[j]?).bind (·.dst) with
   | none=>exact WU
   | some t=>
    simp only
    cases hd:Lx H o.dst with
    | false=>exact WU
    | true=>exact ⟨.inl ⟨.inl ⟨k,rfl⟩,rfl,hd,.inr ⟨t,b,j,rfl,hg,ht⟩⟩,ih⟩
section
variable {O:bw} {H:Hint} {m:Mp} {S:Nat->Prop} {w:yh} {tm:Env} {a:Act} {hp aw:Hp} {ct a6:Nat} {self:cN} {ro:Option Nat} {Q:uL->Act->yh->Prop} {ops:Array yZ}
def U4 {d:Option Nat} {v:AV} {tm:Env} {t:Nat}:ak (put d v tm) t=if d=some t then v else ak tm t:=by
 cases d with
 | none=>simp [put]
 | some i=>
  simp only [put,ak];by_cases h:i=t
  ·subst h;simp
  ·have:yu i t=false:=by
    cases hq:yu i t with
    | false=>rfl
    | true=>exact absurd (yo hq) h
   simp [this,h]
def OI (a:Act) (d:Option Nat) (u:yf):(a.put d u).tmps.size=a.tmps.size:=by
 cases d with
 | none=>rfl
 | some i=>simp [Act.put]
def Un (a:Act) (d:Option Nat) (u:yf):(a.put d u).defers=a.defers:=by
 cases d with
 | none=>rfl
 | some i=>rfl
def U5 {a:Act} {d:Option Nat} {u:yf} {t:Nat} (hd:∀i,d=some i->i<a.tmps.size):(a.put d u).tmps.getD t undef=if d=some t then u else a.tmps.getD t undef:=by
 cases d with
 | none=>simp [Act.put]
 | some i=>
  have hi:=hd i rfl;by_cases h:i=t
  ·subst h;simp [Act.put,hi]
  ·simp only [Act.put,yc,h,y9];simp [Array.getElem?_setIfInBounds_ne h]
def aga {n:Nat} {d:Option Nat} (h:Lx H d=true) (hn:H.n<=n):∀i,d=some i->i<n:=by
 rintro i rfl
 have:=zR.1 h
 omega
def U6 {d:Option Nat} {v:AV} {u:yf} (ht:cA O m S w tm a.tmps) (hd:∀i,d=some i->i<a.tmps.size) (hv:an O.aj m S w v u):cA O m S w (put d v tm) (a.put d u).tmps:=fun t=>by
 rw [U4,U5 hd]
 split
 ·exact hv
 ·exact ht t
def afp {o:yZ} {g:Option (Nat×Bool)} {b:Bool} (hg:ag8 ops g o.guard) (ht:∀t,t∈Wm g->an O.aj m S w (ak tm t) (a.tmps.getD t undef)) (hw:pP tm g=some b):Region.wanted o (yielded ops a.tmps)=b:=by
 rcases hg with ⟨rfl,h2⟩ | ⟨t,c,j,rfl,h2,h3⟩
 ·simp only [pP,yc] at hw;subst hw;simp [Region.wanted,h2]
 ·simp only [pP] at hw;have h4:=ht t (by simp [Wm]);simp only [Region.wanted,h2]
  split at hw
  ·rename_i d hd;rw [hd] at h4;simp only [an] at h4;simp only [yc] at hw
   have:yielded ops a.tmps j=some d:=by
    simp only [yielded,h3,xJ];have h5:a.tmps[t]? =some (.bool d):=by
     simp only [wR] at h4
     cases hq:a.tmps[t]? with
     | none=>rw [hq] at h4;simp [undef] at h4
     | some x=>rw [hq] at h4;simp at h4;rw [h4]
    rw [h5]
   rw [this,<-hw];cases d<;>cases c<;>rfl
  ·rename_i hd;rw [hd] at h4;simp only [an,aA] at h4;obtain ⟨xs,h4,h5⟩:=h4;simp only [yc] at hw;subst hw
   have:yielded ops a.tmps j=none:=by
    simp only [yielded,h3,xJ];simp only [wR] at h4
    cases hq:a.tmps[t]? with
    | none=>rfl
    | some x=>rw [hq] at h4;simp at h4;rw [h4]
   rw [this];rfl
  ·cases hw
def aeh {o:yZ} {q:Op} (hq:Aq O.P H q o) {r:AV×Hp×Nat} (hv:bn O.prog O.aE self tm hp ct q=some r):∀c,o.op≠.defer c:=by
 rcases hq with ⟨k,rfl⟩ | ⟨c,f,rs,h1,_,_⟩ | ⟨_,_,_,_,_,h1,_,_⟩
 ·exact aq0 hv
 ·intro c' h;rw [h1] at h;cases h
 ·intro c' h;rw [h1] at h;cases h
def avY (hC:og O self) (hH:fM O H) {i:Nat} {r:bc} {o:yZ} {v:AV} (hi:ops[i]? =some o) (hr:PQ O.P H ops r o\/(r.guard=none/\r.op=bad)) (hv:fh O.prog O.aE self tm hp ct r=some (v,aw,a6))
  (ht:cA O m S w tm a.tmps) (hh:aX O m S w hp ct) (hn:H.n<=a.tmps.size) {K:Act->yh->Prop}
  (hK:∀u m' S' w',aX O m' S' w' aw a6->ct<=a6->cA O m' S' w' (put r.dst v tm) (a.put o.dst u).tmps->cC m S w hp m' S' w' aw ct->K (a.put o.dst u) w'):wpOpIn (WF ro) 0 O.P ops Q i K a w:=by
 rcases hr with hr | ⟨h1,h2⟩
 case inr=>
  simp only [fh,h1,pP,h2,bad,bn,fe,aG] at hv;cases hv
 unfold wpOpIn;simp only [hi];unfold fh at hv
 cases hw:pP tm r.guard with
 | none=>simp [hw] at hv
 | some b=>
  have hwn:=afp hr.guard (fun t _=>ht t) hw;have hd:=aga hr.ok hn;rw [hwn]
  cases b with
  | true=>
   simp only [hw] at hv;simp only [xm];refine af9 hC hH hr.op (aeh hr.op hv) hv ht hh (fun u m' S' w' k1 k2 k3 k4=>hK u m' S' w' k1 k2 ?_ k4);rw [hr.dst];exact U6 (BL (fun id p h=>k4.old id p (hh.lt id p h) h) k4.sub (fun b hb=>k4.still b hb) ht) hd k3
  | false=>
   simp only [hw,yc,yq] at hv;obtain ⟨rfl,rfl,rfl⟩:=hv;simp only [yE,y9];refine ⟨fun _ _=>trivial,hK undef m S w hh (yA _) ?_ cC.refl⟩;rw [hr.dst];exact U6 ht hd (by simp [an,aA,undef])
def ag9 (hC:og O self) (hH:fM O H):∀(l:List yZ) (rs:List bc) (i:Nat) (s s':St) (a:Act) (m:Mp) (S:Nat->Prop) (w:yh),(∀j,l[j]? =ops[i+j]?)->nv O.P H ops rs l->
  dT O.prog O.aE self rs s=some s'->cA O m S w s.tm a.tmps->aX O m S w s.hp s.ct->H.n<=a.tmps.size->
  (∀a' m' S' w',aX O m' S' w' s'.hp s'.ct->s.ct<=s'.ct->cA O m' S' w' s'.tm a'.tmps->cC m S w s.hp m' S' w' s'.hp s.ct->a'.tmps.size=a.tmps.size->a'.defers=a.defers->s'.base=s.base->Q .normal a' w')->
  wpOpsIn (WF ro) 0 O.P ops Q (List.range' i l.length) a w
 | [],rs,i,s,s',a,m,S,w,hl,hr,hv,ht,hh,hn,hQ=>by
  cases rs with
  | cons _ _=>simp [nv] at hr
  | nil=>
   simp only [dT,yc] at hv;subst hv;simp only [yJ,List.range'_zero,wpOpsIn];exact hQ a m S w hh (yA _) ht cC.refl rfl rfl rfl
 | o::l,rs,i,s,s',a,m,S,w,hl,hr,hv,ht,hh,hn,hQ=>by
  cases rs with
  | nil=>simp [nv] at hr
  | cons r rs=>
   simp only [nv] at hr;rw [aeH] at hv
   cases h1:fh O.prog O.aE self s.tm s.hp s.ct r with
   | none=>simp [h1] at hv
   | some q=>
    obtain ⟨v,bI,zk⟩:=q;simp only [h1] at hv;have hi:ops[i]? =some o:=by have:=hl 0;simpa using this.symm
    rw [yx,List.range'_succ,wpOpsIn_cons];refine avY hC hH hi hr.1 h1 ht hh hn (fun u m1 S1 w1 k1 k2 k3 k4=>?_)
    refine ag9 hC hH l rs (i+1) {s with tm:=put r.dst v s.tm,hp:=bI,ct:=zk} s' _ m1 S1 w1 (fun j=>?_) hr.2 hv k3 k1 (by rw [OI];exact hn) (fun a' m' S' w' g1 g2 g3 g4 g5 g6 g7=>?_)
    ·have:=hl (j+1)
     rw [List.getElem?_cons_succ] at this;rw [this];congr 1;omega
    ·exact hQ a' m' S' w' g1 (yS k2 g2) g3 (k4.trans (g4.sE k2)) (by rw [g5,OI]) (by rw [g6,Un]) g7
end
end
section
open Go
section
variable {ops:Array yZ}
def Ua {acc:List Nat} {i:Nat}:∀{es:List Edge},uj (B9 acc es) i=true->∃e,e∈es/\Region.binds .any e=true/\(i=e.on\/uj (acc.getD e.on 0) i=true)
 | [],h=>by simp [B9] at h
 | e::r,h=>by
  simp only [B9] at h
  cases hb:Region.binds .any e with
  | false=>
   rw [hb] at h;obtain ⟨e',h1,h2⟩:=Ua h
   grind
  | true=>
   rw [hb] at h;simp only [yB,Nat.testBit_or,ta] at h;rcases h with (h | h) | h
   ·grind
   ·grind
   ·obtain ⟨e',h1,h2⟩:=Ua h
    grind
def afq {l:List yZ} {acc:List Nat} {j:Nat} (hj:j<acc.length):(mF acc l)[j]? =acc[j]? :=by
 induction l generalizing acc with
 | nil=>rfl
 | cons o l ih=>
  simp only [mF]
  grind
def aq4 {l:List yZ} {acc:List Nat} {j:Nat} {o:yZ} (h:l[j]? =some o):∃Ey:List Nat,(mF acc l)[acc.length+j]? =some (B9 Ey o.after.toList)/\Ey.length=acc.length+j/\∀k,k<Ey.length->Ey[k]? =(mF acc l)[k]? :=by
 induction l generalizing acc j with
 | nil=>simp at h
 | cons x l ih=>
  cases j with
  | zero=>
   simp only [vv,yc] at h;subst h;refine ⟨acc,?_,by simp,fun k hk=>?_⟩
   ·simp only [mF];rw [afq (by simp)]
    simp
   ·simp only [mF];rw [afq (by rw [yU];omega),List.getElem?_append_left hk]
  | succ j=>
   obtain ⟨Ey,h1,h2,h3⟩:=ih (acc:=acc++[B9 acc x.after.toList]) h;simp only [yU,yx,yJ] at h1 h2;refine ⟨Ey,?_,by omega,fun k hk=>?_⟩
   ·simp only [mF]
    grind
   ·simp only [mF];exact h3 k hk
def Ord (ops:Array yZ) (i j:Nat):Prop:=uj ((mF [] ops.toList).getD j 0) i=true
def VU (ops:Array yZ) (D:Nat->Prop):Prop:=∀j o,ops[j]? =some o->D j->∀e,e∈o.after->Region.binds .any e=true->D e.on
def afr {D:Nat->Prop} (hc:VU ops D):∀(j:Nat) (o:yZ),ops[j]? =some o->(∀e,e∈o.after->Region.binds .any e=true->D e.on)->∀i,Ord ops i j->D i:=by
 intro j
 induction j using vV with
 | _ j ih=>
  intro o ho hr i hi;have nQ:ops.toList[j]? =some o:=by simp_all
  obtain ⟨Ey,h1,h2,h3⟩:=aq4 (acc:=[]) nQ;simp only [yJ,yd] at h1 h2;unfold Ord at hi;rw [List.getD_eq_getElem?_getD,h1,vZ] at hi;obtain ⟨e,g1,g2,g3⟩:=Ua hi;have he:D e.on:=hr e (by simpa using g1) g2;rcases g3 with rfl | g3
  ·grind
  ·rcases wU e.on j with aZ | mh
   ·have h4:=h3 e.on (by omega);have hol:e.on<ops.size:=by
     grind
    have ho2:ops[e.on]? =some ops[e.on]:=by simp_all
    refine ih e.on aZ _ ho2 (fun e' he' da=>hc e.on _ ho2 he e' he' da) i ?_;unfold Ord
    grind
   ·grind
def atY {D:Nat->Prop} (hc:VU ops D) {i j:Nat} {o:yZ} (ho:ops[j]? =some o) (hj:D j) (hi:Ord ops i j):D i:=
 afr hc j o ho (fun e he hb=>hc j o ho hj e he hb) i hi
def adY:∀{l:List yZ} {k j:Nat} {o:yZ},J9 l k=true->l[j]? =some o->∀e,e∈o.after->Region.binds .any e=true->e.on<k+j
 | [],k,j,o,_,h=>by simp at h
 | x::l,k,j,o,hb,h=>by
  simp only [J9,yg] at hb
  cases j with
  | zero=>
   simp only [vv,yc] at h;subst h;intro e he zg
   have:=List.all_eq_true.1 hb.1 e (by simpa using he)
   simp_all
  | succ j=>
   intro e he zg
   have:=adY hb.2 h e he zg
   omega
end
def Qc (a b:bc) (r:List bc):Prop:=OB a b=false/\(J8 a b=false\/Ky a b r=true)
def ad0 {m:Nat} {b:bc}:∀{l:List bc} {k i:Nat} {a:bc},OC m b l k=true->l[i]? =some a->uj m (k+i)=true\/Qc a b (l.drop (i+1))
 | [],k,i,a,_,h=>by simp at h
 | x::l,k,i,a,hp,h=>by
  simp only [OC,yg] at hp
  cases i with
  | zero=>
   simp only [vv,yc] at h;subst h;have h1:=hp.1;simp only [ta,ud,yac,Bool.and_eq_false_iff,Bool.not_eq_false'] at h1;rcases h1 with h1 | ⟨h1,h2⟩
   ·grind
   ·exact .inr ⟨h1,by simpa using h2⟩
  | succ i=>
   rcases ad0 hp.2 h with h1 | h1
   ·grind
   ·grind
def ad3:∀{l done:List bc} {ms:List Nat} {i j:Nat} {a b:bc},Gk done l ms=true->(done++l)[i]? =some a->l[j]? =some b->i<done.length+j->
  ∃m,ms[j]? =some m/\(uj m i=true\/Qc a b (((done++l).take (done.length+j)).drop (i+1)))
 | [],done,ms,i,j,a,b,_,_,h,_=>by simp at h
 | x::l,done,[],i,j,a,b,hp,_,h,_=>by simp [Gk] at hp
 | x::l,done,m::ms,i,j,a,b,hp,ha,h,hij=>by
  simp only [Gk,yg] at hp
  cases j with
  | zero=>
   have Fp:done[i]? =some a:=by grind
   have:=ad0 hp.1 Fp
   grind
  | succ j=>
   have e:done++x::l=(done++[x])++l:=by simp
   obtain ⟨m',h1,h2⟩:=ad3 (i:=i) (a:=a) hp.2 (by rw [<-e];exact ha) h (by simp;omega)
   grind
def N4 {a b:bc} (h:OB a b=false):(∀d,a.dst=some d->d∉D3 b/\b.dst≠some d)/\(∀d,b.dst=some d->d∉D3 a):=by
 have mem:∀{i:Nat} {l:List Nat},lX i l=false->i∉l:=by
  intro i l
  induction l with
  | nil=>intro _ h;cases h
  | cons j r ih=>
   intro h hm;simp only [lX] at h
   cases hb:yu j i with
   | true=>rw [hb] at h;cases h
   | false=>
    simp_all
 simp only [OB,yac] at h;obtain ⟨⟨h1,h2⟩,h3⟩:=h;refine ⟨fun d hd=>⟨mem (by simpa [hd,G8] using h1),fun hb=>?_⟩,fun d hd=>mem (by simpa [hd,G8] using h2)⟩;rw [hd,hb] at h3;simp [alg] at h3
def aeJ {t:Nat}:∀{l:List bc},GV t l=true->∀r,r∈l->r.dst≠some t
 | [],_,r,h=>by cases h
 | x::l,h,r,hr=>by
  simp only [GV,yg,ud] at h;rcases wb.1 hr with rfl | hr
  ·intro hd;rw [hd] at h;simp [G8,lX] at h
  ·exact aeJ h.2 r hr
def UI {sz t:Nat} {ag:Bool}:∀{l:List (Nat×Bool×Nat)},G9 sz ag t l=true->(sz,ag,t)∈l
 | [],h=>by simp [G9] at h
 | (s,g,u)::r,h=>by
  simp only [G9,ta,yg] at h;rcases h with ⟨h1,h2,h3⟩ | h
  ·simp_all
  ·exact xg _ (UI h)
def U7:∀{a b:List Nat},bQ a b=true->a=b
 | [],[],_=>rfl
 | [],_::_,h=>by simp [bQ] at h
 | _::_,[],h=>by simp [bQ] at h
 | x::a,y::b,h=>by
  simp only [bQ,yg] at h;rw [yo h.1,U7 h.2]
def ar7 {a b:AV} (h:WK a b=true):a=b:=by
 unfold WK at h
 split at h
 ·grind
 ·grind
 ·rw [U7 h]
 ·rfl
 ·rfl
 ·simp_all
 ·simp_all
 ·simp_all
 ·cases h
def ad4 {tm:Env} {hp aw:Hp} {sz t:Nat} {ag:Bool} {v:AV}:∀{l:List (Nat×Bool×Nat)},BU tm hp aw l=true->(sz,ag,t)∈l->jf hp sz ag (ak tm t)=some v->jf aw sz ag (ak tm t)=some v
 | [],_,h,_=>by cases h
 | (s,g,u)::r,h,hm,hv=>by
  simp only [BU] at h
  cases h1:jf hp s g (ak tm u) with
  | none=>simp [h1] at h
  | some x=>
   cases h2:jf aw s g (ak tm u) with
   | none=>simp [h1,h2] at h
   | some y=>
    simp only [h1,h2,yg] at h;rcases wb.1 hm with e | hm
    ·simp only [yq] at e;obtain ⟨rfl,rfl,rfl⟩:=e;rw [h1] at hv;rw [h2,<-ar7 h.1,hv]
    ·exact ad4 h.2 hm hv
structure Qd (P:aJ) (L:Lib) (run:cN) (rs:List bc) (cw:Nat->Env) (bY:Nat->Hp) (bT:Nat->Nat) (vF:Nat->AV):Prop where
 step:∀i r,rs[i]? =some r->fh P L run (cw i) (bY i) (bT i) r=some (vF i,bY (i+1),bT (i+1))
 tm:∀i r,rs[i]? =some r->cw (i+1)=put r.dst (vF i) (cw i)
def aha {P:aJ} {L:Lib} {self:cN}:∀{rs:List bc} {s s':St},dT P L self rs s=some s'->
  ∃cw bY bT vF,Qd P L self rs cw bY bT vF/\cw 0=s.tm/\bY 0=s.hp/\bT 0=s.ct/\cw rs.length=s'.tm/\bY rs.length=s'.hp/\bT rs.length=s'.ct/\s'.base=s.base
 | [],s,s',h=>by
  simp only [dT,yc] at h;subst h;exact ⟨fun _=>s.tm,fun _=>s.hp,fun _=>s.ct,fun _=> .undef,⟨fun i r h=>by simp at h,fun i r h=>by simp at h⟩,rfl,rfl,rfl,rfl,rfl,rfl,rfl⟩
 | r::rs,s,s',h=>by
  rw [aeH] at h
  cases h1:fh P L self s.tm s.hp s.ct r with
  | none=>simp [h1] at h
  | some q=>
   obtain ⟨v,bI,zk⟩:=q;simp only [h1] at h;obtain ⟨cw,bY,bT,vF,g1,g2,g3,g4,g5,g6,g7,g8⟩:=aha h;refine ⟨fun i=>match i with | 0=>s.tm | i+1=>cw i,fun i=>match i with | 0=>s.hp | i+1=>bY i,fun i=>match i with | 0=>s.ct | i+1=>bT i,fun i=>match i with | 0=>v | i+1=>vF i,⟨?_,?_⟩,rfl,rfl,rfl,by simpa using g5,by simpa using g6,by simpa using g7,g8⟩
   ·intro i r' hi
    cases i with
    | zero=>
     grind
    | succ i=>exact g1.step i r' (by simpa using hi)
   ·intro i r' hi
    cases i with
    | zero=>
     grind
    | succ i=>exact g1.tm i r' (by simpa using hi)
section
variable {P:aJ} {L:Lib} {self:cN} {rs:List bc} {cw:Nat->Env} {bY:Nat->Hp} {bT:Nat->Nat} {vF:Nat->AV}
def Kd (hR:Qd P L self rs cw bY bT vF) {t i:Nat}:∀(k:Nat),i+k<=rs.length->(∀j r,i<=j->j<i+k->rs[j]? =some r->r.dst≠some t)->ak (cw (i+k)) t=ak (cw i) t
 | 0,_,_=>rfl
 | k+1,hk,h=>by
  have hr:rs[i+k]? =some rs[i+k]:=by simp_all
  rw [show i+(k+1)=i+k+1 by omega,hR.tm _ _ hr,U4,yp (h (i+k) _ (by omega) (by omega) hr)];exact Kd hR k (by omega) (fun j r h1 h2=>h j r h1 (by omega))
def afs {r:bc} {tm:Env} {hp aw:Hp} {ct a6:Nat} {v:AV} (hk:bK r.op<=1) (hv:fh P L self tm hp ct r=some (v,aw,a6)) (aZ:∀id o,aF hp id=some o->id<ct):iG hp ct aw a6:=by
 unfold fh at hv
 cases hw:pP tm r.guard with
 | none=>simp [hw] at hv
 | some b=>
  cases b with
  | true=>simp only [hw] at hv;exact aeg hk hv aZ
  | false=>
   simp only [hw,yc,yq] at hv;obtain ⟨rfl,rfl,rfl⟩:=hv;exact iG.refl aZ
def Oq (hR:Qd P L self rs cw bY bT vF) {i:Nat} (aZ:∀id o,aF (bY i) id=some o->id<bT i):∀(k:Nat),i+k<=rs.length->(∀j r,i<=j->j<i+k->rs[j]? =some r->bK r.op<=1)->iG (bY i) (bT i) (bY (i+k)) (bT (i+k))
 | 0,_,_=>iG.refl aZ
 | k+1,hk,h=>by
  have ih:=Oq hR aZ k (by omega) (fun j r h1 h2=>h j r h1 (by omega));have hr:rs[i+k]? =some rs[i+k]:=by simp_all
  exact ih.trans (afs (h (i+k) _ (by omega) (by omega) hr) (hR.step _ _ hr) ih.lt)
end
end
section
open Go
def OJ {tm:Env} {t:Nat}:∀{l:List Nat},t∈l->ak (eC tm l) t=ak tm t
 | [],h=>by cases h
 | i::r,h=>by
  simp only [eC,ak]
  cases hb:yu i t with
  | true=>rw [yo hb];rfl
  | false=>
   rcases wb.1 h with e | h
   ·simp_all
   ·exact OJ h
def ar8 {P:aJ} {L:Lib} {self:cN} {tm cE:Env} {hp:Hp} {ct:Nat} {o:Op} {r:AV×Hp×Nat} (h:∀t,t∈kY o->ak cE t=ak tm t) (hv:bn P L self tm hp ct o=some r):bn P L self cE hp ct (nE o)=some r:=by
 cases o with
 | jA rs f xs=>
  simp only [kY,wI] at h;simp only [nE,bn] at hv ⊢
  rw [ek (x:=f) fun t ht=>h t (.inl ht),DM (xs:=xs) fun t ht=>h t (.inr ht)]
  cases hc:fe P L self hp ct .dyn (aG tm f) (dK tm xs) with
  | none=>simp [hc] at hv
  | some q=>
   obtain ⟨v1,bI,zk⟩:=q;simp only [hc] at hv
   cases hs:BU tm hp bI rs with
   | false=>rw [hs] at hv;cases hv
   | true=>
    rw [hs] at hv;simpa only [BU,yB] using hv
 | jT rs sz x v=>
  simp only [nE,bn] at hv ⊢
  rw [FX (o:= .st sz x v) (tm:=tm) h]
  grind
 | call md f xs=>
  rw [<-hv];simp only [kY,wI] at h;simp only [nE,bn]
  rw [ek (x:=f) fun t ht=>h t (.inl ht),DM (xs:=xs) fun t ht=>h t (.inr ht)]
 | st s x y=>rw [<-hv];exact FX h
 | qw kk x y z=>rw [<-hv];exact FX h
 | qC x=>rw [<-hv];exact FX h
 | a7 s b x y=>rw [<-hv];exact FX h
 | qD s x y=>rw [<-hv];exact FX h
 | box s x=>rw [<-hv];simp only [nE,bn];rw [JW (hp:=hp) h]
 | cQ n s z ps=>rw [<-hv];simp only [nE,bn];rw [JW (hp:=hp) h]
 | iA s b z x y=>rw [<-hv];simp only [nE,bn];rw [JW (hp:=hp) h]
 | AY=>exact hv
 | qB x=>rw [<-hv];simp only [nE,bn];rw [JW (hp:=hp) h]
 | _=>rw [<-hv];simp only [nE,bn];rw [aqu h]
def agb {P:aJ} {L:Lib} {self:cN} {tm:Env} {hp aw:Hp} {ct a6:Nat} {q:Op} {v:AV} (hk:bK q=0\/∃sz ag x,q= .ld sz ag x) (hv:bn P L self tm hp ct q=some (v,aw,a6)):bH tm hp q=some v/\aw=hp/\a6=ct:=by
 have mV:∀{q:Op},(match bH tm hp q with | some v=>some (v,hp,ct) | none=>(none:gP))=some (v,aw,a6)->bH tm hp q=some v/\aw=hp/\a6=ct:=by grind
 rcases hk with hk | ⟨sz,ag,x,rfl⟩
 ·cases cm:q with
  | call md f xs=>subst cm;cases md<;>simp [bK] at hk
  | jA rs f xs=>subst cm;simp [bK] at hk
  | jT rs s x y=>subst cm;simp [bK] at hk
  | st s x y=>subst cm;simp [bK] at hk
  | qw kk x y z=>subst cm;simp [bK] at hk
  | qC x=>subst cm;simp [bK] at hk
  | a7 s b x y=>subst cm;simp [bK] at hk
  | qD s x y=>subst cm;simp [bK] at hk
  | box s x=>subst cm;simp [bK] at hk
  | cQ n s z ps=>subst cm;simp [bK] at hk
  | iA s b z x y=>subst cm;simp [bK] at hk
  | AY=>subst cm;simp [bK] at hk
  | qB x=>subst cm;simp [bK] at hk
  | _=>exact cm▸mV (q:=q) (by rw [cm] at hv ⊢;exact hv)
 ·exact mV (q:= .ld sz ag x) (by simp only [bn] at hv;exact hv)
section
variable {O:bw} {H:Hint} {ops:Array yZ} {rs:List bc} {cw:Nat->Env} {bY:Nat->Hp} {bT:Nat->Nat} {vF:Nat->AV} {self:cN} {ro:Option Nat} {Q:uL->Act->yh->Prop}
structure sB (O:bw) (H:Hint) (slf:cN) (ops:Array yZ) (rs:List bc) (cw:Nat->Env) (bY:Nat->Hp) (bT:Nat->Nat) (vF:Nat->AV):Prop where
 run:Qd O.prog O.aE slf rs cw bY bT vF
 len:rs.length=ops.size
 of:∀(i:Nat) (r:bc) (o:yZ),rs[i]? =some r->ops[i]? =some o->PQ O.P H ops r o
 pair:∀(i j:Nat) (a b:bc),i<j->rs[i]? =some a->rs[j]? =some b->Ord ops i j\/Qc a b ((rs.take j).drop (i+1))
 back:∀(i:Nat) (o:yZ),ops[i]? =some o->∀e,e∈o.after->Region.binds .any e=true->e.on<i
def jW (rs:List bc) (i:Nat):Prop:=∃r,rs[i]? =some r/\bK r.op=2
def VV (rs:List bc):∀(k i:Nat),i+k=rs.length->∃c,i<=c/\c<=rs.length/\(∀j,i<=j->j<c->¬jW rs j)/\(c=rs.length\/jW rs c)
 | 0,i,h=>⟨i,yA _,by omega,fun j h1 h2=>by omega,.inl (by omega)⟩
 | k+1,i,h=>by
  rcases vS (jW rs i) with hw | hw
  ·grind
  ·obtain ⟨c,h1,h2,h3,h4⟩:=VV rs k (i+1) (by omega)
   grind
def KA {rs:List bc} {i:Nat} {r:bc} (hr:rs[i]? =some r) (hw:¬jW rs i):bK r.op<=1:=by
 have h:bK r.op≠2:=fun e=>hw ⟨r,hr,e⟩
 have:bK r.op<=2:=by
  cases r.op with
  | eF k x lo hi=>cases k<;>simp [bK]
  | len k x=>rcases k with _ | _ | k<;>simp [bK]
  | call md f xs=>cases md<;>simp [bK]
  | _=>simp [bK]
 omega
def SH (O:bw) (rs:List bc) (cw:Nat->Env) (D:Nat->Prop) (m:Mp) (S:Nat->Prop) (w:yh) (a:Act):Prop:=
 ∀t,∃j,j<=rs.length/\(∀(i:Nat) (r:bc),rs[i]? =some r->r.dst=some t->(D i↔i<j))/\an O.aj m S w (ak (cw j) t) (a.tmps.getD t undef)
def avZ {D:Nat->Prop} {m:Mp} {S:Nat->Prop} {w:yh} {a:Act} {i:Nat} {r:bc} (hG:sB O H self ops rs cw bY bT vF) (hT:SH O rs cw D m S w a) (hr:rs[i]? =some r) (hi:¬D i)
  (fj:∀j,Ord ops j i->D j) (gJ:∀j,Ord ops i j->¬D j):∀t,t∈D3 r->an O.aj m S w (ak (cw i) t) (a.tmps.getD t undef):=by
 intro t ht;obtain ⟨j,h1,h2,h3⟩:=hT t;have Iw:i<rs.length:=(wv.1 hr).1;have e:ak (cw j) t=ak (cw i) t:=by
  rcases Nat.le_total j i with hji | hij
  ·obtain ⟨k,rfl⟩:∃k,i=j+k:=⟨i-j,by omega⟩;refine (Kd hG.run k (by omega) (fun l rl g1 g2 hl hd=>?_)).symm;rcases hG.pair l (j+k) rl r (by omega) hl hr with ho | hf
   ·grind
   ·exact ((N4 hf.1).1 t hd).1 ht
  ·obtain ⟨k,rfl⟩:∃k,j=i+k:=⟨j-i,by omega⟩;refine Kd hG.run k h1 (fun l rl g1 g2 hl hd=>?_);rcases wP g1 with rfl | g1
   ·grind
   ·rcases hG.pair i l r rl g1 hr hl with ho | hf
    ·grind
    ·exact (N4 hf.1).2 t hd ht
 grind
def ahb {D D':Nat->Prop} {m m':Mp} {S S':Nat->Prop} {w w':yh} {a:Act} {i:Nat} {r:bc} {u:yf} (hG:sB O H self ops rs cw bY bT vF) (hT:SH O rs cw D m S w a) (hr:rs[i]? =some r) (hi:¬D i)
  (fj:∀j,Ord ops j i->D j) (gJ:∀j,Ord ops i j->¬D j) (hD:∀j,D' j↔D j\/j=i) (hm:dN m m') (hS:∀b,S b->S' b) (hw:fS S w w') (hd:∀d,r.dst=some d->d<a.tmps.size)
  (hv:an O.aj m' S' w' (vF i) u):SH O rs cw D' m' S' w' (a.put r.dst u):=by
 intro t;have Iw:i<rs.length:=(wv.1 hr).1;by_cases Nj:r.dst=some t
 ·refine ⟨i+1,Iw,fun l rl hl hld=>?_,?_⟩
  ·rw [hD];constructor
   ·rintro (h | h)
    ·rcases wU l (i+1) with g | g
     ·grind
     ·rcases hG.pair i l r rl (by omega) hr hl with ho | hf
      ·grind
      ·exact (((N4 hf.1).1 t Nj).2 hld).elim
    ·omega
   ·intro h;rcases wP (tF h) with h | h
    ·grind
    ·rcases hG.pair l i rl r h hl hr with ho | hf
     ·grind
     ·exact (((N4 hf.1).1 t hld).2 Nj).elim
  ·rw [hG.run.tm i r hr,U4,U5 hd,yz Nj,yz Nj];exact hv
 ·obtain ⟨j,h1,h2,h3⟩:=hT t;refine ⟨j,h1,fun l rl hl hld=>?_,?_⟩
  ·grind
  ·rw [U5 hd,yp Nj];exact mv hm hS hw _ _ h3
def aei {tm:Env} {hp aw:Hp} {ct a6 id off sz sz' t:Nat} {ag:Bool} {x y:X} {v v':AV}:∀{l:List (Nat×Bool×Nat)},pG tm id l=true->(sz,ag,t)∈l->aG tm x= .ptr id off->
  dz tm hp ct (.st sz' x y)=some (v',aw,a6)->jf hp sz ag (ak tm t)=some v->jf aw sz ag (ak tm t)=some v
 | [],_,h,_,_,_=>by cases h
 | (s,g,u)::r,h,hm,hx,hw,hv=>by
  simp only [pG,yg] at h;rcases wb.1 hm with e | hm
  ·simp only [yq] at e;obtain ⟨rfl,rfl,rfl⟩:=e;have h1:=h.1
   split at h1
   ·rename_i j o hj;have fQ:j≠id:=by
     intro e
     simp_all
    rw [hj] at hv ⊢;simp only [dz,hx] at hw;have key:∀ob,aF (bf hp id ob) j=aF hp j:=fun ob=>by rw [sc,yp (ybT fQ)]
    split at hw
    ·rename_i pu ex z cs Ix;generalize (yu _ _&&yG _ _&&cr _)=bb at hw
     cases bb with
     | false=>cases hw
     | true=>
      obtain ⟨_,rfl,_⟩:=hw;simp only [jf,key] at hv ⊢;exact hv
    ·cases hw
   ·rename_i cs hj;rw [hj] at hv ⊢;simpa only [jf] using hv
   ·cases h1
  ·exact aei h.2 hm hx hw hv
def ad5 {D:Nat->Prop} {i c:Nat} {r:bc} {sz t:Nat} {ag:Bool} (hG:sB O H self ops rs cw bY bT vF) (hr:rs[i]? =some r) (hi:¬D i) (Iy:r.guard=none/\r.op= .ld sz ag (.t t)) (hc:c<=rs.length)
  (hW:∀j,j<c->jW rs j->D j) (gJ:∀j,Ord ops i j->¬D j) (aZ:∀j,j<=c->∀id o,aF (bY j) id=some o->id<bT j):∀k,i+1+k<=c->jf (bY (i+1+k)) sz ag (ak (cw i) t)=some (vF i)
 | 0,hk=>by
  have h1:=hG.run.step i r hr;simp only [fh,Iy.1,pP,Iy.2] at h1;obtain ⟨h2,h3,h4⟩:=agb (.inr ⟨_,_,_,rfl⟩) h1;simp only [bH,aG] at h2
  grind
 | k+1,hk=>by
  have ih:=ad5 hG hr hi Iy hc hW gJ aZ k (by omega);have hl:i+1+k<rs.length:=by omega
  have hj:rs[i+1+k]? =some rs[i+1+k]:=by simp [hl]
  have aY:=hG.run.step _ _ hj;rw [show i+1+(k+1)=i+1+k+1 by omega];rcases vS (jW rs (i+1+k)) with hw | hw
  ·have hD:=hW _ (by omega) hw;rcases hG.pair i (i+1+k) r _ (by omega) hr hj with ho | hf
   ·grind
   ·obtain ⟨SI,mW⟩:=hf;obtain ⟨fm,h5,h6⟩:=hw;rw [hj] at h5;injection h5 with h5
    subst h5;rcases mW with mW | mW
    ·have h1k:bK r.op=1:=by rw [Iy.2];rfl
     simp only [J8,h1k,h6] at mW;cases mW
    ·unfold Ky at mW;simp only [Iy.1,Iy.2] at mW;generalize gn:(rs[i+1+k]).op=q at mW;have aln:GV t (r::(rs.take (i+1+k)).drop (i+1))=true->ak (cw (i+1+k)) t=ak (cw i) t:=by
      intro aDj;have jI:=aeJ aDj;rw [show i+1+k=i+(1+k) by omega];refine Kd hG.run (1+k) (by omega) (fun l rl g1 g2 hl'=>jI rl ?_);rcases wP g1 with rfl | g1
      ·grind
      ·refine xg _ ?_
       have:((rs.take (i+1+k)).drop (i+1))[l-(i+1)]? =some rl:=by
        rw [List.getElem?_drop,List.getElem?_take_of_lt (by omega),show i+1+(l-(i+1))=l by omega];exact hl'
       exact List.mem_of_getElem? this
     unfold fh at aY
     cases hg:pP (cw (i+1+k)) (rs[i+1+k]).guard with
     | none=>simp [hg] at aY
     | some b=>
      cases b with
      | false=>
       simp only [hg,yc,yq] at aY;rw [<-aY.2.1];exact ih
      | true=>
       simp only [hg,gn] at aY;cases q<;>simp only [yE] at mW
       case jA SJ fx xs=>
        simp only [yg] at mW;have WV:=UI mW.1;have Nk:=aln mW.2;simp only [bn] at aY
        cases lF:fe O.prog O.aE self (bY (i+1+k)) (bT (i+1+k)) .dyn (aG (cw (i+1+k)) fx) (dK (cw (i+1+k)) xs) with
        | none=>simp [lF] at aY
        | some z=>
         obtain ⟨v1,bI,zk⟩:=z;simp only [lF] at aY
         cases hs:BU (cw (i+1+k)) (bY (i+1+k)) bI SJ with
         | false=>rw [hs] at aY;cases aY
         | true=>
          rw [hs] at aY;simp only [yB,yc,yq] at aY;obtain ⟨_,h8,_⟩:=aY;rw [<-h8,<-Nk];exact ad4 hs WV (by rw [Nk];exact ih)
       case jT SJ sz' x v=>
        simp only [yg] at mW;have WV:=UI mW.1;have Nk:=aln mW.2;simp only [bn] at aY
        split at aY
        ·rename_i id off hx
         cases hs:pG (cw (i+1+k)) id SJ with
         | false=>rw [hs] at aY;cases aY
         | true=>
          rw [hs] at aY;simp only [yB] at aY;rw [<-Nk];exact aei hs WV hx aY (by rw [Nk];exact ih)
        ·cases aY
  ·exact ag3 (afs (KA hj hw) aY (aZ _ (by omega))).le ih
structure Inv (O:bw) (ops:Array yZ) (rs:List bc) (cw:Nat->Env) (bY:Nat->Hp) (bT:Nat->Nat) (D:Nat->Prop) (m0:Mp) (S0:Nat->Prop) (w0:yh) (n0:Nat) (d0:List tc) (st c:Nat) (m:Mp) (S:Nat->Prop) (w:yh) (a:Act):Prop where
 stc:st<=c
 cn:c<=rs.length
 before:∀i,i<st->jW rs i->D i
 Iz:∀i,st<=i->i<c->¬jW rs i
 cut:c=rs.length\/(jW rs c/\¬D c)
 behind:∀(i:Nat) (r:bc),c<=i->rs[i]? =some r->1<=bK r.op->¬D i
 hp:aX O m S w (bY c) (bT c)
 dom:∀id p,m id=some p->id<bT st\/∃i,st<=i/\i<c/\D i/\bT i<=id/\id<bT (i+1)
 tm:SH O rs cw D m S w a
 SK:cC m0 S0 w0 (bY 0) m S w (bY c) (bT 0)
 ge:bT 0<=bT c
 size:a.tmps.size=n0
 defers:a.defers=d0
 Dg:st=0\/jW rs (st-1)
 IA:∀j,j<=c->∀id o,aF (bY j) id=some o->id<bT j
end
end
section
open Go
section
variable {O:bw} {H:Hint} {ops:Array yZ} {rs:List bc} {cw:Nat->Env} {bY:Nat->Hp} {bT:Nat->Nat} {vF:Nat->AV} {self:cN} {ro:Option Nat} {Q:uL->Act->yh->Prop}
variable {D D':Nat->Prop} {m0:Mp} {S0:Nat->Prop} {w0:yh} {n0:Nat} {d0:List tc} {st c i:Nat} {m:Mp} {S:Nat->Prop} {w:yh} {a:Act} {r:bc} {o:yZ}
def Ot (hG:sB O H self ops rs cw bY bT vF) (hI:Inv O ops rs cw bY bT D m0 S0 w0 n0 d0 st c m S w a) {x y:Nat} (hx:st<=x) (hxy:x<=y) (hy:y<=c):iG (bY x) (bT x) (bY y) (bT y):=by
 obtain ⟨k,rfl⟩:∃k,y=x+k:=⟨y-x,by omega⟩
 have:=hI.cn
 exact Oq hG.run (hI.IA x (by omega)) k (by omega) (fun j r h1 h2 hr=>KA hr (hI.Iz j (by omega) (by omega)))
def U8 (hG:sB O H self ops rs cw bY bT vF) (hI:Inv O ops rs cw bY bT D m0 S0 w0 n0 d0 st c m S w a) (hr:rs[i]? =some r) (hi:¬D i) (fj:∀j,Ord ops j i->D j) (gJ:∀j,Ord ops i j->¬D j) (hD:∀j,D' j↔D j\/j=i)
  (hd:∀d,r.dst=some d->d<a.tmps.size) (hw:¬jW rs i) (Bi:bK r.op=0\/i<c) {m':Mp} {S':Nat->Prop} {w':yh} {u:yf} (k1:aX O m' S' w' (bY c) (bT c)) (k2:dN m m')
  (k3:∀id p,m' id=some p->m id=some p\/(st<=i/\i<c/\bT i<=id/\id<bT (i+1))) (k4:an O.aj m' S' w' (vF i) u) (k5:cC m S w (bY c) m' S' w' (bY c) (bT c)):
  Inv O ops rs cw bY bT D' m0 S0 w0 n0 d0 st c m' S' w' (a.put r.dst u) where
 stc:=hI.stc
 cn:=hI.cn
 before j hj Fs:=(hD j).2 (.inl (hI.before j hj Fs))
 Iz:=hI.Iz
 cut:=hI.cut.imp (fun h=>h) (fun h=>⟨h.1,fun hc=>((hD c).1 hc).elim h.2 (fun e=>hw (e▸h.1))⟩)
 behind j rj hj Ft hk Nl:=((hD j).1 Nl).elim (hI.behind j rj hj Ft hk) (fun e=>by
  subst e;rw [hr] at Ft;injection Ft with Ft
  subst Ft
  rcases Bi with h | h<;>omega)
 hp:=k1
 dom id p hp:=by
  rcases k3 id p hp with h | ⟨h1,h2,h3,h4⟩
  ·rcases hI.dom id p h with h | ⟨j,g1,g2,g3,g4,g5⟩
   ·exact .inl h
   ·exact .inr ⟨j,g1,g2,(hD j).2 (.inl g3),g4,g5⟩
  ·exact .inr ⟨i,h1,h2,(hD i).2 (.inr rfl),h3,h4⟩
 tm:=ahb hG hI.tm hr hi fj gJ hD k2 k5.sub (fun b hb=>k5.still b hb) hd k4
 SK:=hI.SK.trans (k5.sE hI.ge)
 ge:=hI.ge
 size:=by rw [OI];exact hI.size
 defers:=by rw [Un];exact hI.defers
 Dg:=hI.Dg
 IA:=hI.IA
def ahc (hG:sB O H self ops rs cw bY bT vF) (hI:Inv O ops rs cw bY bT D m0 S0 w0 n0 d0 st c m S w a) (hr:rs[c]? =some r) (hi:¬D c) (fj:∀j,Ord ops j c->D j) (gJ:∀j,Ord ops c j->¬D j) (hD:∀j,D' j↔D j\/j=c)
  (hd:∀d,r.dst=some d->d<a.tmps.size) (hw:jW rs c) {m':Mp} {S':Nat->Prop} {w':yh} {u:yf} (k1:aX O m' S' w' (bY (c+1)) (bT (c+1))) (k2:bT c<=bT (c+1))
  (k4:an O.aj m' S' w' (vF c) u) (k5:cC m S w (bY c) m' S' w' (bY (c+1)) (bT c)):
  ∃c' C8,Inv O ops rs cw bY bT D' m0 S0 w0 n0 d0 (c+1) c' m' C8 w' (a.put r.dst u):=by
 have lF:c<rs.length:=(wv.1 hr).1;obtain ⟨c',h1,h2,h3,h4⟩:=VV rs (rs.length-(c+1)) (c+1) (by omega);obtain ⟨k,rfl⟩:∃k,c'=c+1+k:=⟨c'-(c+1),by omega⟩;have hg:∀k',k'<=k->iG (bY (c+1)) (bT (c+1)) (bY (c+1+k')) (bT (c+1+k')):=fun k' Ba=>
  Oq hG.run k1.aZ k' (by omega) (fun j r g1 g2 hr=>KA hr (h3 j g1 (by omega)))
 obtain ⟨C8,g1,g2,g3,g4⟩:=OH k1 (hg k (yA _));have hml:dN m m':=fun id p h=>k5.old id p (hI.hp.lt id p h) h
 refine ⟨c+1+k,C8,⟨by omega,h2,?_,h3,?_,?_,g1,fun id p h=> .inl (k1.lt id p h),?_,?_,?_,by rw [OI];exact hI.size,by rw [Un];exact hI.defers,.inr (by simpa using hw),?_⟩⟩
 ·intro j hj Fs;rcases wP (tF hj) with e | hj
  ·exact (hD j).2 (.inr e)
  ·rcases wU j st with g | g
   ·exact (hD j).2 (.inl (hI.before j g Fs))
   ·exact (hI.Iz j g hj Fs).elim
 ·refine h4.imp (fun h=>h) (fun h=>⟨h,fun hc=>?_⟩);obtain ⟨rc,hrc,Bi⟩:=h;rcases (hD _).1 hc with g | g
  ·exact hI.behind _ rc (by omega) hrc (by omega) g
  ·omega
 ·intro j rj hj Ft hk Nl;rcases (hD j).1 Nl with g | g
  ·exact hI.behind j rj (by omega) Ft hk g
  ·omega
 ·exact ahb hG hI.tm hr hi fj gJ hD hml (fun b hb=>g2 b (k5.sub b hb)) (fun b hb=>k5.still b hb) hd (mv (fun _ _ h=>h) g2 (fun _ _=>rfl) _ _ k4)
 ·exact (hI.SK.trans (k5.sE hI.ge)).trans (g4 (bT 0))
 ·have:=(hg k (yA _)).qH
  have:=hI.ge
  omega
 ·intro j hj;rcases wU c j with g | g
  ·obtain ⟨k',rfl⟩:∃k',j=c+1+k':=⟨j-(c+1),by omega⟩;exact (hg k' (by omega)).lt
  ·exact hI.IA j g
def atZ {q:Op} (h:bK q≠2):nE q=q:=by
 cases q<;>first
  | rfl
  | exact absurd rfl h
def aeK {x y:bc} {l:List bc} (h:Qc x y l):¬(bK x.op=2/\1<=bK y.op)/\(1<=bK x.op->bK y.op=2->x.guard=none/\∃sz ag t,x.op= .ld sz ag (.t t)):=by
 obtain ⟨_,h⟩:=h;have ex:Ky x y l=true->x.guard=none/\∃sz ag t,x.op= .ld sz ag (.t t):=by
  intro he;unfold Ky at he
  grind
 have k2:∀q:Op,bK q<=2:=fun q=>by
  cases q with
  | eF k x lo hi=>cases k<;>simp [bK]
  | len k x=>rcases k with _ | _ | k<;>simp [bK]
  | call md f xs=>cases md<;>simp [bK]
  | _=>simp [bK]
 constructor
 ·rintro ⟨h1,h2⟩;rcases h with h | h
  ·have:bK y.op=1\/bK y.op=2:=by grind
   rcases this with e | e<;>(simp only [J8,h1,e] at h;cases h)
  ·obtain ⟨_,sz,ag,t,e⟩:=ex h;rw [e] at h1;cases h1
 ·intro h1 h2;rcases h with h | h
  ·have:bK x.op=1\/bK x.op=2:=by grind
   rcases this with e | e<;>(simp only [J8,h2,e] at h;cases h)
  ·exact ex h
def at0 (hC:og O self) (hH:fM O H) (hG:sB O H self ops rs cw bY bT vF) (hn:H.n<=n0) (hI:Inv O ops rs cw bY bT D m0 S0 w0 n0 d0 st c m S w a) (hr:rs[i]? =some r) (ho:ops[i]? =some o) (hi:¬D i)
  (fj:∀j,Ord ops j i->D j) (gJ:∀j,Ord ops i j->¬D j) (hD:∀j,D' j↔D j\/j=i) {K:Act->yh->Prop}
  (hK:∀st' c' m' S' w' a',Inv O ops rs cw bY bT D' m0 S0 w0 n0 d0 st' c' m' S' w' a'->K a' w'):wpOpIn (WF ro) 0 O.P ops Q i K a w:=by
 have dw:=hG.of i r o hr ho;have WW:=avZ hG hI.tm hr hi fj gJ;have aY:=hG.run.step i r hr;have hd:∀d,r.dst=some d->d<a.tmps.size:=by
  rw [dw.dst];exact aga dw.ok (by rw [hI.size];exact hn)
 have lJ:=hI.stc;have mh:1<=bK r.op->i<=c:=by
  intro hk;rcases wU c i with hci | hci
  ·have Iw:i<rs.length:=(wv.1 hr).1;rcases hI.cut with h | ⟨⟨rc,hrc,Bi⟩,M9⟩
   ·omega
   ·rcases hG.pair c i rc r hci hrc hr with h | h
    ·exact (M9 (fj c h)).elim
    ·exact ((aeK h).1 ⟨Bi,hk⟩).elim
  ·exact hci
 have hwc:jW rs i->i=c:=by
  intro hw;obtain ⟨fm,h1,h2⟩:=hw;rw [hr] at h1;injection h1 with h1
  subst h1;have h3:=mh (by omega);rcases wP h3 with e | h3
  ·exact e
  ·rcases wU i st with g | g
   ·exact (hi (hI.before i g ⟨r,hr,h2⟩)).elim
   ·exact (hI.Iz i g h3 ⟨r,hr,h2⟩).elim
 have aZ:1<=bK r.op->¬jW rs i->i<c:=by
  intro hk hw;rcases wP (mh hk) with e | h
  ·subst e;rcases hI.cut with h | h
   ·have Iw:i<rs.length:=(wv.1 hr).1;omega
   ·exact (hw h.1).elim
  ·exact h
 have Bi:¬jW rs i->bK r.op=0\/i<c:=fun hw=>by
  rcases xj (bK r.op) with h | h
  ·exact .inl h
  ·exact .inr (aZ h hw)
 unfold wpOpIn;simp only [ho];unfold fh at aY
 cases SL:pP (cw i) r.guard with
 | none=>simp [SL] at aY
 | some b=>
  have hwn:=afp dw.guard (fun t ht=>WW t (by simp [D3,ht])) SL;rw [hwn]
  cases b with
  | false=>
   simp only [SL,yc,yq] at aY;obtain ⟨hv,hh,hc⟩:=aY;simp only [yE,y9];refine ⟨fun _ _=>trivial,?_⟩;have eD:∀m S w,an O.aj m S w (vF i) undef:=fun m S w=>by rw [<-hv];simp [an,aA,undef]
   rw [<-dw.dst];rcases vS (jW rs i) with hw | hw
   ·have e:=hwc hw;subst e;obtain ⟨c',C8,h⟩:=ahc hG hI hr hi fj gJ hD hd hw (m':=m) (S':=S) (w':=w) (u:=undef) (by rw [<-hh,<-hc];exact hI.hp) (by omega) (eD _ _ _) (by rw [<-hh];exact cC.refl)
    exact hK _ _ _ _ _ _ h
   ·exact hK _ _ _ _ _ _ (U8 hG hI hr hi fj gJ hD hd hw (Bi hw) (m':=m) (S':=S) (w':=w) (u:=undef) hI.hp dN.refl (fun _ _ h=> .inl h) (eD _ _ _) cC.refl)
  | true=>
   simp only [SL] at aY;simp only [xm];have jI:=aeh dw.op aY;have SM:cA O m S w (eC (cw i) (kY r.op)) a.tmps:=fun t=>by
    rcases vS (t∈kY r.op) with h | h
    ·rw [OJ h];exact WW t (by simp [D3,h])
    ·have:ak (eC (cw i) (kY r.op)) t= .undef:=by
      clear WW aY;revert h;generalize kY r.op=l;intro h
      induction l with
      | nil=>rfl
      | cons x l ih=>
       simp only [eC,ak];have hx:yu x t=false:=by
        cases hq:yu x t with
        | false=>rfl
        | true=>exact absurd (by rw [yo hq];exact List.mem_cons_self) h
       rw [hx];exact ih (fun h'=>h (xg _ h'))
     rw [this];simp only [an]
   have Fu:bn O.prog O.aE self (eC (cw i) (kY r.op)) (bY i) (bT i) (nE r.op)=some (vF i,bY (i+1),bT (i+1)):=
    ar8 (fun t ht=>OJ ht) aY
   have aj5:¬jW rs i->nE r.op=r.op:=fun hw=>atZ (fun h=>hw ⟨r,hr,h⟩)
   have now:¬jW rs i->bH (eC (cw i) (kY r.op)) (bY c) r.op=some (vF i)->Oper.wpIn (WF ro) 0 O.P o a w K Q:=by
    intro hw mV;have gn:∃k,r.op=bi O.P H k o:=by
     rcases dw.op with h | ⟨cc,f,rr,_,_,h⟩ | ⟨_,_,_,_,_,_,_,h⟩
     ·exact h
     ·rw [h] at mV;simp [bH] at mV
     ·rw [h] at mV;simp [bH] at mV
    obtain ⟨k,hk⟩:=gn;rw [hk] at mV;rw [hk] at SM;obtain ⟨u,h1,h2⟩:=agX hH SM hI.hp mV;refine Pt jI h1 (.inl rfl) ?_;rw [<-dw.dst];exact hK _ _ _ _ _ _ (U8 hG hI hr hi fj gJ hD hd hw (Bi hw) hI.hp dN.refl (fun _ _ h=> .inl h) h2 cC.refl)
   rcases vS (jW rs i) with hw | hw
   ·have e:=hwc hw;subst e;refine af9 hC hH (aq3 dw.op) jI Fu SM hI.hp (fun u m' S' w' k1 k2 k3 k4=>?_);rw [<-dw.dst];obtain ⟨c',C8,h⟩:=ahc hG hI hr hi fj gJ hD hd hw k1 k2 k3 k4;exact hK _ _ _ _ _ _ h
   ·rcases xj (bK r.op) with hk | hk
    ·have Fu:=aj5 hw▸Fu;obtain ⟨h1,_,_⟩:=agb (.inl hk) Fu;exact now hw (by rw [arZ hk (bY c) (bY i)];exact h1)
    ·have It:=aZ hk hw;rcases wU i st with WX | WX
     ·
      rcases hI.Dg with h0 | h0
      ·omega
      ·have bI:D (st-1):=hI.before _ (by omega) h0;have fQ:i≠st-1:=fun e=>hi (e▸bI)
       obtain ⟨rp,hrp,hkp⟩:=h0;rcases hG.pair i (st-1) r rp (by omega) hr hrp with h | h
       ·exact (gJ _ h bI).elim
       ·obtain ⟨hg,sz,ag,t,gn⟩:=(aeK h).2 hk hkp;have hl:=ad5 (c:=c) hG hr hi ⟨hg,gn⟩ hI.cn (fun j hj Fs=>by
         rcases wU j st with g | g
         ·exact hI.before j g Fs
         ·exact (hI.Iz j g hj Fs).elim) gJ hI.IA (c-(i+1)) (by omega)
        rw [show i+1+(c-(i+1))=c by omega] at hl;refine now hw ?_;rw [gn];simp only [bH,aG];rw [OJ (by simp [kY,jM])];exact hl
     ·have iC:=Ot hG hI (x:=i+1) (y:=c) (by omega) It (yA _);have Nn:=Ot hG hI (x:=st) (y:=i) (yA _) WX (by omega)
      refine quiet_step (Hq:=bY c) (cH:=bT c) hC hH (KA hr hw) dw.op jI (aj5 hw▸Fu) iC.le iC.qH (hI.IA i (by omega)) ?_ SM hI.hp (fun u m' S' w' k1 k2 k3 k4 k5=>?_)
      ·intro id h1 h2
       cases hm:m id with
       | none=>rfl
       | some p=>
        rcases hI.dom id p hm with h | ⟨j,q1,q2,q3,q4,q5⟩
        ·have:=Nn.qH;omega
        ·rcases Nat.lt_trichotomy j i with g | g | g
         ·have:=(Ot hG hI (x:=j+1) (y:=i) (by omega) g (by omega)).qH;omega
         ·subst g;exact (hi q3).elim
         ·have:=(Ot hG hI (x:=i+1) (y:=j) (by omega) g (by omega)).qH;omega
      ·rw [<-dw.dst];exact hK _ _ _ _ _ _ (U8 hG hI hr hi fj gJ hD hd hw (.inr It) k1 k2 (fun id p h=>(k3 id p h).imp (fun h=>h) (fun h=>⟨WX,It,h.1,h.2⟩)) k4 k5)
def left (n:Nat) (listed:Array Bool):Nat:=(List.range n).countP fun i=> !listed.getD i false
def at1 {n:Nat} {listed:Array Bool} {i:Nat} (hi:i<n) (hs:listed.size=n) (hl:listed.getD i true=false):left n (listed.setIfInBounds i true)+1=left n listed:=by
 have key:∀(l:List Nat),l.Nodup->(i∈l->(l.countP fun j=> !(listed.setIfInBounds i true).getD j false)+1=l.countP fun j=> !listed.getD j false)/\(i∉l->(l.countP fun j=> !(listed.setIfInBounds i true).getD j false)=l.countP fun j=> !listed.getD j false):=by
  intro l
  induction l with
  | nil=>intro _;exact ⟨fun h=>(by cases h),fun _=>rfl⟩
  | cons x l ih=>
   intro jI;have hx:x≠i->(listed.setIfInBounds i true).getD x false=listed.getD x false:=fun h=>getD_set_ne false (ybT h)
   refine ⟨fun hm=>?_,fun hm=>?_⟩
   ·rw [yaJ,yaJ];by_cases e:x=i
    ·simp_all
    ·grind
   ·grind
 exact (key _ List.nodup_range).1 (List.mem_range.2 hi)
def ar9 {n:Nat} {listed:Array Bool} (h:left n listed=0):∀i,i<n->listed.getD i false=true:=by
 unfold left at h
 simp_all
def asa {listed:Array Bool} (hs:listed.size=ops.size) (hb:∀(i:Nat) (o:yZ),ops[i]? =some o->∀e,e∈o.after->Region.binds .any e=true->e.on<i) (h:Region.ready .any ops listed=[]):∀i,i<ops.size->listed.getD i false=true:=by
 intro i
 induction i using vV with
 | _ i ih=>
  intro hi
  cases hq:listed.getD i false with
  | true=>rfl
  | false=>
   have:i∈Region.ready .any ops listed:=by
    refine mem_ready.2 ⟨?_,ops[i],by simp [hi],fun e he zg=>?_⟩
    ·have aZ:i<listed.size:=by omega
     simp only [wR,aZ,Array.getElem?_eq_getElem,vZ] at hq ⊢;exact hq
    ·have:=hb i ops[i] (by simp [hi]) e he zg
     exact ih e.on this (by omega)
   rw [h] at this;cases this
def av0 (hG:sB O H self ops rs cw bY bT vF) (hI:Inv O ops rs cw bY bT D m0 S0 w0 n0 d0 st c m S w a) (mI:∀i,i<rs.length->D i):
  aX O m S w (bY rs.length) (bT rs.length)/\cA O m S w (cw rs.length) a.tmps/\cC m0 S0 w0 (bY 0) m S w (bY rs.length) (bT 0)/\bT 0<=bT rs.length:=by
 have hc:c=rs.length:=by
  rcases hI.cut with h | ⟨⟨r,h1,_⟩,h2⟩
  ·grind
  ·grind
 subst hc;refine ⟨hI.hp,fun t=>?_,hI.SK,hI.ge⟩;obtain ⟨j,h1,h2,h3⟩:=hI.tm t;obtain ⟨k,hk⟩:∃k,rs.length=j+k:=⟨rs.length-j,by omega⟩
 have:=Kd (t:=t) (i:=j) hG.run k (by omega) (fun l r g1 g2 hl hd=>by
  have:=(h2 l r hl hd).1 (mI l (wv.1 hl).1)
  omega)
 grind
def ax9 (hC:og O self) (hH:fM O H) (hG:sB O H self ops rs cw bY bT vF) (hn:H.n<=n0)
  (hQ:∀a' m' S' w',aX O m' S' w' (bY rs.length) (bT rs.length)->bT 0<=bT rs.length->cA O m' S' w' (cw rs.length) a'.tmps->cC m0 S0 w0 (bY 0) m' S' w' (bY rs.length) (bT 0)->a'.tmps.size=n0->a'.defers=d0->Q .normal a' w'):
  ∀(bk:Nat) (listed:Array Bool) (st c:Nat) (m:Mp) (S:Nat->Prop) (w:yh) (a:Act),listed.size=ops.size->left ops.size listed=bk->VU ops (fun i=>listed.getD i false=true)->
   Inv O ops rs cw bY bT (fun i=>listed.getD i false=true) m0 S0 w0 n0 d0 st c m S w a->wpAnyIn (WF ro) 0 O.P .any ops Q bk listed a w:=by
 have fin:∀(listed:Array Bool) (st c:Nat) (m:Mp) (S:Nat->Prop) (w:yh) (a:Act),Inv O ops rs cw bY bT (fun i=>listed.getD i false=true) m0 S0 w0 n0 d0 st c m S w a->(∀i,i<ops.size->listed.getD i false=true)->Q .normal a w:=by
  intro listed st c m S w a hI mI;obtain ⟨h1,h2,h3,h4⟩:=av0 hG hI (fun i hi=>mI i (by rw [<-hG.len];exact hi))
  exact hQ a m S w h1 h4 h2 h3 hI.size hI.defers
 intro bk
 induction bk with
 | zero=>
  intro listed st c m S w a hs hl hc hI;have mI:=ar9 hl;refine ⟨?_,fin listed st c m S w a hI mI⟩;rw [List.eq_nil_iff_forall_not_mem];intro i hm;obtain ⟨h1,o,ho,_⟩:=mem_ready.1 hm
  grind
 | succ bk ih=>
  intro listed st c m S w a hs hl hc hI;refine ⟨fun h=>fin listed st c m S w a hI (asa hs hG.back h),fun i hm=>?_⟩;obtain ⟨h1,o,ho,h2⟩:=mem_ready.1 hm;have hi:i<ops.size:=(xp.1 ho).1;have hr:rs[i]? =some (rs[i]'(by rw [hG.len];exact hi)):=by simp [hG.len,hi]
  have aZ:i<listed.size:=by omega
  have hni:¬listed.getD i false=true:=by
   grind
  have hD:∀j,(listed.setIfInBounds i true).getD j false=true↔listed.getD j false=true\/j=i:=by
   intro j;by_cases e:j=i
   ·simp_all
   ·rw [getD_set_ne false (ybT e)];simp [e]
  refine at0 hC hH hG hn hI hr ho hni (afr hc i o ho h2) (fun j hj Nl=>?_) hD (fun st' c' m' S' w' a' hI'=>ih (listed.setIfInBounds i true) st' c' m' S' w' a' (by simp [hs]) ?_ ?_ hI')
  ·have hjl:j<ops.size:=by
    grind
   exact hni (atY hc (show ops[j]? =some ops[j] by simp [hjl]) Nl hj)
  ·have:=at1 hi hs h1
   omega
  ·intro j oj hoj hj e he hb;rw [hD];rcases (hD j).1 hj with g | g
   ·exact .inl (hc j oj hoj g e he hb)
   ·grind
end
end
section
open Go
def aq5 {F:Fence} {n:Nat} {P:xe} {Q:uL->Act->yh->Prop} {a:Act} {w:yh} {c:wO} (h:c.wpIn F n P Q a w) (hg:∀l a w,¬Q (.goto l) a w):(Code.scope c).wpIn F n P Q a w:=by
 intro b k cs dw hb hr;have h0:(lone (b.atR a (.code (.scope c)::k)) cs w).fenced P F:=fenced_calm hb hr rfl;have s0:step P (lone (b.atR a (.code (.scope c)::k)) cs w)= .next (lone (b.atR a (.code c:: .inScope c::k)) cs w):=step_lone_go (by simp [stepG,stepG.exec,Frame.atR]);obtain ⟨e,a₁,w₁,hq,Eu⟩:=h b (.inScope c::k) cs dw hb hr;have hx:∀id,exitTo id (.inScope c::k)=exitTo id k:=fun id=>by simp [exitTo]
 cases e with
 | normal=>
  have s1:step P (lone (b.atR a₁ (.inScope c::k)) cs w₁)= .next (lone (b.atR a₁ k) cs w₁):=step_lone_go (by simp [stepG,stepG.exec,Frame.atR]);exact ⟨.normal,a₁,w₁,hq,.head h0 s0 (StepsIn.trans Eu (.one (fenced_calm hb hr rfl) s1))⟩
 | exit id=>
  exact ⟨.exit id,a₁,w₁,hq,fun k' hk=> .head h0 s0 (Eu.1 k' (by rw [hx];exact hk)),fun cM hk=>let ⟨k₁,h1,h2⟩:=Eu.2 cM (by rw [hx];exact hk);⟨k₁,h1,.head h0 s0 h2⟩⟩
 | goto l=>exact (hg _ _ _ hq).elim
 | ret=>exact ⟨_,a₁,w₁,hq,.of_steps (.one h0 s0) Eu⟩
 | panic ch=>exact ⟨_,a₁,w₁,hq,.of_steps (.one h0 s0) Eu⟩
 | outgrown=>exact ⟨_,a₁,w₁,hq,.of_steps (.one h0 s0) Eu⟩
def rE:Ex->uL
 | .normal=> .normal
 | .ret=> .ret
 | .exit id=> .exit id
def Marks (lo:Nat) (S:Nat->Prop) (w:yh) (ds:List tc):Prop:=∃rs:List Nat,ds=rs.map (fun r=>{target:= .collected r,args:=#[]})/\rs.Nodup/\
 ∀r,r∈rs->w.heap[r]? =some (.deferred (some []))/\¬S r/\lo<=r
def Aa (ro:Option Nat) (w:yh):Prop:=∀l,ro=some l->∃r:uR,w.heap[l]? =some (.loop r)
section
variable {O:bw} {m:Mp} {S:Nat->Prop} {w:yh} {hp:Hp} {ct:Nat}
def agc (hh:aX O m S w hp ct) {b:Nat} (h:eI m hp b):∀x,w.heap[b]?≠some (.deferred x):=by
 intro x hx;obtain ⟨id,o,p,h1,h2,rfl⟩:=h;have h3:=hh.obj id o p h1 h2
 cases o with
 | cells rw pu ex sz cs=>obtain ⟨q,arr,t,g1,g2,_⟩:=h3;rw [h2] at g1;injection g1 with g1;subst g1;rw [hx] at g2;cases g2
 | mp rw ks vs=>obtain ⟨q,es,clock,g1,g2,_⟩:=h3;rw [h2] at g1;injection g1 with g1;subst g1;rw [hx] at g2;cases g2
 | si s pos=>obtain ⟨q,t,g1,g2,_⟩:=h3;rw [h2] at g1;injection g1 with g1;subst g1;rw [hx] at g2;cases g2
 | lp tm ps cT body st pe=>obtain ⟨q,l,hi,g1,g2,_⟩:=h3;rw [h2] at g1;injection g1 with g1;subst g1;rw [hx] at g2;cases g2
def BM (hh:aX O m S w hp ct) {m':Mp} {S':Nat->Prop} {w':yh} {aw:Hp} {base lo:Nat} (hf:cC m S w hp m' S' w' aw base) {ds:List tc} (h:Marks lo S w ds):Marks lo S' w' ds:=by
 obtain ⟨rs,h1,h2,h3⟩:=h;refine ⟨rs,h1,h2,fun r hr=>?_⟩;obtain ⟨this,h4,h5⟩:=h3 r hr;have aZ:=(xp.1 this).1;have oU:¬eI m hp r:=fun ho=>agc hh ho _ this
 refine ⟨(hf.same r aZ oU).trans this,fun hs=>?_,h5⟩;rcases hf.new r hs with h | h | h
 ·grind
 ·grind
 ·omega
def Ou {m':Mp} {S':Nat->Prop} {w':yh} {aw:Hp} {base:Nat} {ro:Option Nat} (hf:cC m S w hp m' S' w' aw base) (h:Aa ro w):Aa ro w':=fun l hl=>
 let ⟨r,hr⟩:=h l hl
 hf.loops l r hr
def eW (O:bw) (m:Mp) (S:Nat->Prop) (w:yh) (s:St) (ex:Ex) (s':St) (n lo:Nat) (e:uL) (a':Act) (w':yh):Prop:=
 e=rE ex/\∃m' S',cA O m' S' w' s'.tm a'.tmps/\aX O m' S' w' s'.hp s'.ct/\s'.base=s.base/\s.base<=s'.ct/\cC m S w s.hp m' S' w' s'.hp s.base/\a'.tmps.size=n/\Marks lo S' w' a'.defers
def Cn (O:bw) (h:Nat) (c:wO) (s:St) (ex:Ex) (s':St):Prop:=
 ∀(ro:Option Nat) (lo:Nat) (m:Mp) (S:Nat->Prop) (w:yh) (a:Act),Aa ro w->cA O m S w s.tm a.tmps->aX O m S w s.hp s.ct->s.base<=s.ct->(O.hint h).n<=a.tmps.size->O.w0.heap.size<=lo->lo<=w.heap.size->Marks lo S w a.defers->
  c.wpIn (WF ro) 0 O.P (eW O m S w s ex s' a.tmps.size lo) a w
structure ep (O:bw):Prop where
 hint:∀h,fM O (O.hint h)
 mixed:O.P.follows .mixedOrders=true
 prog:∀n F,O.prog n=some F->∃fn,O.P.funcs[O.aj n]? =some fn/\Gu O.P (O.hint n) fn=some F/\fn.name≠ "runtime.NumGoroutine"
 aE:∀n sp av r,O.aE.pure n=some sp->sp av=some r->dF O n av r
 Ha:∀n sp hp ct av v aw a6,O.aE.heap n=some sp->sp hp ct av=some (v,aw,a6)->Cm O n hp ct av v aw a6
def OK {P:xe} {H:Hint} {ops:Array yZ}:∀(rs:List bc) (l:List yZ) (done:List bc) (ms:List Nat),nv P H ops rs l->nv P H ops (Af done rs ms) l
 | [],l,done,ms,h=>by
  cases ms<;>simpa only [Af] using h
 | r::rs,[],done,ms,h=>by simp [nv] at h
 | r::rs,o::l,done,[],h=>by
  obtain ⟨d,g,op⟩:=r;cases op<;>simpa only [Af] using h
 | r::rs,o::l,done,m::ms,h=>by
  obtain ⟨h1,h2⟩:=h;obtain ⟨d,g,op⟩:=r
  cases op with
  | jA SJ f xs=>
   refine ⟨?_,OK rs l _ ms h2⟩;rcases h1 with h1 | ⟨_,h1⟩
   ·refine .inl ⟨?_,h1.dst,h1.ok,h1.guard⟩;obtain ⟨c,f',g1,g2,g3,g4⟩:=U3 h1.op;rw [g3,g4];exact .inr (.inl ⟨c,f',_,g1,g2,rfl⟩)
   ·simp [bad] at h1
  | st sz x y=>
   refine ⟨?_,OK rs l _ ms h2⟩;rcases h1 with h1 | ⟨_,h1⟩
   ·refine .inl ⟨?_,h1.dst,h1.ok,h1.guard⟩;unfold stOp
    split
    ·exact h1.op
    ·obtain ⟨t,x',y',g1,g2,g3,g4⟩:=aBO h1.op;exact .inr (.inr ⟨t,x',y',sz,_,g1,g2,by rw [g3,g4]⟩)
   ·simp [bad] at h1
  | _=>
   exact ⟨h1,OK rs l _ ms h2⟩
end
section
variable {O:bw} {self:cN}
def agd {P:xe} {H:Hint} {ops:Array yZ}:∀{rs:List bc} {l:List yZ},nv P H ops rs l->rs.length=l.length/\∀(i:Nat) (r:bc) (o:yZ),rs[i]? =some r->l[i]? =some o->PQ P H ops r o\/(r.guard=none/\r.op=bad)
 | [],[],_=>⟨rfl,fun i r o h=>by simp at h⟩
 | [],_::_,h=>by simp [nv] at h
 | _::_,[],h=>by simp [nv] at h
 | r::rs,o::l,h=>by
  obtain ⟨h1,h2⟩:=agd h.2;refine ⟨by simp [h1],fun i r' o' hr ho=>?_⟩
  cases i with
  | zero=>simp at hr ho;subst hr;subst ho;exact h.1
  | succ i=>exact h2 i r' o' (by simpa using hr) (by simpa using ho)
def asb {m:Mp} {S:Nat->Prop} {w:yh} {hp:Hp} {ct:Nat} (hh:aX O m S w hp ct):Calm w {w with drawn:=w.drawn+1}:=⟨rfl,rfl,rfl,yA _,fun _ _=>rfl⟩
def aya (hO:ep O) (hC:og O self) (h:Nat) (id:Nat) (ops:Array yZ) (draw:Bool) (k:Nat) {s s':St} (hv:dT O.prog O.aE self (O0 O.P (O.hint h) ops draw k).1 s=some s'):Cn O h (.region id ops draw) s .normal s':=by
 intro ro lo m S w a dw ht hh hb hn a8 fo cV;unfold O0 at hv;have SN:=aeI (P:=O.P) (H:=O.hint h) (ops:=ops) ops.toList k;generalize hq:DW O.P (O.hint h) ops ops.toList k=q at hv SN;obtain ⟨l,k'⟩:=q;simp only at hv SN;have post:∀{a':Act} {m':Mp} {S':Nat->Prop} {w':yh},aX O m' S' w' s'.hp s'.ct->s.ct<=s'.ct->cA O m' S' w' s'.tm a'.tmps->cC m S w s.hp m' S' w' s'.hp s.ct->a'.tmps.size=a.tmps.size->a'.defers=a.defers->s'.base=s.base->eW O m S w s .normal s' a.tmps.size lo .normal a' w':=by
  intro a' m' S' w' h1 h2 h3 h4 h5 h6 h7;exact ⟨rfl,m',S',h3,h1,h7,by omega,h4.sE hb,h5,by rw [h6];exact BM hh h4 cV⟩
 cases draw with
 | false=>
  simp only [yM] at hv;refine wpIn_region ?_;rw [List.range_eq_range'];have hl:ops.size=ops.toList.length:=by simp
  rw [hl];exact ag9 hC (hO.hint h) ops.toList l 0 s s' a m S w (fun j=>by simp) SN hv ht hh hn (fun a' m' S' w' h1 h2 h3 h4 h5 h6 h7=>post h1 h2 h3 h4 h5 h6 h7)
 | true=>
  simp only [yB] at hv
  cases rL:(J9 ops.toList 0&&Gk [] (Af [] l (mF [] ops.toList)) (mF [] ops.toList)) with
  | false=>
   rw [rL] at hv;simp [dT,bad,bn,fe,aG] at hv
  | true=>
   rw [rL] at hv;simp only [yB] at hv;simp only [yg] at rL;have ama:=OK l ops.toList [] (mF [] ops.toList) SN;generalize Af [] l (mF [] ops.toList)=rs at hv rL ama;obtain ⟨hlen,aF⟩:=agd ama;obtain ⟨cw,bY,bT,vF,hR,e1,e2,e3,e4,e5,e6,e7⟩:=aha hv;have hG:sB O (O.hint h) self ops rs cw bY bT vF:=by
    refine ⟨hR,by rw [hlen];simp,fun i r o hr ho=>?_,fun i j x y hij hx hy=>?_,fun i o ho e he hbd=>?_⟩
    ·rcases aF i r o hr (by simpa using ho) with g | ⟨g1,g2⟩
     ·grind
     ·have:=hR.step i r hr
      simp [fh,g1,pP,g2,bad,bn,fe,aG] at this
    ·obtain ⟨mm,g1,g2⟩:=ad3 (done:=[]) (i:=i) (j:=j) (a:=x) (b:=y) rL.2 (by simpa using hx) hy (by simpa using hij);refine g2.imp (fun g=>?_) (fun g=>by simpa using g);unfold Ord
     grind
    ·have:=adY rL.1 (j:=i) (o:=o) (by simpa using ho) e he hbd
     omega
   refine wpIn_region_any hO.mixed ?_;have Lz:=asb hh;have jj:=F5 hh Lz (S':=S) (fun _ h=>h) (fun _ h=> .inl h) hh.slt
   have SI:cC m S w s.hp m S {w with drawn:=w.drawn+1} s.hp (bT 0):=DP hh Lz (fun _ h=>h) (fun _ h=> .inl h);obtain ⟨c,c1,c2,c3,c4⟩:=VV rs rs.length 0 (by omega);have hg:∀k',k'<=c->iG (bY 0) (bT 0) (bY (0+k')) (bT (0+k')):=fun k' Ba=>
    Oq hR (by rw [e2,e3];exact hh.aZ) k' (by omega) (fun j r g1 g2 hr=>KA hr (c3 j g1 (by omega)))
   have iC:=hg c (yA _);rw [yd] at iC;obtain ⟨S1,g1,g2,g3,g4⟩:=OH (by rw [e2,e3];exact jj:aX O m S {w with drawn:=w.drawn+1} (bY 0) (bT 0)) iC
   have sA:∀i,(uA ops.size false).getD i false=true->False:=fun i hi=>by
    simp only [wR] at hi
    grind
   refine ax9 (m0:=m) (S0:=S) (w0:=w) (n0:=a.tmps.size) (d0:=a.defers) hC (hO.hint h) hG hn (fun a' m' S' w' h1 h2 h3 h4 h5 h6=>?_) ops.size _ 0 c m S1 _ a (by simp) ?_ (fun j o _ hj=>(sA j hj).elim) ?_
   ·rw [e5,e6] at h1;rw [e3,e6] at h2;rw [e4] at h3;rw [e2,e3,e5] at h4;exact post h1 h2 h3 h4 h5 h6 e7
   ·unfold left;rw [List.countP_eq_length.2]
    ·simp
    ·intro i hi;simp only [ud]
     cases hq:(uA ops.size false).getD i false with
     | false=>rfl
     | true=>exact (sA i hq).elim
   ·refine ⟨uF _,c2,fun i hi=>by omega,c3,c4.imp (fun h=>h) (fun h=>⟨h,fun hd=>sA c hd⟩),fun i r _ _ _ hd=>sA i hd,g1,fun id p hp=> .inl (by rw [e3];exact hh.lt id p hp),fun t=>⟨0,uF _,fun i r _ _=>⟨fun hd=>(sA i hd).elim,fun h=>by omega⟩,?_⟩,?_,iC.qH,rfl,rfl,.inl rfl,fun j hj=>?_⟩
    ·rw [e1];exact mv (fun _ _ h=>h) (fun b hb=>g2 b hb) (fun b hb=>Lz.same b (hh.slt b hb)) _ _ (ht t)
    ·rw [e2];have g5:=g4 (bT 0);rw [e2] at g5;exact SI.trans g5
    ·have:=(hg j hj).lt
     rw [yd] at this;exact this
end
end
section
open Go
section
variable {O:bw} {m:Mp} {S:Nat->Prop} {w:yh} {hp:Hp} {ct:Nat}
def aeL (hh:aX O m S w hp ct) {g:Nat} {w':yh} (hw:One w w' g) (hg:¬S g) (ho:¬eI m hp g) (a8:O.w0.heap.size<=g):aX O m S w' hp ct:=by
 have aY:fS S w w':=fun b hb=>hw.other b (fun e=>hg (e▸hb))
 refine ⟨fun id o p h1 h2=>?_,hh.lt,hh.inj,fun b hb=>by rw [hw.size];exact hh.slt b hb,fun id p h=>by rw [hw.size];exact hh.blt id p h,hh.low,fun b hb=>?_,by rw [hw.size];exact hh.fT,hh.aZ⟩
 ·exact r9 (fun _ _ h=>h) (fun _ h=>h) aY (fun q hq=>hw.other _ (fun e=>ho ⟨id,o,q,h1,hq,e⟩)) (fun _ _ h=>h) (hh.obj id o p h1 h2)
 ·rw [hw.other b (by omega)];exact hh.lY b hb
def aeM {P:xe} {b:Nat} {o:Go.Obj} (h:w.heap[b]? =some o) (hc:∀c t f,o≠.cells c t f):(getObj b).run P w= .ok o w:=by
 simp only [getObj,Sem.run,h]
def Of {P:xe} {b:Nat} {o x:Go.Obj} (h:w.heap[b]? =some o) (hc:∀c t f,o≠.cells c t f):(setObj b x).run P w= .ok () {w with heap:=w.heap.setIfInBounds b x}:=by
 simp only [setObj,Sem.run,h]
def JX {P:xe} {b:Nat} {r:uR} (h:w.heap[b]? =some (.loop r)):(Instr.getLoop b).run P w= .ok r w:=by
 simp only [Instr.getLoop,Sem.run_bind,aeM (P:=P) h (fun _ _ _=>by simp),Result.andThen_ok,Sem.run_pure]
def KB (hh:aX O m S w hp ct) {l:Nat} {tm:Env} {ps:List Nat} {cT body:VC} {st:Nat} {pe:Ao} {p:Pl} (hg:aF hp l=some (.lp tm ps cT body st pe)) (hm:m l=some p):
  ∃(r:uR) (h:Nat),w.heap[p.b]? =some (.loop r)/\¬S p.b/\r.state=Cz st/\st<=2/\r.pending=zZ pe/\cA O m S w tm r.tmps/\r.params.toList=ps/\C7 O.P (O.hint h) cT r.assign/\C7 O.P (O.hint h) body r.body/\
   (O.hint h).n<=r.tmps.size/\Ag (O.hint h).n ps=true:=by
 obtain ⟨q,r,h,g1,g2,g3⟩:=hh.obj l _ p hg hm
 grind
def aft (hh:aX O m S w hp ct) {l:Nat} {tm:Env} {ps:List Nat} {cT body:VC} {st:Nat} {pe:Ao} {p:Pl} (hg:aF hp l=some (.lp tm ps cT body st pe)) (hm:m l=some p) {r:uR} (hr:w.heap[p.b]? =some (.loop r))
  {st':Nat} {pe':Ao} (h2:st'<=2):
  aX O m S {w with heap:=w.heap.setIfInBounds p.b (.loop {r with state:=Cz st',pending:=zZ pe'})} (bf hp l (.lp tm ps cT body st' pe')) ct/\
  cC m S w hp m S {w with heap:=w.heap.setIfInBounds p.b (.loop {r with state:=Cz st',pending:=zZ pe'})} (bf hp l (.lp tm ps cT body st' pe')) ct:=by
 obtain ⟨r',h,g1,g2,g3,g4,g5,g6,g7,g8,g9,g10,g11⟩:=KB hh hg hm;rw [hr] at g1;injection g1 with g1
 injection g1 with g1
 subst g1;have fO:=F0 w p.b (.loop {r with state:=Cz st',pending:=zZ pe'})
 refine Kn hh hg hm g2 fO ⟨p,{r with state:=Cz st',pending:=zZ pe'},h,hm,Ob hr,g2,rfl,h2,rfl,?_,g7,g8,g9,g10,g11⟩ (fun _ _=>⟨_,Ob hr⟩);exact BL (fun _ _ h=>h) (fun _ h=>h) (fun b hb=>fO.other b (fun e=>g2 (e▸hb))) g6
def afu {n:Nat}:∀{ps:List Nat} {vs:List AV} {us:List yf} {tm cE:Env} {tmps:Array yf},so tm ps vs=some cE->aA O.aj m S w vs us->cA O m S w tm tmps->n<=tmps.size->Ag n ps=true->
  ps.length=us.length/\cA O m S w cE ((ps.zip us).foldl (fun t (x:Nat×yf)=>t.setIfInBounds x.1 x.2) tmps)/\((ps.zip us).foldl (fun t (x:Nat×yf)=>t.setIfInBounds x.1 x.2) tmps).size=tmps.size
 | [],[],us,tm,cE,tmps,h,hr,ht,hn,ha=>by
  simp only [so,yc] at h;simp only [aA] at hr
  simp_all
 | [],_::_,us,tm,cE,tmps,h,hr,ht,hn,ha=>by simp [so] at h
 | _::_,[],us,tm,cE,tmps,h,hr,ht,hn,ha=>by simp [so] at h
 | p::ps,v::vs,us,tm,cE,tmps,h,hr,ht,hn,ha=>by
  simp only [so] at h;obtain ⟨u,t,rfl,h1,h2⟩:=hr;simp only [Ag,yg] at ha;have hp:=zR.1 ha.1;have ht1:cA O m S w ((p,v)::tm) (tmps.setIfInBounds p u):=U6 (a:=⟨tmps,[]⟩) (d:=some p) ht (fun i hi=>by injection hi with hi;show i<tmps.size;omega) h1
  obtain ⟨g1,g2,g3⟩:=afu (n:=n) h h2 ht1 (by simpa using hn) ha.2
  simp_all
def at2 (ps:Array Tmp) (args:Array yf) (tmps:Array yf):(ps.zip args).foldl (fun tmps (x:Tmp×yf)=>tmps.setIfInBounds x.1 x.2) tmps=(ps.toList.zip args.toList).foldl (fun t (x:Nat×yf)=>t.setIfInBounds x.1 x.2) tmps:=by
 rw [<-Array.foldl_toList,Array.toList_zip]
def aqf {P:xe} {b:Nat} {r:uR} (h:w.heap[b]? =some (.loop r)) (jump:Option wO):
  (Instr.endRound b jump).run P w= .ok (.bool jump.isNone) {w with heap:=w.heap.setIfInBounds b (.loop {r with state:=if jump.isNone then .ready else .done,pending:=jump})}:=by
 simp only [Instr.endRound,Sem.run_bind,JX h,Result.andThen_ok,Of (P:=P) h (fun _ _ _=>by simp),Sem.run_pure]
def ap4 {P:xe} {b:Nat} {r:uR} (h:w.heap[b]? =some (.loop r)) (hs:r.state= .ready):
  (Instr.beginRound b).run P w= .ok () {w with heap:=w.heap.setIfInBounds b (.loop {r with state:= .busy})}:=by
 simp only [Instr.beginRound,Sem.run_bind,JX h,Result.andThen_ok,Of (P:=P) h (fun _ _ _=>by simp),hs,Sem.run_pure]
def at3 {self:cN} (hS:∀v s ex s',self v s=some (ex,s')->∀c h l k,(comp O.P (O.hint h) c l k).1=v->Cn O h c s ex s') {l:Nat} {xs:List AV} {v:AV} {aw:Hp} {a6:Nat}
  (hv:oe self hp ct l xs=some (v,aw,a6)):aj2 O hp ct l xs v aw a6:=by
 intro m S w args p hh hm gW;unfold oe at hv
 split at hv
 case h_2=>cases hv
 rename_i tm ps cT body pe hg;obtain ⟨r,h,g1,g2,g3,g4,g5,g6,g7,⟨ca,ka,g8⟩,⟨cb,kb,g9⟩,g10,g11⟩:=KB hh hg hm
 cases hb:so tm ps xs with
 | none=>simp [hb] at hv
 | some cE=>
  simp only [hb] at hv;obtain ⟨b1,b2,b3⟩:=afu hb gW g6 g10 g11;rw [<-g7] at b1 b2 b3;have eY:args.size=r.params.size:=by
   grind
  let tmps:Array yf:=(r.params.zip args).foldl (fun tmps (x:Tmp×yf)=>tmps.setIfInBounds x.1 x.2) r.tmps
  have amb:tmps=(r.params.toList.zip args.toList).foldl (fun t (x:Nat×yf)=>t.setIfInBounds x.1 x.2) r.tmps:=at2 _ _ _;refine ⟨r.fn,tmps,r.assign,r.body,?_,?_⟩
  ·simp only [Instr.yield,Sem.run_bind,JX g1,Result.andThen_ok,eY,ne_eq,um,y9,Sem.run_pure];rfl
  refine roundIn_of_wpIn (F:=Fence.wide) trivial ?_
  cases h1:self cT ⟨cE,hp,ct,ct⟩ with
  | none=>simp [h1] at hv
  | some q=>
   obtain ⟨ex1,s1⟩:=q
   cases ex1 with
   | ret=>simp [h1] at hv
   | exit id=>simp [h1] at hv
   | normal=>
    simp only [h1] at hv;have eN:=hS _ _ _ _ h1 r.assign h ca ka g8;have dw:∀w',cC m S w hp m S w' hp ct->Aa (some p.b) w':=fun w' hf=>Ou hf (fun l hl=>⟨r,by injection hl with hl;subst hl;exact g1⟩)
    refine wpIn_mono (eN (some p.b) w.heap.size m S w ⟨tmps,[]⟩ (dw w cC.refl) (by rw [amb];exact b2) hh (yA _) (by show _<=tmps.size;rw [amb,b3];exact g10) hh.fT (yA _) ⟨[],rfl,by simp,by simp⟩) ?_
    rintro e a1 w1 ⟨rfl,m1,S1,k1,k2,k3,k4,k5,k6,k7⟩;simp only [rE,Exit.then];have Dh:m1 l=some p:=k5.old l p (hh.lt l p hm) hm
    split at hv
    case h_2=>cases hv
    rename_i jU nP AZ Em A0 iC;obtain ⟨r1,jj,f1,f2,f3,f4,f5,f6,f7,f8,f9,f10,f11⟩:=KB k2 iC Dh;have hbr:=ap4 (P:=O.P) f1 f3;obtain ⟨q1,q2⟩:=aft k2 iC Dh f1 (st':=1) (pe':=A0) (by omega)
    have eJ:({r1 with state:=Cz 1,pending:=zZ A0}:uR)={r1 with state:= .busy}:=by rw [<-f5];rfl
    rw [eJ] at q1 q2;refine ⟨_,hbr,?_⟩
    cases h2:self body ⟨s1.tm,bf s1.hp l (.lp jU nP AZ Em 1 A0),s1.ct,s1.ct⟩ with
    | none=>simp [h2] at hv
    | some q=>
     obtain ⟨ex,s2⟩:=q;simp only [h2] at hv;have zj:=hS _ _ _ _ h2 r.body h cb kb g9
     have aDk:Aa (some p.b) {w1 with heap:=w1.heap.setIfInBounds p.b (.loop {r1 with state:= .busy})}:=fun l hl=>by
      grind
     have ht2:cA O m1 S1 {w1 with heap:=w1.heap.setIfInBounds p.b (.loop {r1 with state:= .busy})} s1.tm a1.tmps:=
      BL (fun _ _ h=>h) (fun _ h=>h) (fun b hb=>q2.still b hb) k1
     have aDl:(O.hint h).n<=a1.tmps.size:=by
      grind
     refine wpIn_mono (zj (some p.b) w.heap.size m1 S1 _ a1 aDk ht2 q1 (yA _) aDl hh.fT (yS k5.size q2.size) (BM k2 q2 k7)) ?_;rintro e a2 w2 ⟨rfl,m2,S2,j1,j2,j3,j4,j5,j6,j7⟩;have hm2:m2 l=some p:=j5.old l p (k2.lt l p Dh) Dh
     split at hv
     case h_2=>cases hv
     rename_i sZ qF M7 Lw pe2 Bk;obtain ⟨r2,No,d1,d2,d3,d4,d5,d6,d7,d8,d9,d10,d11⟩:=KB j2 Bk hm2;have aDm:cC m S w hp m2 S2 w2 s2.hp ct:=(k5.trans (q2.sE k4)).trans (j5.sE k4);have amc:ct<=s2.ct:=yS k4 j4;have fin:∀(jump:Option wO) (st':Nat) (pe':Ao),zZ pe'=jump->Cz st'=(if jump.isNone then .ready else .done)->st'<=2->
       ∃v' w',(Instr.endRound p.b jump).run O.P w2= .ok v' w'/\zK O m S w hp ct (.bool jump.isNone) (bf s2.hp l (.lp sZ qF M7 Lw st' pe')) s2.ct (.returned v') w':=by
      intro jump st' pe' e1 e2 e3;obtain ⟨z1,z2⟩:=aft j2 Bk hm2 d1 (st':=st') (pe':=pe') e3;rw [e1,e2] at z1 z2;exact ⟨_,_,aqf d1 jump,_,m2,S2,rfl,z1,amc,by simp [an],aDm.trans (z2.sE amc)⟩
     cases ex with
     | normal=>
      simp only [yc,yq] at hv;obtain ⟨rfl,rfl,rfl⟩:=hv;simp only [rE,roundPost];exact fin none 0 .none rfl rfl (by omega)
     | ret=>
      simp only [VQ,yc,yq] at hv;obtain ⟨rfl,rfl,rfl⟩:=hv;simp only [rE,roundPost];exact fin (some .ret) 2 .ret rfl rfl (by omega)
     | exit id=>
      simp only [VQ,yc,yq] at hv;obtain ⟨rfl,rfl,rfl⟩:=hv;simp only [rE,roundPost];exact fin (some (.exit id)) 2 (.exit id) rfl rfl (by omega)
end
end
section
open Go
section
variable {O:bw} {self:cN}
def OL {P:xe} {f:FuncId} {fn:Func} {args:Array yf} {w:yh} (hf:P.funcs[f]? =some fn) (hb:fn.body.isSome=true) (hn:fn.name≠ "runtime.NumGoroutine"):(callFunc f args).run P w= .ok (.enter f args) w:=by
 have h1:fn.body≠none:=fun e=>by rw [e] at hb;cases hb
 simp [callFunc,program,Sem.run,hf,h1,hn]
def Ub {P:xe} {H:Hint} {fn:Func} {F:aI} (h:Gu P H fn=some F):∃c,fn.body=some c/\F.body=(comp P H c 0 0).1/\pv P fn.results.toList=some F.dU/\H.n<=fn.ntmps:=by
 unfold Gu at h
 split at h
 ·rename_i c rs h1 h2
  cases hb:yG H.n fn.ntmps with
  | false=>rw [hb] at h;cases h
  | true=>
   rw [hb] at h;simp only [yB,yc] at h;subst h
   simp_all
 ·cases h
def at4 {m:Mp} {S:Nat->Prop} {w:yh} {hp:Hp} {ct:Nat} {tm:Env} {a:Act} {ro:Option Nat} (fn:FuncId) (ps:Array Tmp) (assign body:wO) {cT b':VC} {h:Nat} (hh:aX O m S w hp ct) (ht:cA O m S w tm a.tmps) (dw:Aa ro w)
  (hca:C7 O.P (O.hint h) cT assign) (hcb:C7 O.P (O.hint h) b' body) (hn:(O.hint h).n<=a.tmps.size) (iB:Ag (O.hint h).n ps.toList=true) {lo:Nat} (fo:lo<=w.heap.size) (cV:Marks lo S w a.defers):
  ∃l mark w1,(Instr.enterLoop fn a.tmps ps assign body ro).run O.P w= .ok (l,mark) w1/\aX O (fG m ct ⟨l,0,0,0⟩) S w1 ((ct,.lp tm ps.toList cT b' 0 .none)::hp) (ct+1)/\
   cC m S w hp (fG m ct ⟨l,0,0,0⟩) S w1 ((ct,.lp tm ps.toList cT b' 0 .none)::hp) ct/\m ct=none/\Marks lo S w1 (mark++a.defers)/\w.heap.size<=l:=by
 have bW:m ct=none:=by
  cases hq:m ct with
  | none=>rfl
  | some p=>have:=hh.lt ct p hq;omega
 have lay:∀(w':yh) (d:Nat),Calm w w'->Marks lo S w' a.defers->
   aX O (fG m ct ⟨w'.heap.size,0,0,0⟩) S (w'.alloc (.loop {state:= .ready,pending:=none,fn:=fn,tmps:=a.tmps,params:=ps,assign:=assign,body:=body,defers:=d})) ((ct,.lp tm ps.toList cT b' 0 .none)::hp) (ct+1)/\
   cC m S w hp (fG m ct ⟨w'.heap.size,0,0,0⟩) S (w'.alloc (.loop {state:= .ready,pending:=none,fn:=fn,tmps:=a.tmps,params:=ps,assign:=assign,body:=body,defers:=d})) ((ct,.lp tm ps.toList cT b' 0 .none)::hp) ct:=by
  intro w' d hw amd;have jj:aX O m S w' hp ct:=F5 hh hw (fun _ h=>h) (fun _ h=> .inl h) (fun b hb=>yO (hh.slt b hb) hw.size);have SI:cC m S w hp m S w' hp ct:=DP hh hw (fun _ h=>h) (fun _ h=> .inl h);have hg:iG hp ct ((ct,.lp tm ps.toList cT b' 0 .none)::hp) (ct+1):=by
   refine ⟨fun id o ho=>⟨o,?_,jH.refl o⟩,by omega,fun id o ho=>?_,fun id o ho hi=>?_⟩
   ·rw [ic,yp (by have:=hh.aZ id o ho;omega)];exact ho
   ·rw [ic] at ho;by_cases hc:ct=id
    ·omega
    ·simp only [hc,y9] at ho;have:=hh.aZ id o ho;omega
   ·rw [ic,yp (by omega)] at ho;exact ⟨o,ho⟩
  have iD:∀i q,aF ((ct,Obj.lp tm ps.toList cT b' 0 .none)::hp) i=some q->i≠ct->aF hp i=some q:=fun i q h hi=>by
   rw [ic,yp (fun e=>hi e.symm)] at h;exact h
  have No:aX O m S w' ((ct,.lp tm ps.toList cT b' 0 .none)::hp) (ct+1):=by
   have fQ:∀id p,m id=some p->id≠ct:=fun id p hm e=>by have:=hh.lt id p hm;omega
   exact ⟨fun id o p ho hm=>jj.obj id o p (iD id o ho (fQ id p hm)) hm,fun id p hm=>by have:=hh.lt id p hm;omega,
    fun i j oi oj pi pj hi hj bW gA e=>jj.inj i j oi oj pi pj (iD i oi hi (fQ i pi bW)) (iD j oj hj (fQ j pj gA)) bW gA e,jj.slt,jj.blt,jj.low,jj.lY,jj.fT,hg.lt⟩
  have oT:fF O (fG m ct ⟨w'.heap.size,0,0,0⟩) S (w'.alloc (.loop {state:= .ready,pending:=none,fn:=fn,tmps:=a.tmps,params:=ps,assign:=assign,body:=body,defers:=d})) ct (.lp tm ps.toList cT b' 0 .none):=by
   refine ⟨⟨w'.heap.size,0,0,0⟩,_,h,eP,heap_alloc_new w' _,?_,rfl,by omega,rfl,?_,rfl,hca,hcb,hn,iB⟩
   ·intro hS
    have:=jj.slt _ hS
    simp at this
   ·exact BL (kW bW) (fun _ h=>h) (fun b hb=>(J3 jj _ b hb).trans (hw.same b (hh.slt b hb))) ht
  obtain ⟨S',k1,k2,k3⟩:=af0 (i:=ct) (p:=⟨w'.heap.size,0,0,0⟩) No bW (by omega) rfl (fun o ho=>by
   rw [ic] at ho;simp only [xm,yc] at ho;subst ho
   exact .inl ⟨oT,by simp [jv]⟩)
  have k1':aX O (fG m ct ⟨w'.heap.size,0,0,0⟩) S (w'.alloc (.loop {state:= .ready,pending:=none,fn:=fn,tmps:=a.tmps,params:=ps,assign:=assign,body:=body,defers:=d})) ((ct,.lp tm ps.toList cT b' 0 .none)::hp) (ct+1):=by
   have Nf:∀id q,m id=some q->q.b≠w'.heap.size:=fun id q hq=>by have:=jj.blt id q hq;omega
   refine ⟨?_,k1.lt,k1.inj,fun b hb=>k1.slt b (k2 b hb),k1.blt,k1.low,k1.lY,k1.fT,k1.aZ⟩;intro id o q ho hm;by_cases hc:id=ct
   ·subst hc;rw [ic] at ho
    grind
   ·rw [eO hc] at hm;exact r9 (kW bW) (fun _ h=>h) (J3 jj _) (fun q' cm=>alloc_old (jj.blt id q' cm)) (fun _ _ h=>h) (jj.obj id o q (iD id o ho hc) hm)
  refine ⟨k1',SI.trans ⟨rfl,rfl,rfl,by simp,fun b hb _=>alloc_old hb,fun _ h=>h,fun b hb=>J3 jj _ b hb,fun b hb=> .inl hb,?_,fun i q _ hq=>kW bW i q hq,fun b r hb=>⟨r,(alloc_old (xp.1 hb).1).trans hb⟩⟩⟩;rintro b ⟨i,o,q,g1,g2,g3⟩;by_cases hc:i=ct
  ·subst hc;rw [eP] at g2
   grind
  ·rw [eO hc] at g2;exact .inl ⟨i,o,q,iD i o g1 hc,g2,g3⟩
 cases ro with
 | none=>
  have Lz:Calm w (w.alloc (.deferred (some []))):=⟨rfl,rfl,rfl,by simp,fun b hb=>alloc_old hb⟩;obtain ⟨rs,r1,r2,r3⟩:=cV;have aDn:Marks lo S (w.alloc (.deferred (some []))) a.defers:=⟨rs,r1,r2,fun r hr=>⟨(alloc_old (xp.1 (r3 r hr).1).1).trans (r3 r hr).1,(r3 r hr).2⟩⟩;obtain ⟨k1,k2⟩:=lay (w.alloc (.deferred (some []))) w.heap.size Lz aDn
  refine ⟨(w.alloc (.deferred (some []))).heap.size,[{target:= .collected w.heap.size,args:=#[]}],_,?_,k1,k2,bW,?_,by simp⟩
  ·simp [Instr.enterLoop,newObj,Sem.run]
  ·have hold:∀(b:Nat) (x:Go.Obj),(w.alloc (.deferred (some []))).heap[b]? =some x->((w.alloc (.deferred (some []))).alloc (.loop {state:= .ready,pending:=none,fn:=fn,tmps:=a.tmps,params:=ps,assign:=assign,body:=body,defers:=w.heap.size})).heap[b]? =some x:=fun b x hb=>
    (alloc_old (xp.1 hb).1).trans hb
   refine ⟨w.heap.size::rs,by rw [r1];rfl,?_,?_⟩
   ·grind
   ·intro r hr;rcases wb.1 hr with rfl | hr
    ·exact ⟨hold _ _ (heap_alloc_new w _),fun hs=>by have:=hh.slt _ hs;omega,fo⟩
    ·exact ⟨hold _ _ ((alloc_old (xp.1 (r3 r hr).1).1).trans (r3 r hr).1),(r3 r hr).2⟩
 | some l0=>
  obtain ⟨r0,mi⟩:=dw l0 rfl;obtain ⟨k1,k2⟩:=lay w r0.defers Calm.refl cV;refine ⟨w.heap.size,[],_,?_,k1,k2,bW,?_,yA _⟩
  ·simp [Instr.enterLoop,JX mi,newObj,Sem.run]
  ·exact BM hh k2 cV
def aBP (hO:ep O) (hC:og O self) {h:Nat} {f:xu} {ps:Array Tmp} {assign body:wO} {cT b':VC} (hca:C7 O.P (O.hint h) cT assign) (hcb:C7 O.P (O.hint h) b' body) (iB:Ag (O.hint h).n ps.toList=true)
  {s:St} {ex:Ex} {s':St} (hv:bR O.prog O.aE self (.rf (aT (O.hint h) f) ps.toList cT b') s=some (ex,s')):Cn O h (.rangeFunc f ps assign body) s ex s':=by
 intro ro lo m S w a dw ht hh hb hn a8 fo cV;simp only [bR] at hv
 split at hv
 case h_2=>cases hv
 rename_i n first cap hx
 split at hv
 case h_1=>cases hv
 rename_i hL
 cases he:ja O.prog O.aE self ((s.ct,.lp s.tm ps.toList cT b' 0 .none)::s.hp) (s.ct+1) n (first++(.fn (.y s.ct) [] []::cap)) with
 | none=>simp [he] at hv
 | some q=>
  obtain ⟨v,bI,zk⟩:=q;simp only [he] at hv
  split at hv
  case h_2=>cases hv
  rename_i sZ qF M7 Lw st pe Bk
  cases aY:yu st 1 with
  | true=>rw [aY] at hv;cases hv
  | false=>
   rw [aY] at hv;simp only [yM] at hv;refine wpIn_rangeFunc (fun fn _=>?_);obtain ⟨l,mark,w1,e1,e2,e3,e4,e5,e6⟩:=at4 (ro:=ro) fn ps assign body hh ht dw hca hcb hn iB fo cV;have rf:=cL (hO.hint h) ht f;rw [hx] at rf;simp only [an] at rf;obtain ⟨fi,ca,hf,r2,r3⟩:=rf;have hle:=kW e4 (p:=⟨l,0,0,0⟩);have Hb:fS S w w1:=fun b hb=>e3.still b hb
   have gW:aA O.aj (fG m s.ct ⟨l,0,0,0⟩) S w1 (first++(.fn (.y s.ct) [] []::cap)) (fi++#[Value.func (.yield l) #[] #[]]++ca).toList:=by
    have:=mr (ib hle (fun _ h=>h) Hb _ _ r2) (mr (a:=[.fn (.y s.ct) [] []]) (x:=[Value.func (.yield l) #[] #[]]) (by
     simp only [aA]
     exact ⟨_,[],rfl,by simp only [an];exact ⟨_,eP,rfl⟩,rfl⟩) (ib hle (fun _ h=>h) Hb _ _ r3))
    grind
   have Wr:=hC.heap _ _ _ _ _ _ _ he _ S w1 _ e2 gW;have hP:∃F,O.prog n=some F:=by
    unfold ja at he;rw [hL] at he
    cases hq:O.prog n with
    | none=>simp [hq] at he
    | some F=>exact ⟨F,rfl⟩
   obtain ⟨F,hF⟩:=hP;obtain ⟨fn',q1,q2,q3⟩:=hO.prog n F hF;obtain ⟨cb,q4,_⟩:=Ub q2;have fP:(callFunc (O.aj n) (fi++#[Value.func (.yield l) #[] #[]]++ca)).run O.P w1= .ok (.enter (O.aj n) (fi++#[Value.func (.yield l) #[] #[]]++ca)) w1:=OL q1 (by rw [q4];rfl) q3
   refine ⟨l,mark,w1,{target:= .fn (.func (O.aj n)) ca,args:=fi++#[Value.func (.yield l) #[] #[]]},w1,O.aj n,fi++#[Value.func (.yield l) #[] #[]]++ca,w1,e1,?_,fun _ _=>trivial,?_,fun hd=>by simp [WF,Fence.wide] at hd,?_⟩
   ·show Sem.run O.P (Deferred.ofValue (a.eval f) _) w1=_
    rw [hf];simp [Deferred.ofValue,Act.eval]
   ·simp only [invoke];exact fP
   ·rcases Wr with ⟨_,Wr⟩ | ⟨u,w',h1,_⟩
    case inr=>rw [fP] at h1;cases h1
    have ayb:CallsIn (WF ro) 0 O.P (O.aj n) (fi++#[Value.func (.yield l) #[] #[]]++ca) w1 (zK O (fG m s.ct ⟨l,0,0,0⟩) S w1 ((s.ct,.lp s.tm ps.toList cT b' 0 .none)::s.hp) (s.ct+1) v bI zk):=Wr;refine CallsIn.mono ayb ?_;rintro e w3 ⟨u,m',S',rfl,k1,k2,k3,k4⟩;have iR:m' s.ct=some ⟨l,0,0,0⟩:=k4.old s.ct _ (Nat.lt_succ_self _) eP;obtain ⟨r,No,d1,d2,d3,d4,d5,d6,_⟩:=KB k1 Bk iR;have qI:(r.state==LoopState.busy)=false:=by
     rw [d3];rcases st with _ | _ | st
     ·rfl
     ·simp_all
     ·have:st=0:=by omega
      subst this;rfl
    have fO:=F0 w3 l (.loop {r with state:= .exhausted});have hdl:=af8 k1 s.ct;have oU:¬eI m' (eT bI s.ct) l:=aee k1 Bk iR
    have z1:aX O m' S' {w3 with heap:=w3.heap.setIfInBounds l (.loop {r with state:= .exhausted})} (VE.eT bI s.ct) zk:=aeL hdl fO d2 oU (by have:=hh.fT;omega)
    have z2:cC m' S' w3 bI m' S' {w3 with heap:=w3.heap.setIfInBounds l (.loop {r with state:= .exhausted})} (VE.eT bI s.ct) s.base:=by
     refine ⟨rfl,rfl,rfl,by rw [fO.size];exact yA _,fun b _ hb=>fO.other b (fun e=>hb (e▸KO Bk iR)),fun _ h=>h,fun b hb=>fO.other b (fun e=>d2 (e▸hb)),fun b hb=> .inl hb,fun b hb=> .inl (ag7 hb),fun _ _ _ h=>h,fun b x hb=>?_⟩
     grind
    have WY:cC m S w s.hp m' S' {w3 with heap:=w3.heap.setIfInBounds l (.loop {r with state:= .exhausted})} (VE.eT bI s.ct) s.base:=
     ((e3.sE hb).trans (k4.sE (by omega))).trans z2
    have Qe:(Instr.endLoop l).run O.P w3= .ok (zZ pe) {w3 with heap:=w3.heap.setIfInBounds l (.loop {r with state:= .exhausted})}:=by
     simp only [Instr.endLoop,Sem.run_bind,JX d1,Result.andThen_ok,qI,yE,y9,Sem.run_pure,Of (P:=O.P) d1 (fun _ _ _=>by simp),d5]
    have amd:Marks lo S' {w3 with heap:=w3.heap.setIfInBounds l (.loop {r with state:= .exhausted})} (mark++a.defers):=BM k1 z2 (BM e2 k4 e5)
    have lK:cA O m' S' {w3 with heap:=w3.heap.setIfInBounds l (.loop {r with state:= .exhausted})} s.tm a.tmps:=by
     refine BL (fun id p hp=>?_) WY.sub (fun b hb=>WY.still b hb) ht;have h1:=hh.lt id p hp;exact k4.old id p (by omega) (hle id p hp)
    have post:∀ex',s'={s with hp:=VE.eT bI s.ct,ct:=zk}->ex=ex'->eW O m S w s ex s' a.tmps.size lo (rE ex') {a with defers:=mark++a.defers} {w3 with heap:=w3.heap.setIfInBounds l (.loop {r with state:= .exhausted})}:=by
     rintro ex' rfl rfl;exact ⟨rfl,m',S',lK,z1,rfl,by show s.base<=zk;omega,WY,rfl,amd⟩
    refine ⟨_,_,Qe,?_⟩
    cases pe with
    | none=>
     simp only [yc,yq] at hv;exact post .normal hv.2.symm hv.1.symm
    | ret=>
     simp only [yc,yq] at hv;exact wpIn_ret (post .ret hv.2.symm hv.1.symm)
    | exit id=>
     simp only [yc,yq] at hv;exact wpIn_exit (post (.exit id) hv.2.symm hv.1.symm)
end
end
section
def Le (f g:cN):Prop:=∀c s r,f c s=some r->g c s=some r
section
variable {P:aJ} {L:Lib} {f g:cN}
def TS (h:Le f g) (n:Nat) (av:List AV) (r:AV) (hr:bZ P L f n av=some r):bZ P L g n av=some r:=by
 unfold bZ at hr ⊢
 cases hL:L.pure n with
 | some sp=>simpa only [hL] using hr
 | none=>
  simp only [hL] at hr ⊢
  cases hP:P n with
  | none=>simp [hP] at hr
  | some F=>
   simp only [hP] at hr ⊢
   cases hf:f F.body ⟨fL 0 av,[],0,0⟩ with
   | none=>simp [hf] at hr
   | some q=>rw [h _ _ _ hf];simpa only [hf] using hr
def Uc (h:Le f g) (hp:Hp) (ct:Nat) (n:Nat) (av:List AV) (r:AV×Hp×Nat) (hr:ja P L f hp ct n av=some r):ja P L g hp ct n av=some r:=by
 unfold ja at hr ⊢
 cases hL:L.heap n with
 | some sp=>simpa only [hL] using hr
 | none=>
  simp only [hL] at hr ⊢
  cases hP:P n with
  | none=>simp [hP] at hr
  | some F=>
   simp only [hP] at hr ⊢
   cases hf:f F.body ⟨fL 0 av,hp,ct,ct⟩ with
   | none=>simp [hf] at hr
   | some q=>rw [h _ _ _ hf];simpa only [hf] using hr
def ad6 (h:Le f g) (hp:Hp) (ct:Nat) (l:Nat) (xs:List AV) (r:AV×Hp×Nat) (hr:oe f hp ct l xs=some r):oe g hp ct l xs=some r:=by
 unfold oe at hr ⊢
 cases hl:aF hp l with
 | none=>simp [hl] at hr
 | some o=>
  simp only [hl] at hr ⊢
  split at hr
  ·rename_i tm ps cT body pe oV;simp only [yc] at oV;subst oV
   (try simp only at hr ⊢)
   cases hb:so tm ps xs with
   | none=>simp [hb] at hr
   | some cE=>
    simp only [hb] at hr ⊢
    cases h1:f cT ⟨cE,hp,ct,ct⟩ with
    | none=>simp [h1] at hr
    | some q=>
     rw [h _ _ _ h1];simp only [h1] at hr ⊢
     split at hr
     ·rename_i s1 WZ;simp only [yc] at WZ;subst WZ
      (try simp only at hr ⊢)
      split at hr
      ·rename_i jU nP AZ Em A0 ame
       (try simp only [ame])
       cases h2:f body ⟨s1.tm,bf s1.hp l (.lp jU nP AZ Em 1 A0),s1.ct,s1.ct⟩ with
       | none=>simp [h2] at hr
       | some q2=>rw [h _ _ _ h2];simpa only [h2] using hr
      ·simp at hr
     ·simp at hr
  ·simp at hr
def aej (h:Le f g) (hp:Hp) (ct:Nat) (m:Md) (fv:AV) (xs:List AV) (r:AV×Hp×Nat) (hr:fe P L f hp ct m fv xs=some r):fe P L g hp ct m fv xs=some r:=by
 unfold fe at hr ⊢
 split at hr
 ·rename_i n first cap
  cases m with
  | pure=>
   simp only at hr ⊢
   cases hz:dc deep hp (first++(xs++cap)) with
   | none=>simp [hz] at hr
   | some q=>
    simp only [hz] at hr ⊢
    cases hc:bZ P L f n q.1 with
    | none=>simp [hc] at hr
    | some u=>rw [TS h n q.1 u hc];simpa only [hc] using hr
  | own=>
   simp only at hr ⊢
   cases hz:dc deep hp (first++(xs++cap)) with
   | none=>simp [hz] at hr
   | some q=>
    simp only [hz] at hr ⊢
    cases hc:bZ P L f n q.1 with
    | none=>simp [hc] at hr
    | some u=>rw [TS h n q.1 u hc];simpa only [hc] using hr
  | heap=>exact Uc h _ _ _ _ _ hr
  | dyn=>
   simp only at hr ⊢
   cases hz:aO (first++(xs++cap)) with
   | true=>
    simp only [hz,yB] at hr ⊢
    cases hc:bZ P L f n (first++(xs++cap)) with
    | none=>simp [hc] at hr
    | some u=>rw [TS h n _ u hc];simpa only [hc] using hr
   | false=>
    simp only [hz,yM] at hr ⊢;exact Uc h _ _ _ _ _ hr
 ·split at hr
  ·exact ad6 h _ _ _ _ _ hr
  ·exact ad6 h _ _ _ _ _ hr
  ·simp at hr
 ·simp at hr
def afv (h:Le f g) (tm:Env) (hp:Hp) (ct:Nat) (o:Op) (r:AV×Hp×Nat) (hr:bn P L f tm hp ct o=some r):bn P L g tm hp ct o=some r:=by
 unfold bn at hr ⊢
 split at hr
 ·exact aej h _ _ _ _ _ _ hr
 ·rename_i rs fv xs
  (try simp only at hr ⊢)
  cases hc:fe P L f hp ct .dyn (aG tm fv) (dK tm xs) with
  | none=>simp [hc] at hr
  | some q=>rw [aej h _ _ _ _ _ _ hc];simpa only [hc] using hr
 all_goals simpa only using hr
def Og (h:Le f g):∀(ops:List bc) (s s':St),dT P L f ops s=some s'->dT P L g ops s=some s'
 | [],s,s',hr=>by simpa only [dT] using hr
 | ⟨d,gd,o⟩::r,s,s',hr=>by
  simp only [dT] at hr ⊢
  split at hr
  ·rename_i hw
   try simp only [hw]
   cases ho:bn P L f s.tm s.hp s.ct o with
   | none=>simp [ho] at hr
   | some q=>rw [afv h _ _ _ _ _ ho];simp only [ho] at hr ⊢;exact Og h r _ _ hr
  ·rename_i hw
   (try simp only [hw]);exact Og h r _ _ hr
  ·simp at hr
def qW (h:Le f g):∀(c:VC) (s:St) (r:Ex×St),bR P L f c s=some r->bR P L g c s=some r
 | .skip,s,r,hr=>by simpa only [bR] using hr
 | .aS ops,s,r,hr=>by
  simp only [bR] at hr ⊢
  cases ho:dT P L f ops s with
  | none=>simp [ho] at hr
  | some s'=>rw [Og h _ _ _ ho];simpa only [ho] using hr
 | .seq a b,s,r,hr=>by
  simp only [bR] at hr ⊢
  cases ha:bR P L f a s with
  | none=>simp [ha] at hr
  | some q=>
   rw [qW h a s q ha];obtain ⟨ex,s1⟩:=q
   cases ex with
   | normal=>simp only [ha] at hr ⊢;exact qW h b s1 r hr
   | ret=>simpa only [ha] using hr
   | exit id=>simpa only [ha] using hr
 | .cond x a b,s,r,hr=>by
  simp only [bR] at hr ⊢
  split at hr
  ·rename_i t ht
   try simp only [ht]
   cases t with
   | true=>simp only [yB] at hr ⊢;exact qW h a s r hr
   | false=>simp only [yM] at hr ⊢;exact qW h b s r hr
  ·simp at hr
 | .aQ id a,s,r,hr=>by
  simp only [bR] at hr ⊢
  cases ha:bR P L f a s with
  | none=>simp [ha] at hr
  | some q=>rw [qW h a s q ha];simpa only [ha] using hr
 | .kp live,s,r,hr=>by simpa only [bR] using hr
 | .fz ts,s,r,hr=>by simpa only [bR] using hr
 | .loop live a,s,r,hr=>by
  simp only [bR] at hr ⊢
  cases ha:bR P L f a (bS live s) with
  | none=>simp [ha] at hr
  | some q=>
   rw [qW h a _ q ha];obtain ⟨ex,s1⟩:=q
   cases ex with
   | normal=>simp only [ha] at hr ⊢;exact h _ _ _ hr
   | ret=>simpa only [ha] using hr
   | exit id=>simpa only [ha] using hr
 | .rf fv ps cT body,s,r,hr=>by
  simp only [bR] at hr ⊢
  split at hr
  ·rename_i n first cap hx
   try simp only [hx]
   split at hr
   ·simp at hr
   ·rename_i hL
    try simp only [hL]
    cases hc:ja P L f ((s.ct,.lp s.tm ps cT body 0 .none)::s.hp) (s.ct+1) n (first++(.fn (.y s.ct) [] []::cap)) with
    | none=>simp [hc] at hr
    | some q=>rw [Uc h _ _ _ _ _ hc];simpa only [hc] using hr
  ·simp at hr
 | .exit id,s,r,hr=>by simpa only [bR] using hr
 | .ret,s,r,hr=>by simpa only [bR] using hr
end
def KC (P:aJ) (L:Lib) (c:VC) (s:St):ev P L 0 c s=none:=rfl
def KD (P:aJ) (L:Lib) (n:Nat):ev P L (n+1)=bR P L (ev P L n):=rfl
def alo (P:aJ) (L:Lib):∀n,Le (ev P L n) (ev P L (n+1))
 | 0=>fun c s r h=>by rw [KC] at h;cases h
 | n+1=>fun c s r h=>by
  rw [KD] at h ⊢;exact qW (alo P L n) c s r h
def Vw (P:aJ) (L:Lib) {n m:Nat} (h:n<=m):Le (ev P L n) (ev P L m):=by
 induction h with
 | refl=>exact fun _ _ _ h=>h
 | step _ ih=>exact fun c s r hr=>alo P L _ c s r (ih c s r hr)
end
end VE
