import Derived.OrdersIn
import Derived.Test.YtmedhadbdofioaaGreatDoorTae
set_option linter.all false
set_option maxRecDepth 100000
open Array renaming getD_eq_getD_getElem?→wM
open Bool renaming and_eq_true→yg,false_eq_true→yD,not_eq_true'→uM,or_eq_false_iff→tq,or_eq_true→uD
open Classical renaming em→vI
open Go renaming Call→tR,Deferred→yaZ,Exit→uz,Oper→yZ,Operand→xA,Program→y6,Value→yf,World→yi
open List renaming countP_cons→yab,getElem?_cons_zero→wZ,getElem?_eq_some_iff→xR,length_append→yQ,length_cons→yr,length_nil→yE,mem_append→wv,mem_cons→wk,mem_cons_of_mem→wY
open Nat renaming beq→yu,ble→yG,eq_of_beq_eq_true→yp,eq_or_lt_of_le→wF,eq_zero_or_pos→xo,le_of_lt_succ→uQ,le_refl→yC,le_trans→xj,lt_or_ge→wO,strongRecOn→vL,testBit→vY
open Ne renaming symm→ybj
open Option renaming bind_some→xH,getD_some→wT
open Option.some renaming injEq→yc
open Prod.mk renaming injEq→yk
namespace VE
section
open Go
section
variable {O:bA} {H:Hint} {m:Mp} {S:Nat->Prop} {w:yi} {tm:Env} {a:Act} {hp ao:Hp} {ct bg:Nat} {self:cK} {ro:Option Nat} {next:Act->yi->Prop} {Q:uz->Act->yi->Prop}
def cB.rH {m':Mp} {S':Nat->Prop} {w':yi} {b b':Nat} (h:cB m S w hp m' S' w' ao b) (hb:b'<=b):cB m S w hp m' S' w' ao b':=
 ⟨h.os,h.tape,h.output,h.size,h.same,h.sub,h.still,h.new,h.own,fun i q hi hq=>h.old i q (by omega) hq,h.loops⟩
def aqQ {hp:Hp} {ct:Nat} {r:AV} (bi:∀id o,ak hp id=some o->id<ct):∀id o,ak (own hp ct r).2.1 id=some o->id<(own hp ct r).2.2:=by
 have hL:∀(vs:List AV) (hp:Hp) (ct:Nat),(∀id o,ak hp id=some o->id<ct)->∀id o,ak (jQ hp ct vs).2.1 id=some o->id<(jQ hp ct vs).2.2:=by
  intro vs
  induction vs with
  | nil=>intro hp ct h id o ho;exact h id o ho
  | cons v r ih=>intro hp ct h id o ho;exact ih _ _ (Ib h) id o ho
 cases r with
 | ap vs=>exact hL vs hp ct bi
 | _=>exact Ib bi
def aqR {hp:Hp} {ct:Nat} {r:AV} (bi:∀id o,ak hp id=some o->id<ct):∀id o,ak hp id=some o->ak (own hp ct r).2.1 id=some o:=by
 cases r with
 | ap vs=>exact ML bi
 | _=>exact R9 bi
def aqS {hp:Hp} {ct:Nat} {r:AV}:ct<=(own hp ct r).2.2:=by
 cases r with
 | ap vs=>exact MK
 | _=>exact MJ
def ams {hp:Hp} {ct:Nat} {r:AV}:∀id o,ak (own hp ct r).2.1 id=some o->id<ct->ak hp id=some o:=by
 have h1:∀(hp:Hp) (ct:Nat) (r:AV) id o,ak (fH hp ct r).2.1 id=some o->id<ct->ak hp id=some o:=by
  intro hp ct r id o h hc;cases r<;>simp only [fH] at h<;>try exact h
  rw [ir,yB (by omega)] at h;exact h
 have hL:∀(vs:List AV) (hp:Hp) (ct:Nat) id o,ak (jQ hp ct vs).2.1 id=some o->id<ct->ak hp id=some o:=by
  intro vs
  induction vs with
  | nil=>intro hp ct id o ho _;exact ho
  | cons v r ih=>intro hp ct id o ho hc;exact h1 hp ct v id o (ih _ _ id o ho (by have:=MJ (hp:=hp) (ct:=ct) (r:=v);omega)) hc
 cases r with
 | ap vs=>exact hL vs hp ct
 | _=>exact h1 hp ct _
structure iJ (hp:Hp) (ct:Nat) (ao:Hp) (bg:Nat):Prop where
 le:dw hp ao
 pH:ct<=bg
 lt:∀id o,ak ao id=some o->id<bg
 back:∀id o,ak ao id=some o->id<ct->∃o',ak hp id=some o'
def iJ.refl (bi:∀id o,ak hp id=some o->id<ct):iJ hp ct hp ct:=⟨dw.refl,yC _,bi,fun _ o h _=>⟨o,h⟩⟩
def iJ.trans {Jm:Hp} {afx:Nat} (h:iJ hp ct ao bg) (k:iJ ao bg Jm afx):iJ hp ct Jm afx:=
 ⟨h.le.trans k.le,xj h.pH k.pH,k.lt,fun id o ho hi=>let ⟨o1,h1⟩:=k.back id o ho (Nat.lt_of_lt_of_le hi h.pH);h.back id o1 h1 hi⟩
def Zn {Nl vals:List AV} {bF:Hp} (hz:cO deep hp Nl=some (vals,bF)) (bi:∀id o,ak hp id=some o->id<ct):iJ hp ct bF ct:=by
 obtain ⟨z1,z2,_⟩:=QN (O:=⟨default,⟨fun _=>none,fun _=>none⟩,fun _=>0,fun _=>none,fun _=>⟨0,fun _=>none,fun _=>[],fun _=>none,fun _=> .pure,fun _=>[]⟩,default⟩) hz;have hb:∀id o,ak bF id=some o->∃o',ak hp id=some o':=fun id o h=>by
  have:=z2 id
  rw [h] at this
  cases hq:ak hp id with
  | none=>rw [hq] at this;cases this
  | some q=>exact ⟨q,rfl⟩
 exact ⟨z1,yC _,fun id o h=>let ⟨o',h'⟩:=hb id o h;bi id o' h',fun id o h _=>hb id o h⟩
def akt {r:AV} (bi:∀id o,ak hp id=some o->id<ct):iJ hp ct (own hp ct r).2.1 (own hp ct r).2.2:=
 ⟨fun id o h=>⟨o,aqR bi id o h,jC.refl o⟩,aqS,aqQ bi,fun id o h hi=>⟨o,ams id o h hi⟩⟩
def X8 {P:aG} {L:Lib} {q:Op} {v:AV} (hk:bH q<=1) (hv:bw P L self tm hp ct q=some (v,ao,bg)) (bi:∀id o,ak hp id=some o->id<ct):iJ hp ct ao bg:=by
 have cU:∀{q:Op},(match da tm hp ct q with | some (v,b)=>some (v,(ct,b)::hp,ct+1) | none=>(none:gD))=some (v,ao,bg)->iJ hp ct ao bg:=by
  intro q h
  cases hm:da tm hp ct q with
  | none=>simp [hm] at h
  | some r=>
   obtain ⟨v1,b⟩:=r;simp only [hm,yc,yk] at h;obtain ⟨rfl,rfl,rfl⟩:=h;refine ⟨fun id o ho=>⟨o,?_,jC.refl o⟩,by omega,fun id o ho=>?_,fun id o ho hi=>?_⟩
   ·rw [ir,yB (by have:=bi id o ho;omega)];exact ho
   ·rw [ir] at ho
    grind
   ·rw [ir,yB (by omega)] at ho;exact ⟨o,ho⟩
 have lC:∀{q:Op},(match bE tm hp q with | some v=>some (v,hp,ct) | none=>(none:gD))=some (v,ao,bg)->iJ hp ct ao bg:=by
  intro q h
  cases hm:bE tm hp q with
  | none=>simp [hm] at h
  | some r=>
   simp only [hm,yc,yk] at h;obtain ⟨rfl,rfl,rfl⟩:=h;exact iJ.refl bi
 cases cd:q with
 | st _ _ _=>simp [cd,bH] at hk
 | pn _ _ _ _=>simp [cd,bH] at hk
 | pq _=>simp [cd,bH] at hk
 | dL _ _ _ _=>simp [cd,bH] at hk
 | pv _ _ _=>simp [cd,bH] at hk
 | iy _ _ _=>simp [cd,bH] at hk
 | jA _ _ _ _=>simp [cd,bH] at hk
 | box s x=>exact cU (q:=q) (by rw [cd] at hv ⊢;simp only [bw] at hv;exact hv)
 | bN n s z ps=>exact cU (q:=q) (by rw [cd] at hv ⊢;simp only [bw] at hv;exact hv)
 | ig s b z x y=>exact cU (q:=q) (by rw [cd] at hv ⊢;simp only [bw] at hv;exact hv)
 | z8=>exact cU (q:=q) (by rw [cd] at hv ⊢;simp only [bw] at hv;exact hv)
 | po x=>exact cU (q:=q) (by rw [cd] at hv ⊢;simp only [bw] at hv;exact hv)
 | call md x xs=>
  subst cd;simp only [bw,dF] at hv
  split at hv
  ·rename_i g first cap hx
   cases md with
   | heap=>simp [bH] at hk
   | dyn=>simp [bH] at hk
   | pure=>
    simp only at hv
    cases hz:cO deep hp (first++(dG tm xs++cap)) with
    | none=>simp [hz] at hv
    | some z=>
     obtain ⟨vals,bF⟩:=z;simp only [hz] at hv
     cases hr:bO P L self g vals with
     | none=>simp [hr] at hv
     | some r=>
      simp only [hr,yc,yk] at hv;obtain ⟨rfl,rfl,rfl⟩:=hv;exact Zn hz bi
   | own=>
    simp only at hv
    cases hz:cO deep hp (first++(dG tm xs++cap)) with
    | none=>simp [hz] at hv
    | some z=>
     obtain ⟨vals,bF⟩:=z;simp only [hz] at hv
     cases hr:bO P L self g vals with
     | none=>simp [hr] at hv
     | some r=>
      simp only [hr,yc] at hv;have e2:ao=(own bF ct r).2.1:=by rw [hv]
      have e3:bg=(own bF ct r).2.2:=by rw [hv]
      subst e2;subst e3;have g1:=Zn hz bi;exact g1.trans (akt g1.lt)
  ·cases md with
   | heap=>simp [bH] at hk
   | dyn=>simp [bH] at hk
   | _=>simp at hv
  ·cases hv
 | _=>exact lC (q:=q) (by rw [cd] at hv ⊢;simp only [bw] at hv;exact hv)
def Ml (hh:bf O m S w hp ct) (hg:iJ hp ct ao bg):∃S',bf O m S' w ao bg/\(∀b,S b->S' b)/\(∀b,S' b->S b\/eE m hp b)/\∀base,cB m S w hp m S' w ao base:=by
 have hd:∀id o p,ak ao id=some o->m id=some p->∃o',ak hp id=some o':=fun id o p h hm=>hg.back id o h (hh.lt id p hm)
 obtain ⟨S',g1,g2,g3⟩:=abc hh hg.le hd hg.pH hg.lt;refine ⟨S',g1,g2,g3,fun base=>⟨rfl,rfl,rfl,yC _,fun _ _ _=>rfl,g2,fun _ _=>rfl,fun b hb=>(g3 b hb).imp (fun h=>h) .inl,?_,fun _ _ _ h=>h,fun _ r h=>⟨r,h⟩⟩⟩;rintro b ⟨i,o,p,h1,h2,h3⟩;obtain ⟨o',h4⟩:=hd i o p h1 h2;exact .inl ⟨i,o',p,h4,h2,h3⟩
def amt {q:Op} {v:AV} (hv:di tm hp ct q=some (v,ao,bg)):ct<=bg:=by
 cases q<;>simp only [di,reduceCtorEq] at hv
 all_goals
  grind
def RJ {P:y6} {H:Hint} {o:yZ} {rs:List (Nat×Bool×Nat)} {x:X} {xs:List X} (hq:zI P H (.iy rs x xs) o):∃c f,o.op= .call c/\c.callee= .value f/\x=aT H f/\xs=ia H c.args.toList:=by
 rcases hq with ⟨k,hk⟩ | ⟨c,f,rs',h1,h2,h3⟩ | ⟨_,_,_,_,_,_,_,h3⟩
 ·cases ho:o.op with
  | call c=>
   obtain ⟨callee,args,ts⟩:=c;simp only [bt,ho] at hk
   split at hk
   ·grind
   ·repeat' split at hk
    all_goals first
     | (cases hk;done)
     | (simp only [bad] at hk;cases hk;done)
     | (revert hk;generalize yu _ _=bb;intro hk;cases bb<;>simp [bad] at hk)
   ·simp only [bad] at hk;cases hk
  | binOp op t x' y ty=>
   cases op<;>simp only [bt,ho,rn,sT] at hk
   case eql=>
         repeat' split at hk
         all_goals first
          | (cases hk;done)
          | (simp only [bad] at hk;cases hk;done)
          | (cases cY:(P.stoodInHeld t||P.eqGuardType P.depth t)<;>rw [cY] at hk<;>simp [bad] at hk)
   case neq=>
         repeat' split at hk
         all_goals first
          | (cases hk;done)
          | (simp only [bad] at hk;cases hk;done)
          | (cases cY:(P.stoodInHeld t||P.eqGuardType P.depth t)<;>rw [cY] at hk<;>simp [bad] at hk)
   all_goals cases hk
  | buildSlice t n parts=>
   simp only [bt,ho] at hk
   repeat' split at hk
   all_goals first
    | (cases hk;done)
    | (simp only [bad] at hk;cases hk;done)
    | (revert hk;generalize yG _ _=bb;intro hk;cases bb<;>simp [bad] at hk)
  | makeMap t r=>
   cases r<;>simp only [bt,ho] at hk
   ·repeat' split at hk
    all_goals first
     | (cases hk;done)
     | (simp only [bad] at hk;cases hk;done)
   ·simp only [bad] at hk;cases hk
  | next x' b=>
   cases b<;>simp only [bt,ho] at hk
   ·simp only [bad] at hk;cases hk
   ·cases hk
  | _=>
   simp only [bt,ho] at hk
   (repeat' split at hk)
   all_goals first
    | contradiction
    | (cases hk;done)
    | (simp only [bad] at hk;cases hk;done)
 ·simp only [Op.iy.injEq] at h3;exact ⟨c,f,h1,h2,h3.2.1,h3.2.2⟩
 ·cases h3
def ajj {P:y6} {H:Hint} {o:yZ} {k:Nat} {rs:List (Nat×Bool×Nat)} {sz:Nat} {x y:X} (hk:Op.jA rs sz x y=bt P H k o):False:=by
 cases ho:o.op with
 | call c=>
  obtain ⟨callee,args,ts⟩:=c;simp only [bt,ho] at hk
  split at hk
  ·grind
  ·repeat' split at hk
   all_goals first
    | (cases hk;done)
    | (simp only [bad] at hk;cases hk;done)
    | (revert hk;generalize yu _ _=bb;intro hk;cases bb<;>simp [bad] at hk)
  ·simp only [bad] at hk;cases hk
 | binOp op t x' y ty=>
  cases op<;>simp only [bt,ho,rn,sT] at hk
  case eql=>
        repeat' split at hk
        all_goals first
         | (cases hk;done)
         | (simp only [bad] at hk;cases hk;done)
         | (cases cY:(P.stoodInHeld t||P.eqGuardType P.depth t)<;>rw [cY] at hk<;>simp [bad] at hk)
  case neq=>
        repeat' split at hk
        all_goals first
         | (cases hk;done)
         | (simp only [bad] at hk;cases hk;done)
         | (cases cY:(P.stoodInHeld t||P.eqGuardType P.depth t)<;>rw [cY] at hk<;>simp [bad] at hk)
  all_goals cases hk
 | buildSlice t n parts=>
  simp only [bt,ho] at hk
  repeat' split at hk
  all_goals first
   | (cases hk;done)
   | (simp only [bad] at hk;cases hk;done)
   | (revert hk;generalize yG _ _=bb;intro hk;cases bb<;>simp [bad] at hk)
 | makeMap t r=>
  cases r<;>simp only [bt,ho] at hk
  ·repeat' split at hk
   all_goals first
    | (cases hk;done)
    | (simp only [bad] at hk;cases hk;done)
  ·simp only [bad] at hk;cases hk
 | next x' b=>
  cases b<;>simp only [bt,ho] at hk
  ·simp only [bad] at hk;cases hk
  ·cases hk
 | _=>
  simp only [bt,ho] at hk
  (repeat' split at hk)
  all_goals first
   | contradiction
   | (cases hk;done)
   | (simp only [bad] at hk;cases hk;done)
def atv {P:y6} {H:Hint} {o:yZ} {sz:Nat} {x y:X} (hq:zI P H (.st sz x y) o):∃t x' y',o.op= .store t x' y'/\cT P t=some sz/\x=aT H x'/\y=aT H y':=by
 obtain ⟨k,hk⟩:∃k,Op.st sz x y=bt P H k o:=by
  rcases hq with h | ⟨_,_,_,_,_,h⟩ | ⟨_,_,_,_,_,_,_,h⟩
  ·grind
  ·grind
  ·cases h
 cases ho:o.op with
 | call c=>
  obtain ⟨callee,args,ts⟩:=c;simp only [bt,ho] at hk
  split at hk
  ·grind
  ·repeat' split at hk
   all_goals first
    | (cases hk;done)
    | (simp only [bad] at hk;cases hk;done)
    | (revert hk;generalize yu _ _=bb;intro hk;cases bb<;>simp [bad] at hk)
  ·simp only [bad] at hk;cases hk
 | binOp op t x' y ty=>
  cases op<;>simp only [bt,ho,rn,sT] at hk
  case eql=>
        repeat' split at hk
        all_goals first
         | (cases hk;done)
         | (simp only [bad] at hk;cases hk;done)
         | (cases cY:(P.stoodInHeld t||P.eqGuardType P.depth t)<;>rw [cY] at hk<;>simp [bad] at hk)
  case neq=>
        repeat' split at hk
        all_goals first
         | (cases hk;done)
         | (simp only [bad] at hk;cases hk;done)
         | (cases cY:(P.stoodInHeld t||P.eqGuardType P.depth t)<;>rw [cY] at hk<;>simp [bad] at hk)
  all_goals cases hk
 | buildSlice t n parts=>
  simp only [bt,ho] at hk
  repeat' split at hk
  all_goals first
   | (cases hk;done)
   | (simp only [bad] at hk;cases hk;done)
   | (revert hk;generalize yG _ _=bb;intro hk;cases bb<;>simp [bad] at hk)
 | makeMap t r=>
  cases r<;>simp only [bt,ho] at hk
  ·repeat' split at hk
   all_goals first
    | (cases hk;done)
    | (simp only [bad] at hk;cases hk;done)
  ·simp only [bad] at hk;cases hk
 | next x' b=>
  cases b<;>simp only [bt,ho] at hk
  ·simp only [bad] at hk;cases hk
  ·cases hk
 | store t x' y'=>
  simp only [bt,ho] at hk
  split at hk
  ·rename_i s hs;simp only [Op.st.injEq] at hk;obtain ⟨rfl,rfl,rfl⟩:=hk;exact ⟨t,x',y',rfl,hs,rfl,rfl⟩
  ·simp only [bad] at hk;cases hk
 | _=>
  simp only [bt,ho] at hk
  (repeat' split at hk)
  all_goals first
   | contradiction
   | (cases hk;done)
   | (simp only [bad] at hk;cases hk;done)
def ab6 {P:y6} {H:Hint} {o:yZ} {rs:List (Nat×Bool×Nat)} {sz:Nat} {x y:X} (hq:zI P H (.jA rs sz x y) o):∃t x' y',o.op= .store t x' y'/\cT P t=some sz/\x=aT H x'/\y=aT H y':=by
 rcases hq with ⟨k,hk⟩ | ⟨_,_,_,_,_,h3⟩ | ⟨t,x',y',VH,rs',h1,h2,h3⟩
 ·exact (ajj hk).elim
 ·grind
 ·grind
def ajk {P:y6} {H:Hint} {q:Op} {o:yZ} (hq:zI P H q o):zI P H (mZ q) o:=by
 cases h:q with
 | iy rs f xs=>
  subst h;obtain ⟨c,f',g1,g2,g3,g4⟩:=RJ hq;exact .inr (.inl ⟨c,f',[],g1,g2,by rw [g3,g4];rfl⟩)
 | jA rs sz x y=>
  subst h;obtain ⟨t,x',y',g1,g2,g3,g4⟩:=ab6 hq;refine .inl ⟨0,?_⟩;simp only [mZ,bt,g1,g2,g3,g4]
 | _=>subst h;exact hq
def aal (hC:nD O self) (hH:fT O H) {o:yZ} {q:Op} {v:AV} (hq:zI O.P H q o) (hd:∀c,o.op≠.defer c) (hv:bw O.prog O.aU self tm hp ct q=some (v,ao,bg))
  (ht:cw O m S w tm a.tmps) (hh:bf O m S w hp ct)
  (hn:∀u m' S' w',bf O m' S' w' ao bg->ct<=bg->aj O.ai m' S' w' v u->cB m S w hp m' S' w' ao ct->next (a.put o.dst u) w'):o.wpIn (WF ro) 0 O.P a w next Q:=by
 have quiet:bH q<=1->o.wpIn (WF ro) 0 O.P a w next Q:=by
  intro hk;have hg:=X8 hk hv hh.bi;obtain ⟨S1,g1,g2,g3,g4⟩:=Ml hh hg;refine quiet_step hC hH hk hq hd hv dw.refl (yC _) hh.bi (fun id h1 h2=>?_) (AN (fun _ _ h=>h) g2 (fun _ _=>rfl) ht) g1 (fun u m' S' w' k1 k2 k3 k4 k5=>hn u m' S' w' k1 hg.pH k4 ((g4 ct).trans (k5.rH hg.pH)))
  cases hm:m id with
  | none=>rfl
  | some p=>have:=hh.lt id p hm;omega
 have ab7:∀{q':Op},(∃k,q'=bt O.P H k o)->di tm hp ct q'=some (v,ao,bg)->o.wpIn (WF ro) 0 O.P a w next Q:=by
  intro q' jU hw;obtain ⟨k,rfl⟩:=jU;obtain ⟨n,u,w',m',S',h1,h2,h3,h4,h5,h6⟩:=aoL hH ht hh hw;exact M0 hd h1 h2 (hn u m' S' w' h3 (amt hw) h4 h6)
 have write:di tm hp ct q=some (v,ao,bg)->o.wpIn (WF ro) 0 O.P a w next Q:=by
  intro hw;refine ab7 ?_ hw;rcases hq with h | ⟨c,f,rs,_,_,rfl⟩ | ⟨_,_,_,_,_,_,_,rfl⟩
  ·exact h
  ·simp [di] at hw
  ·simp [di] at hw
 have heap:∀{c:tR} {f:xA} {g:Nat} {first cap:List AV},o.op= .call c->c.callee= .value f->aA tm (aT H f)= .fn (.f g) first cap->
   iH O.prog O.aU self hp ct g (first++(dG tm (ia H c.args.toList)++cap))=some (v,ao,bg)->o.wpIn (WF ro) 0 O.P a w next Q:=by
  intro c f g first cap ho iU hx he;obtain ⟨fi,ca,h1,h2⟩:=Mk hH ht (args:=c.args) hx;refine LO ho iU h1 (hC.heap _ _ _ _ _ _ _ he m S w _ hh h2) ?_;rintro e w' ⟨u,m',S',rfl,k1,k2,k3,k4⟩;exact ⟨u,rfl,hn u m' S' w' k1 k2 k3 k4⟩
 have round:∀{c:tR} {f:xA} {l:Nat} {x y:List AV},o.op= .call c->c.callee= .value f->aA tm (aT H f)= .fn (.y l) x y->
   jt self hp ct l (dG tm (ia H c.args.toList))=some (v,ao,bg)->o.wpIn (WF ro) 0 O.P a w next Q:=by
  intro c f l x y ho iU hx he;have rf:=cI hH ht f;rw [hx] at rf;simp only [aj] at rf;obtain ⟨p,hm,hf⟩:=rf;have hX:=CA hH ht c.args.toList;obtain ⟨g,tmps,as_,body,h1,h2⟩:=hC.round _ _ _ _ _ _ _ he m S w (c.args.map a.eval) p hh hm (by simpa using hX);refine amr ho iU hf h1 h2 ?_;rintro e w' ⟨u,m',S',rfl,k1,k2,k3,k4⟩;exact ⟨u,rfl,hn u m' S' w' k1 k2 k3 k4⟩
 have dyn:∀{c:tR} {f:xA},o.op= .call c->c.callee= .value f->dF O.prog O.aU self hp ct .dyn (aA tm (aT H f)) (dG tm (ia H c.args.toList))=some (v,ao,bg)->o.wpIn (WF ro) 0 O.P a w next Q:=by
  intro c f ho iU he;unfold dF at he
  split at he
  ·rename_i g first cap hx
   (try simp only at he)
   cases hp0:aH (first++(dG tm (ia H c.args.toList)++cap)) with
   | true=>
    rw [hp0] at he;simp only [ym] at he
    cases hr:bO O.prog O.aU self g (first++(dG tm (ia H c.args.toList)++cap)) with
    | none=>simp [hr] at he
    | some r=>
     simp only [hr,yc,yk] at he;obtain ⟨rfl,rfl,rfl⟩:=he;obtain ⟨fi,ca,h1,h2⟩:=Mk hH ht (args:=c.args) hx;refine LO ho iU h1 (hC.pure g _ r hr w S _ (Sa hh) hh.slt (sN (fun _ h=>h) (fun _ _=>rfl) _ _ hp0 h2) hp0) ?_;rintro e w' ⟨u,S',rfl,hw,g1,g2,g3,g4⟩;obtain ⟨S2,k1,k2,k3⟩:=Zj g4 m;have hS:∀b,S b->S2 b:=fun b hb=>k1 b (g1 b hb)
     have Kw:∀b,S2 b->S b\/w.heap.size<=b:=fun b hb=>(k2 b hb).elim (g2 b) (fun h=> .inr h.1)
     have hl:∀b,S2 b->b<w'.heap.size:=fun b hb=>(k2 b hb).elim (g3 b) (fun h=>h.2)
     exact ⟨u,rfl,hn u m S2 w' (Ee hh hw hS Kw hl) (yC _) k3 (Co hh hw hS Kw)⟩
   | false=>
    rw [hp0] at he;simp only [yA] at he;exact heap ho iU hx he
  ·rename_i l x y hx;exact round ho iU hx he
  ·cases he
 cases cd:q with
 | iy rs x xs=>
  subst cd;simp only [bw] at hv;have key:=RJ hq;obtain ⟨c,f,ho,iU,rfl,rfl⟩:=key
  cases hc:dF O.prog O.aU self hp ct .dyn (aA tm (aT H f)) (dG tm (ia H c.args.toList)) with
  | none=>simp [hc] at hv
  | some r=>
   obtain ⟨v1,bF,sj⟩:=r;simp only [hc] at hv
   cases hs:qg tm hp bF rs with
   | false=>rw [hs] at hv;cases hv
   | true=>
    rw [hs] at hv;simp only [ym,yc,yk] at hv;obtain ⟨rfl,rfl,rfl⟩:=hv;exact dyn ho iU hc
 | call md x xs=>
  subst cd;have jU:∃k,Op.call md x xs=bt O.P H k o:=by
   rcases hq with h | ⟨c,f,rs,_,_,h⟩ | ⟨_,_,_,_,_,_,_,h⟩
   ·exact h
   ·cases h
   ·cases h
  obtain ⟨k,hk⟩:=jU
  cases md with
  | pure=>exact quiet (by simp [bH])
  | own=>exact quiet (by simp [bH])
  | heap=>
   simp only [bw] at hv;obtain ⟨c,f,ho,iU,rfl,rfl⟩:=MM hk.symm (by rintro rfl;simp [aA,dF] at hv);unfold dF at hv
   split at hv
   ·rename_i g first cap hx;exact heap ho iU hx hv
   ·rename_i l x y hx;exact round ho iU hx hv
   ·cases hv
  | dyn=>
   simp only [bw] at hv;obtain ⟨c,f,ho,iU,rfl,rfl⟩:=MM hk.symm (by rintro rfl;simp [aA,dF] at hv);exact dyn ho iU hv
 | jA rs s x y=>
  subst cd;obtain ⟨t,x',y',g1,g2,g3,g4⟩:=ab6 hq;simp only [bw] at hv
  split at hv
  ·rename_i id off hx
   cases hf:oK tm id rs with
   | false=>rw [hf] at hv;cases hv
   | true=>
    rw [hf] at hv;simp only [ym] at hv
    exact ab7 (q':= .st s x y) ⟨0,by simp only [bt,g1,g2,g3,g4]⟩ hv
  ·cases hv
 | st s x y=>subst cd;exact write (by simpa only [bw] using hv)
 | pn kk x y z=>subst cd;exact write (by simpa only [bw] using hv)
 | pq x=>subst cd;exact write (by simpa only [bw] using hv)
 | dL s b x y=>subst cd;exact write (by simpa only [bw] using hv)
 | pv s x y=>subst cd;exact write (by simpa only [bw] using hv)
 | ez k x lo hi=>subst cd;exact quiet (by cases k<;>simp [bH])
 | len k x=>subst cd;exact quiet (by rcases k with _ | _ | k<;>simp [bH])
 | _=>subst cd;exact quiet (by simp [bH])
end
end
section
open Go
def oP (tm:Env) (g:Option (Nat×Bool)):Option Bool:=
 match g with
 | none=>some true
 | some (t,b)=>match af tm t with | .bool c=>some (c==b) | .ap []=>some false | _=>none
def fh (P:aG) (L:Lib) (self:cK) (tm:Env) (hp:Hp) (ct:Nat) (r:bn):gD:=
 match oP tm r.guard with
 | some true=>bw P L self tm hp ct r.op
 | some false=>some (.ap [],hp,ct)
 | none=>none
def YC {P:aG} {L:Lib} {self:cK} {r:bn} {rs:List bn} {s:St}:
  dR P L self (r::rs) s=match fh P L self s.tm s.hp s.ct r with | some (v,hp,ct)=>dR P L self rs {s with tm:=put r.dst v s.tm,hp:=hp,ct:=ct} | none=>none:=by
 obtain ⟨d,g,o⟩:=r;simp only [dR,fh]
 cases g with
 | none=>rfl
 | some q=>
  obtain ⟨t,b⟩:=q;simp only [oP];generalize af s.tm t=x
  cases x with
  | bool c=>
   simp only;cases (c==b)<;>rfl
  | ap vs=>cases vs<;>rfl
  | _=>rfl
def abm (ops:Array yZ) (g:Option (Nat×Bool)) (g':Option (Nat×Bool)):Prop:=
 (g=none/\g'=none)\/∃t b j,g=some (t,b)/\g'=some (j,b)/\(ops[j]?).bind (·.dst)=some t
structure Nn (P:y6) (H:Hint) (ops:Array yZ) (r:bn) (o:yZ):Prop where
 op:zI P H r.op o
 dst:r.dst=o.dst
 ok:I7 H o.dst=true
 guard:abm ops r.guard o.guard
def mU (P:y6) (H:Hint) (ops:Array yZ):List bn->List yZ->Prop
 | [],[]=>True
 | r::rs,o::l=>(Nn P H ops r o\/(r.guard=none/\r.op=bad))/\mU P H ops rs l
 | _,_=>False
def YD {P:y6} {H:Hint} {ops:Array yZ}:∀(l:List yZ) (k:Nat),mU P H ops (Ct P H ops l k).1 l
 | [],k=>by simp [Ct,mU]
 | o::l,k=>by
  have ih:=YD (P:=P) (H:=H) (ops:=ops) l (k+(bif SB o then 1 else 0));simp only [Ct];generalize hq:Ct P H ops l (k+(bif SB o then 1 else 0))=q at ih;obtain ⟨l',k'⟩:=q;simp only;have TI:mU P H ops (⟨o.dst,none,bad⟩::l') (o::l):=⟨.inr ⟨rfl,rfl⟩,ih⟩
  cases hg:o.guard with
  | none=>
   simp only
   cases hd:I7 H o.dst with
   | false=>exact TI
   | true=>exact ⟨.inl ⟨.inl ⟨k,rfl⟩,rfl,hd,.inl ⟨rfl,hg⟩⟩,ih⟩
  | some p=>
   obtain ⟨j,b⟩:=p;simp only
   cases ht:(ops[j]?).bind (·.dst) with
   | none=>exact TI
   | some t=>
    simp only
    cases hd:I7 H o.dst with
    | false=>exact TI
    | true=>exact ⟨.inl ⟨.inl ⟨k,rfl⟩,rfl,hd,.inr ⟨t,b,j,rfl,hg,ht⟩⟩,ih⟩
section
variable {O:bA} {H:Hint} {m:Mp} {S:Nat->Prop} {w:yi} {tm:Env} {a:Act} {hp ao:Hp} {ct bg:Nat} {self:cK} {ro:Option Nat} {Q:uz->Act->yi->Prop} {ops:Array yZ}
def RL {d:Option Nat} {v:AV} {tm:Env} {t:Nat}:af (put d v tm) t=if d=some t then v else af tm t:=by
 cases d with
 | none=>simp [put]
 | some i=>
  simp only [put,af];by_cases h:i=t
  ·subst h;simp
  ·have:yu i t=false:=by
    cases hq:yu i t with
    | false=>rfl
    | true=>exact absurd (yp hq) h
   simp [this,h]
def Mm (a:Act) (d:Option Nat) (u:yf):(a.put d u).tmps.size=a.tmps.size:=by
 cases d with
 | none=>rfl
 | some i=>simp [Act.put]
def QR (a:Act) (d:Option Nat) (u:yf):(a.put d u).defers=a.defers:=by
 cases d with
 | none=>rfl
 | some i=>rfl
def RM {a:Act} {d:Option Nat} {u:yf} {t:Nat} (hd:∀i,d=some i->i<a.tmps.size):(a.put d u).tmps.getD t undef=if d=some t then u else a.tmps.getD t undef:=by
 cases d with
 | none=>simp [Act.put]
 | some i=>
  have hi:=hd i rfl;by_cases h:i=t
  ·subst h;simp [Act.put,hi]
  ·simp only [Act.put,yc,h,yO];simp [Array.getElem?_setIfInBounds_ne h]
def aam {n:Nat} {d:Option Nat} (h:I7 H d=true) (hn:H.n<=n):∀i,d=some i->i<n:=by
 rintro i rfl
 have:=sW.1 h
 omega
def RN {d:Option Nat} {v:AV} {u:yf} (ht:cw O m S w tm a.tmps) (hd:∀i,d=some i->i<a.tmps.size) (hv:aj O.ai m S w v u):cw O m S w (put d v tm) (a.put d u).tmps:=fun t=>by
 rw [RL,RM hd]
 split
 ·exact hv
 ·exact ht t
def Zo {o:yZ} {g:Option (Nat×Bool)} {b:Bool} (hg:abm ops g o.guard) (ht:∀t,t∈S5 g->aj O.ai m S w (af tm t) (a.tmps.getD t undef)) (hw:oP tm g=some b):Region.wanted o (yielded ops a.tmps)=b:=by
 rcases hg with ⟨rfl,h2⟩ | ⟨t,c,j,rfl,h2,h3⟩
 ·simp only [oP,yc] at hw;subst hw;simp [Region.wanted,h2]
 ·simp only [oP] at hw;have h4:=ht t (by simp [S5]);simp only [Region.wanted,h2]
  split at hw
  ·rename_i d hd;rw [hd] at h4;simp only [aj] at h4;simp only [yc] at hw
   have:yielded ops a.tmps j=some d:=by
    simp only [yielded,h3,xH];have h5:a.tmps[t]? =some (.bool d):=by
     simp only [wM] at h4
     cases hq:a.tmps[t]? with
     | none=>rw [hq] at h4;simp [undef] at h4
     | some x=>rw [hq] at h4;simp at h4;rw [h4]
    rw [h5]
   rw [this,<-hw];cases d<;>cases c<;>rfl
  ·rename_i hd;rw [hd] at h4;simp only [aj,au] at h4;obtain ⟨xs,h4,h5⟩:=h4;simp only [yc] at hw;subst hw
   have:yielded ops a.tmps j=none:=by
    simp only [yielded,h3,xH];simp only [wM] at h4
    cases hq:a.tmps[t]? with
    | none=>rfl
    | some x=>rw [hq] at h4;simp at h4;rw [h4]
   rw [this];rfl
  ·cases hw
def X9 {o:yZ} {q:Op} (hq:zI O.P H q o) {r:AV×Hp×Nat} (hv:bw O.prog O.aU self tm hp ct q=some r):∀c,o.op≠.defer c:=by
 rcases hq with ⟨k,rfl⟩ | ⟨c,f,rs,h1,_,_⟩ | ⟨_,_,_,_,_,h1,_,_⟩
 ·exact ajh hv
 ·intro c' h;rw [h1] at h;cases h
 ·intro c' h;rw [h1] at h;cases h
def aoN (hC:nD O self) (hH:fT O H) {i:Nat} {r:bn} {o:yZ} {v:AV} (hi:ops[i]? =some o) (hr:Nn O.P H ops r o\/(r.guard=none/\r.op=bad)) (hv:fh O.prog O.aU self tm hp ct r=some (v,ao,bg))
  (ht:cw O m S w tm a.tmps) (hh:bf O m S w hp ct) (hn:H.n<=a.tmps.size) {K:Act->yi->Prop}
  (hK:∀u m' S' w',bf O m' S' w' ao bg->ct<=bg->cw O m' S' w' (put r.dst v tm) (a.put o.dst u).tmps->cB m S w hp m' S' w' ao ct->K (a.put o.dst u) w'):wpOpIn (WF ro) 0 O.P ops Q i K a w:=by
 rcases hr with hr | ⟨h1,h2⟩
 case inr=>
  simp only [fh,h1,oP,h2,bad,bw,dF,aA] at hv;cases hv
 unfold wpOpIn;simp only [hi];unfold fh at hv
 cases hw:oP tm r.guard with
 | none=>simp [hw] at hv
 | some b=>
  have VI:=Zo hr.guard (fun t _=>ht t) hw;have hd:=aam hr.ok hn;rw [VI]
  cases b with
  | true=>
   simp only [hw] at hv;simp only [y5];refine aal hC hH hr.op (X9 hr.op hv) hv ht hh (fun u m' S' w' k1 k2 k3 k4=>hK u m' S' w' k1 k2 ?_ k4);rw [hr.dst];exact RN (AN (fun id p h=>k4.old id p (hh.lt id p h) h) k4.sub (fun b hb=>k4.still b hb) ht) hd k3
  | false=>
   simp only [hw,yc,yk] at hv;obtain ⟨rfl,rfl,rfl⟩:=hv;simp only [yD,yO];refine ⟨fun _ _=>trivial,hK undef m S w hh (yC _) ?_ cB.refl⟩;rw [hr.dst];exact RN ht hd (by simp [aj,au,undef])
def abn (hC:nD O self) (hH:fT O H):∀(l:List yZ) (rs:List bn) (i:Nat) (s s':St) (a:Act) (m:Mp) (S:Nat->Prop) (w:yi),(∀j,l[j]? =ops[i+j]?)->mU O.P H ops rs l->
  dR O.prog O.aU self rs s=some s'->cw O m S w s.tm a.tmps->bf O m S w s.hp s.ct->H.n<=a.tmps.size->
  (∀a' m' S' w',bf O m' S' w' s'.hp s'.ct->s.ct<=s'.ct->cw O m' S' w' s'.tm a'.tmps->cB m S w s.hp m' S' w' s'.hp s.ct->a'.tmps.size=a.tmps.size->a'.defers=a.defers->s'.base=s.base->Q .normal a' w')->
  wpOpsIn (WF ro) 0 O.P ops Q (List.range' i l.length) a w
 | [],rs,i,s,s',a,m,S,w,hl,hr,hv,ht,hh,hn,hQ=>by
  cases rs with
  | cons _ _=>simp [mU] at hr
  | nil=>
   simp only [dR,yc] at hv;subst hv;simp only [yE,List.range'_zero,wpOpsIn];exact hQ a m S w hh (yC _) ht cB.refl rfl rfl rfl
 | o::l,rs,i,s,s',a,m,S,w,hl,hr,hv,ht,hh,hn,hQ=>by
  cases rs with
  | nil=>simp [mU] at hr
  | cons r rs=>
   simp only [mU] at hr;rw [YC] at hv
   cases h1:fh O.prog O.aU self s.tm s.hp s.ct r with
   | none=>simp [h1] at hv
   | some q=>
    obtain ⟨v,bF,sj⟩:=q;simp only [h1] at hv;have hi:ops[i]? =some o:=by have:=hl 0;simpa using this.symm
    rw [yr,List.range'_succ,wpOpsIn_cons];refine aoN hC hH hi hr.1 h1 ht hh hn (fun u m1 S1 w1 k1 k2 k3 k4=>?_)
    refine abn hC hH l rs (i+1) {s with tm:=put r.dst v s.tm,hp:=bF,ct:=sj} s' _ m1 S1 w1 (fun j=>?_) hr.2 hv k3 k1 (by rw [Mm];exact hn) (fun a' m' S' w' g1 g2 g3 g4 g5 g6 g7=>?_)
    ·have:=hl (j+1)
     rw [List.getElem?_cons_succ] at this;rw [this];congr 1;omega
    ·exact hQ a' m' S' w' g1 (xj k2 g2) g3 (k4.trans (g4.rH k2)) (by rw [g5,Mm]) (by rw [g6,QR]) g7
end
end
section
open Go
section
variable {ops:Array yZ}
def QC {acc:List Nat} {i:Nat}:∀{es:List Edge},vY (A3 acc es) i=true->∃e,e∈es/\Region.binds .any e=true/\(i=e.on\/vY (acc.getD e.on 0) i=true)
 | [],h=>by simp [A3] at h
 | e::r,h=>by
  simp only [A3] at h
  cases hb:Region.binds .any e with
  | false=>
   rw [hb] at h;obtain ⟨e',h1,h2⟩:=QC h
   grind
  | true=>
   rw [hb] at h;simp only [ym,Nat.testBit_or,uD] at h;rcases h with (h | h) | h
   ·grind
   ·grind
   ·obtain ⟨e',h1,h2⟩:=QC h
    grind
def Zp {l:List yZ} {acc:List Nat} {j:Nat} (hj:j<acc.length):(my acc l)[j]? =acc[j]? :=by
 induction l generalizing acc with
 | nil=>rfl
 | cons o l ih=>
  simp only [my]
  grind
def ajl {l:List yZ} {acc:List Nat} {j:Nat} {o:yZ} (h:l[j]? =some o):∃C1:List Nat,(my acc l)[acc.length+j]? =some (A3 C1 o.after.toList)/\C1.length=acc.length+j/\∀k,k<C1.length->C1[k]? =(my acc l)[k]? :=by
 induction l generalizing acc j with
 | nil=>simp at h
 | cons x l ih=>
  cases j with
  | zero=>
   simp only [wZ,yc] at h;subst h;refine ⟨acc,?_,by simp,fun k hk=>?_⟩
   ·simp only [my];rw [Zp (by simp)]
    simp
   ·simp only [my];rw [Zp (by rw [yQ];omega),List.getElem?_append_left hk]
  | succ j=>
   obtain ⟨C1,h1,h2,h3⟩:=ih (acc:=acc++[A3 acc x.after.toList]) h;simp only [yQ,yr,yE] at h1 h2;refine ⟨C1,?_,by omega,fun k hk=>?_⟩
   ·simp only [my]
    grind
   ·simp only [my];exact h3 k hk
def Ord (ops:Array yZ) (i j:Nat):Prop:=vY ((my [] ops.toList).getD j 0) i=true
def SE (ops:Array yZ) (D:Nat->Prop):Prop:=∀j o,ops[j]? =some o->D j->∀e,e∈o.after->Region.binds .any e=true->D e.on
def Zq {D:Nat->Prop} (hc:SE ops D):∀(j:Nat) (o:yZ),ops[j]? =some o->(∀e,e∈o.after->Region.binds .any e=true->D e.on)->∀i,Ord ops i j->D i:=by
 intro j
 induction j using vL with
 | _ j ih=>
  intro o ho hr i hi;have lA:ops.toList[j]? =some o:=by simp_all
  obtain ⟨C1,h1,h2,h3⟩:=ajl (acc:=[]) lA;simp only [yE,Nat.zero_add] at h1 h2;unfold Ord at hi;rw [List.getD_eq_getElem?_getD,h1,wT] at hi;obtain ⟨e,g1,g2,g3⟩:=QC hi;have he:D e.on:=hr e (by simpa using g1) g2;rcases g3 with rfl | g3
  ·grind
  ·rcases wO e.on j with bi | lW
   ·have h4:=h3 e.on (by omega);have hol:e.on<ops.size:=by
     grind
    have VB:ops[e.on]? =some ops[e.on]:=by simp_all
    refine ih e.on bi _ VB (fun e' VJ cY=>hc e.on _ VB he e' VJ cY) i ?_;unfold Ord
    grind
   ·grind
def amu {D:Nat->Prop} (hc:SE ops D) {i j:Nat} {o:yZ} (ho:ops[j]? =some o) (hj:D j) (hi:Ord ops i j):D i:=
 Zq hc j o ho (fun e he hb=>hc j o ho hj e he hb) i hi
def XM:∀{l:List yZ} {k j:Nat} {o:yZ},HI l k=true->l[j]? =some o->∀e,e∈o.after->Region.binds .any e=true->e.on<k+j
 | [],k,j,o,_,h=>by simp at h
 | x::l,k,j,o,hb,h=>by
  simp only [HI,yg] at hb
  cases j with
  | zero=>
   simp only [wZ,yc] at h;subst h;intro e he se
   have:=List.all_eq_true.1 hb.1 e (by simpa using he)
   simp_all
  | succ j=>
   intro e he se
   have:=XM hb.2 h e he se
   omega
end
def NU (a b:bn) (r:List bn):Prop:=Mf a b=false/\(HG a b=false\/Ia a b r=true)
def XO {m:Nat} {b:bn}:∀{l:List bn} {k i:Nat} {a:bn},Mg m b l k=true->l[i]? =some a->vY m (k+i)=true\/NU a b (l.drop (i+1))
 | [],k,i,a,_,h=>by simp at h
 | x::l,k,i,a,hp,h=>by
  simp only [Mg,yg] at hp
  cases i with
  | zero=>
   simp only [wZ,yc] at h;subst h;have h1:=hp.1;simp only [uD,uM,tq,Bool.and_eq_false_iff,Bool.not_eq_false'] at h1;rcases h1 with h1 | ⟨h1,h2⟩
   ·grind
   ·exact .inr ⟨h1,by simpa using h2⟩
  | succ i=>
   rcases XO hp.2 h with h1 | h1
   ·grind
   ·grind
def XU:∀{l done:List bn} {ms:List Nat} {i j:Nat} {a b:bn},El done l ms=true->(done++l)[i]? =some a->l[j]? =some b->i<done.length+j->
  ∃m,ms[j]? =some m/\(vY m i=true\/NU a b (((done++l).take (done.length+j)).drop (i+1)))
 | [],done,ms,i,j,a,b,_,_,h,_=>by simp at h
 | x::l,done,[],i,j,a,b,hp,_,h,_=>by simp [El] at hp
 | x::l,done,m::ms,i,j,a,b,hp,ha,h,VK=>by
  simp only [El,yg] at hp
  cases j with
  | zero=>
   have Dw:done[i]? =some a:=by grind
   have:=XO hp.1 Dw
   grind
  | succ j=>
   have e:done++x::l=(done++[x])++l:=by simp
   obtain ⟨m',h1,h2⟩:=XU (i:=i) (a:=a) hp.2 (by rw [<-e];exact ha) h (by simp;omega)
   grind
def Lw {a b:bn} (h:Mf a b=false):(∀d,a.dst=some d->d∉Cz b/\b.dst≠some d)/\(∀d,b.dst=some d->d∉Cz a):=by
 have mem:∀{i:Nat} {l:List Nat},lQ i l=false->i∉l:=by
  intro i l
  induction l with
  | nil=>intro _ h;cases h
  | cons j r ih=>
   intro h hm;simp only [lQ] at h
   cases hb:yu j i with
   | true=>rw [hb] at h;cases h
   | false=>
    simp_all
 simp only [Mf,tq] at h;obtain ⟨⟨h1,h2⟩,h3⟩:=h;refine ⟨fun d hd=>⟨mem (by simpa [hd,E6] using h1),fun hb=>?_⟩,fun d hd=>mem (by simpa [hd,E6] using h2)⟩;rw [hd,hb] at h3;simp [adQ] at h3
def YE {t:Nat}:∀{l:List bn},EW t l=true->∀r,r∈l->r.dst≠some t
 | [],_,r,h=>by cases h
 | x::l,h,r,hr=>by
  simp only [EW,yg,uM] at h;rcases wk.1 hr with rfl | hr
  ·intro hd;rw [hd] at h;simp [E6,lQ] at h
  ·exact YE h.2 r hr
def Rg {sz t:Nat} {ag:Bool}:∀{l:List (Nat×Bool×Nat)},E7 sz ag t l=true->(sz,ag,t)∈l
 | [],h=>by simp [E7] at h
 | (s,g,u)::r,h=>by
  simp only [E7,uD,yg] at h;rcases h with ⟨h1,h2,h3⟩ | h
  ·simp_all
  ·exact wY _ (Rg h)
def RO:∀{a b:List Nat},cA a b=true->a=b
 | [],[],_=>rfl
 | [],_::_,h=>by simp [cA] at h
 | _::_,[],h=>by simp [cA] at h
 | x::a,y::b,h=>by
  simp only [cA,yg] at h;rw [yp h.1,RO h.2]
def aku {a b:AV} (h:NR a b=true):a=b:=by
 unfold NR at h
 split at h
 ·grind
 ·grind
 ·rw [RO h]
 ·rfl
 ·rfl
 ·simp_all
 ·simp_all
 ·simp_all
 ·cases h
def XV {tm:Env} {hp ao:Hp} {sz t:Nat} {ag:Bool} {v:AV}:∀{l:List (Nat×Bool×Nat)},qg tm hp ao l=true->(sz,ag,t)∈l->jd hp sz ag (af tm t)=some v->jd ao sz ag (af tm t)=some v
 | [],_,h,_=>by cases h
 | (s,g,u)::r,h,hm,hv=>by
  simp only [qg] at h
  cases h1:jd hp s g (af tm u) with
  | none=>simp [h1] at h
  | some x=>
   cases h2:jd ao s g (af tm u) with
   | none=>simp [h1,h2] at h
   | some y=>
    simp only [h1,h2,yg] at h;rcases wk.1 hm with e | hm
    ·simp only [yk] at e;obtain ⟨rfl,rfl,rfl⟩:=e;rw [h1] at hv;rw [h2,<-aku h.1,hv]
    ·exact XV h.2 hm hv
structure NV (P:aG) (L:Lib) (run:cK) (rs:List bn) (cm:Nat->Env) (bR:Nat->Hp) (bM:Nat->Nat) (vF:Nat->AV):Prop where
 step:∀i r,rs[i]? =some r->fh P L run (cm i) (bR i) (bM i) r=some (vF i,bR (i+1),bM (i+1))
 tm:∀i r,rs[i]? =some r->cm (i+1)=put r.dst (vF i) (cm i)
def abo {P:aG} {L:Lib} {self:cK}:∀{rs:List bn} {s s':St},dR P L self rs s=some s'->
  ∃cm bR bM vF,NV P L self rs cm bR bM vF/\cm 0=s.tm/\bR 0=s.hp/\bM 0=s.ct/\cm rs.length=s'.tm/\bR rs.length=s'.hp/\bM rs.length=s'.ct/\s'.base=s.base
 | [],s,s',h=>by
  simp only [dR,yc] at h;subst h;exact ⟨fun _=>s.tm,fun _=>s.hp,fun _=>s.ct,fun _=> .undef,⟨fun i r h=>by simp at h,fun i r h=>by simp at h⟩,rfl,rfl,rfl,rfl,rfl,rfl,rfl⟩
 | r::rs,s,s',h=>by
  rw [YC] at h
  cases h1:fh P L self s.tm s.hp s.ct r with
  | none=>simp [h1] at h
  | some q=>
   obtain ⟨v,bF,sj⟩:=q;simp only [h1] at h;obtain ⟨cm,bR,bM,vF,g1,g2,g3,g4,g5,g6,g7,g8⟩:=abo h;refine ⟨fun i=>match i with | 0=>s.tm | i+1=>cm i,fun i=>match i with | 0=>s.hp | i+1=>bR i,fun i=>match i with | 0=>s.ct | i+1=>bM i,fun i=>match i with | 0=>v | i+1=>vF i,⟨?_,?_⟩,rfl,rfl,rfl,by simpa using g5,by simpa using g6,by simpa using g7,g8⟩
   ·intro i r' hi
    cases i with
    | zero=>
     grind
    | succ i=>exact g1.step i r' (by simpa using hi)
   ·intro i r' hi
    cases i with
    | zero=>
     grind
    | succ i=>exact g1.tm i r' (by simpa using hi)
section
variable {P:aG} {L:Lib} {self:cK} {rs:List bn} {cm:Nat->Env} {bR:Nat->Hp} {bM:Nat->Nat} {vF:Nat->AV}
def HM (hR:NV P L self rs cm bR bM vF) {t i:Nat}:∀(k:Nat),i+k<=rs.length->(∀j r,i<=j->j<i+k->rs[j]? =some r->r.dst≠some t)->af (cm (i+k)) t=af (cm i) t
 | 0,_,_=>rfl
 | k+1,hk,h=>by
  have hr:rs[i+k]? =some rs[i+k]:=by simp_all
  rw [show i+(k+1)=i+k+1 by omega,hR.tm _ _ hr,RL,yB (h (i+k) _ (by omega) (by omega) hr)];exact HM hR k (by omega) (fun j r h1 h2=>h j r h1 (by omega))
def Zr {r:bn} {tm:Env} {hp ao:Hp} {ct bg:Nat} {v:AV} (hk:bH r.op<=1) (hv:fh P L self tm hp ct r=some (v,ao,bg)) (bi:∀id o,ak hp id=some o->id<ct):iJ hp ct ao bg:=by
 unfold fh at hv
 cases hw:oP tm r.guard with
 | none=>simp [hw] at hv
 | some b=>
  cases b with
  | true=>simp only [hw] at hv;exact X8 hk hv bi
  | false=>
   simp only [hw,yc,yk] at hv;obtain ⟨rfl,rfl,rfl⟩:=hv;exact iJ.refl bi
def L3 (hR:NV P L self rs cm bR bM vF) {i:Nat} (bi:∀id o,ak (bR i) id=some o->id<bM i):∀(k:Nat),i+k<=rs.length->(∀j r,i<=j->j<i+k->rs[j]? =some r->bH r.op<=1)->iJ (bR i) (bM i) (bR (i+k)) (bM (i+k))
 | 0,_,_=>iJ.refl bi
 | k+1,hk,h=>by
  have ih:=L3 hR bi k (by omega) (fun j r h1 h2=>h j r h1 (by omega));have hr:rs[i+k]? =some rs[i+k]:=by simp_all
  exact ih.trans (Zr (h (i+k) _ (by omega) (by omega) hr) (hR.step _ _ hr) ih.lt)
end
end
section
open Go
def Mn {tm:Env} {t:Nat}:∀{l:List Nat},t∈l->af (df tm l) t=af tm t
 | [],h=>by cases h
 | i::r,h=>by
  simp only [df,af]
  cases hb:yu i t with
  | true=>rw [yp hb];rfl
  | false=>
   rcases wk.1 h with e | h
   ·simp_all
   ·exact Mn h
def akv {P:aG} {L:Lib} {self:cK} {tm tm':Env} {hp:Hp} {ct:Nat} {o:Op} {r:AV×Hp×Nat} (h:∀t,t∈kO o->af tm' t=af tm t) (hv:bw P L self tm hp ct o=some r):bw P L self tm' hp ct (mZ o)=some r:=by
 cases o with
 | iy rs f xs=>
  simp only [kO,wv] at h;simp only [mZ,bw] at hv ⊢
  rw [ep (x:=f) fun t ht=>h t (.inl ht),Cj (xs:=xs) fun t ht=>h t (.inr ht)]
  cases hc:dF P L self hp ct .dyn (aA tm f) (dG tm xs) with
  | none=>simp [hc] at hv
  | some q=>
   obtain ⟨v1,bF,sj⟩:=q;simp only [hc] at hv
   cases hs:qg tm hp bF rs with
   | false=>rw [hs] at hv;cases hv
   | true=>
    rw [hs] at hv;simpa only [qg,ym] using hv
 | jA rs sz x v=>
  simp only [mZ,bw] at hv ⊢
  rw [D4 (o:= .st sz x v) (tm:=tm) h]
  grind
 | call md f xs=>
  rw [<-hv];simp only [kO,wv] at h;simp only [mZ,bw]
  rw [ep (x:=f) fun t ht=>h t (.inl ht),Cj (xs:=xs) fun t ht=>h t (.inr ht)]
 | st s x y=>rw [<-hv];exact D4 h
 | pn kk x y z=>rw [<-hv];exact D4 h
 | pq x=>rw [<-hv];exact D4 h
 | dL s b x y=>rw [<-hv];exact D4 h
 | pv s x y=>rw [<-hv];exact D4 h
 | box s x=>rw [<-hv];simp only [mZ,bw];rw [Hv (hp:=hp) h]
 | bN n s z ps=>rw [<-hv];simp only [mZ,bw];rw [Hv (hp:=hp) h]
 | ig s b z x y=>rw [<-hv];simp only [mZ,bw];rw [Hv (hp:=hp) h]
 | z8=>exact hv
 | po x=>rw [<-hv];simp only [mZ,bw];rw [Hv (hp:=hp) h]
 | _=>rw [<-hv];simp only [mZ,bw];rw [aiJ h]
def aan {P:aG} {L:Lib} {self:cK} {tm:Env} {hp ao:Hp} {ct bg:Nat} {q:Op} {v:AV} (hk:bH q=0\/∃sz ag x,q= .ld sz ag x) (hv:bw P L self tm hp ct q=some (v,ao,bg)):bE tm hp q=some v/\ao=hp/\bg=ct:=by
 have lC:∀{q:Op},(match bE tm hp q with | some v=>some (v,hp,ct) | none=>(none:gD))=some (v,ao,bg)->bE tm hp q=some v/\ao=hp/\bg=ct:=by grind
 rcases hk with hk | ⟨sz,ag,x,rfl⟩
 ·cases cd:q with
  | call md f xs=>subst cd;cases md<;>simp [bH] at hk
  | iy rs f xs=>subst cd;simp [bH] at hk
  | jA rs s x y=>subst cd;simp [bH] at hk
  | st s x y=>subst cd;simp [bH] at hk
  | pn kk x y z=>subst cd;simp [bH] at hk
  | pq x=>subst cd;simp [bH] at hk
  | dL s b x y=>subst cd;simp [bH] at hk
  | pv s x y=>subst cd;simp [bH] at hk
  | box s x=>subst cd;simp [bH] at hk
  | bN n s z ps=>subst cd;simp [bH] at hk
  | ig s b z x y=>subst cd;simp [bH] at hk
  | z8=>subst cd;simp [bH] at hk
  | po x=>subst cd;simp [bH] at hk
  | _=>exact cd▸lC (q:=q) (by rw [cd] at hv ⊢;exact hv)
 ·exact lC (q:= .ld sz ag x) (by simp only [bw] at hv;exact hv)
section
variable {O:bA} {H:Hint} {ops:Array yZ} {rs:List bn} {cm:Nat->Env} {bR:Nat->Hp} {bM:Nat->Nat} {vF:Nat->AV} {self:cK} {ro:Option Nat} {Q:uz->Act->yi->Prop}
structure rD (O:bA) (H:Hint) (slf:cK) (ops:Array yZ) (rs:List bn) (cm:Nat->Env) (bR:Nat->Hp) (bM:Nat->Nat) (vF:Nat->AV):Prop where
 run:NV O.prog O.aU slf rs cm bR bM vF
 len:rs.length=ops.size
 of:∀(i:Nat) (r:bn) (o:yZ),rs[i]? =some r->ops[i]? =some o->Nn O.P H ops r o
 pair:∀(i j:Nat) (a b:bn),i<j->rs[i]? =some a->rs[j]? =some b->Ord ops i j\/NU a b ((rs.take j).drop (i+1))
 back:∀(i:Nat) (o:yZ),ops[i]? =some o->∀e,e∈o.after->Region.binds .any e=true->e.on<i
def jV (rs:List bn) (i:Nat):Prop:=∃r,rs[i]? =some r/\bH r.op=2
def SF (rs:List bn):∀(k i:Nat),i+k=rs.length->∃c,i<=c/\c<=rs.length/\(∀j,i<=j->j<c->¬jV rs j)/\(c=rs.length\/jV rs c)
 | 0,i,h=>⟨i,yC _,by omega,fun j h1 h2=>by omega,.inl (by omega)⟩
 | k+1,i,h=>by
  rcases vI (jV rs i) with hw | hw
  ·grind
  ·obtain ⟨c,h1,h2,h3,h4⟩:=SF rs k (i+1) (by omega)
   grind
def Ic {rs:List bn} {i:Nat} {r:bn} (hr:rs[i]? =some r) (hw:¬jV rs i):bH r.op<=1:=by
 have h:bH r.op≠2:=fun e=>hw ⟨r,hr,e⟩
 have:bH r.op<=2:=by
  cases r.op with
  | ez k x lo hi=>cases k<;>simp [bH]
  | len k x=>rcases k with _ | _ | k<;>simp [bH]
  | call md f xs=>cases md<;>simp [bH]
  | _=>simp [bH]
 omega
def Pq (O:bA) (rs:List bn) (cm:Nat->Env) (D:Nat->Prop) (m:Mp) (S:Nat->Prop) (w:yi) (a:Act):Prop:=
 ∀t,∃j,j<=rs.length/\(∀(i:Nat) (r:bn),rs[i]? =some r->r.dst=some t->(D i↔i<j))/\aj O.ai m S w (af (cm j) t) (a.tmps.getD t undef)
def aoO {D:Nat->Prop} {m:Mp} {S:Nat->Prop} {w:yi} {a:Act} {i:Nat} {r:bn} (hG:rD O H self ops rs cm bR bM vF) (hT:Pq O rs cm D m S w a) (hr:rs[i]? =some r) (hi:¬D i)
  (fp:∀j,Ord ops j i->D j) (gQ:∀j,Ord ops i j->¬D j):∀t,t∈Cz r->aj O.ai m S w (af (cm i) t) (a.tmps.getD t undef):=by
 intro t ht;obtain ⟨j,h1,h2,h3⟩:=hT t;have FL:i<rs.length:=(xR.1 hr).1;have e:af (cm j) t=af (cm i) t:=by
  rcases Nat.le_total j i with hji | VK
  ·obtain ⟨k,rfl⟩:∃k,i=j+k:=⟨i-j,by omega⟩;refine (HM hG.run k (by omega) (fun l rl g1 g2 hl hd=>?_)).symm;rcases hG.pair l (j+k) rl r (by omega) hl hr with ho | hf
   ·grind
   ·exact ((Lw hf.1).1 t hd).1 ht
  ·obtain ⟨k,rfl⟩:∃k,j=i+k:=⟨j-i,by omega⟩;refine HM hG.run k h1 (fun l rl g1 g2 hl hd=>?_);rcases wF g1 with rfl | g1
   ·grind
   ·rcases hG.pair i l r rl g1 hr hl with ho | hf
    ·grind
    ·exact (Lw hf.1).2 t hd ht
 grind
def abp {D D':Nat->Prop} {m m':Mp} {S S':Nat->Prop} {w w':yi} {a:Act} {i:Nat} {r:bn} {u:yf} (hG:rD O H self ops rs cm bR bM vF) (hT:Pq O rs cm D m S w a) (hr:rs[i]? =some r) (hi:¬D i)
  (fp:∀j,Ord ops j i->D j) (gQ:∀j,Ord ops i j->¬D j) (hD:∀j,D' j↔D j\/j=i) (hm:dM m m') (hS:∀b,S b->S' b) (hw:gm S w w') (hd:∀d,r.dst=some d->d<a.tmps.size)
  (hv:aj O.ai m' S' w' (vF i) u):Pq O rs cm D' m' S' w' (a.put r.dst u):=by
 intro t;have FL:i<rs.length:=(xR.1 hr).1;by_cases Kx:r.dst=some t
 ·refine ⟨i+1,FL,fun l rl hl VL=>?_,?_⟩
  ·rw [hD];constructor
   ·rintro (h | h)
    ·rcases wO l (i+1) with g | g
     ·grind
     ·rcases hG.pair i l r rl (by omega) hr hl with ho | hf
      ·grind
      ·exact (((Lw hf.1).1 t Kx).2 VL).elim
    ·omega
   ·intro h;rcases wF (uQ h) with h | h
    ·grind
    ·rcases hG.pair l i rl r h hl hr with ho | hf
     ·grind
     ·exact (((Lw hf.1).1 t VL).2 Kx).elim
  ·rw [hG.run.tm i r hr,RL,RM hd,yI Kx,yI Kx];exact hv
 ·obtain ⟨j,h1,h2,h3⟩:=hT t;refine ⟨j,h1,fun l rl hl VL=>?_,?_⟩
  ·grind
  ·rw [RM hd,yB Kx];exact mi hm hS hw _ _ h3
def Ya {tm:Env} {hp ao:Hp} {ct bg id off sz VH t:Nat} {ag:Bool} {x y:X} {v v':AV}:∀{l:List (Nat×Bool×Nat)},oK tm id l=true->(sz,ag,t)∈l->aA tm x= .ptr id off->
  di tm hp ct (.st VH x y)=some (v',ao,bg)->jd hp sz ag (af tm t)=some v->jd ao sz ag (af tm t)=some v
 | [],_,h,_,_,_=>by cases h
 | (s,g,u)::r,h,hm,hx,hw,hv=>by
  simp only [oK,yg] at h;rcases wk.1 hm with e | hm
  ·simp only [yk] at e;obtain ⟨rfl,rfl,rfl⟩:=e;have h1:=h.1
   split at h1
   ·rename_i j o hj;have eK:j≠id:=by
     intro e
     simp_all
    rw [hj] at hv ⊢;simp only [di,hx] at hw;have key:∀ob,ak (aW hp id ob) j=ak hp j:=fun ob=>by rw [re,yB (ybj eK)]
    split at hw
    ·rename_i pu ex z cs FM;generalize (yu _ _&&yG _ _&&bK _)=bb at hw
     cases bb with
     | false=>cases hw
     | true=>
      obtain ⟨_,rfl,_⟩:=hw;simp only [jd,key] at hv ⊢;exact hv
    ·cases hw
   ·rename_i cs hj;rw [hj] at hv ⊢;simpa only [jd] using hv
   ·cases h1
  ·exact Ya h.2 hm hx hw hv
def XW {D:Nat->Prop} {i c:Nat} {r:bn} {sz t:Nat} {ag:Bool} (hG:rD O H self ops rs cm bR bM vF) (hr:rs[i]? =some r) (hi:¬D i) (BU:r.guard=none/\r.op= .ld sz ag (.t t)) (hc:c<=rs.length)
  (hW:∀j,j<c->jV rs j->D j) (gQ:∀j,Ord ops i j->¬D j) (bi:∀j,j<=c->∀id o,ak (bR j) id=some o->id<bM j):∀k,i+1+k<=c->jd (bR (i+1+k)) sz ag (af (cm i) t)=some (vF i)
 | 0,hk=>by
  have h1:=hG.run.step i r hr;simp only [fh,BU.1,oP,BU.2] at h1;obtain ⟨h2,h3,h4⟩:=aan (.inr ⟨_,_,_,rfl⟩) h1;simp only [bE,aA] at h2
  grind
 | k+1,hk=>by
  have ih:=XW hG hr hi BU hc hW gQ bi k (by omega);have hl:i+1+k<rs.length:=by omega
  have hj:rs[i+1+k]? =some rs[i+1+k]:=by simp [hl]
  have aX:=hG.run.step _ _ hj;rw [show i+1+(k+1)=i+1+k+1 by omega];rcases vI (jV rs (i+1+k)) with hw | hw
  ·have hD:=hW _ (by omega) hw;rcases hG.pair i (i+1+k) r _ (by omega) hr hj with ho | hf
   ·grind
   ·obtain ⟨sn,il⟩:=hf;obtain ⟨fc,h5,h6⟩:=hw;rw [hj] at h5;injection h5 with h5
    subst h5;rcases il with il | il
    ·have h1k:bH r.op=1:=by rw [BU.2];rfl
     simp only [HG,h1k,h6] at il;cases il
    ·unfold Ia at il;simp only [BU.1,BU.2] at il;generalize jU:(rs[i+1+k]).op=q at il;have adW:EW t (r::(rs.take (i+1+k)).drop (i+1))=true->af (cm (i+1+k)) t=af (cm i) t:=by
      intro au0;have lX:=YE au0;rw [show i+1+k=i+(1+k) by omega];refine HM hG.run (1+k) (by omega) (fun l rl g1 g2 Ky=>lX rl ?_);rcases wF g1 with rfl | g1
      ·grind
      ·refine wY _ ?_
       have:((rs.take (i+1+k)).drop (i+1))[l-(i+1)]? =some rl:=by
        rw [List.getElem?_drop,List.getElem?_take_of_lt (by omega),show i+1+(l-(i+1))=l by omega];exact Ky
       exact List.mem_of_getElem? this
     unfold fh at aX
     cases hg:oP (cm (i+1+k)) (rs[i+1+k]).guard with
     | none=>simp [hg] at aX
     | some b=>
      cases b with
      | false=>
       simp only [hg,yc,yk] at aX;rw [<-aX.2.1];exact ih
      | true=>
       simp only [hg,jU] at aX;cases q<;>simp only [yD] at il
       case iy Pr fx xs=>
        simp only [yg] at il;have rI:=Rg il.1;have Kz:=adW il.2;simp only [bw] at aX
        cases iR:dF O.prog O.aU self (bR (i+1+k)) (bM (i+1+k)) .dyn (aA (cm (i+1+k)) fx) (dG (cm (i+1+k)) xs) with
        | none=>simp [iR] at aX
        | some z=>
         obtain ⟨v1,bF,sj⟩:=z;simp only [iR] at aX
         cases hs:qg (cm (i+1+k)) (bR (i+1+k)) bF Pr with
         | false=>rw [hs] at aX;cases aX
         | true=>
          rw [hs] at aX;simp only [ym,yc,yk] at aX;obtain ⟨_,h8,_⟩:=aX;rw [<-h8,<-Kz];exact XV hs rI (by rw [Kz];exact ih)
       case jA Pr VH x v=>
        simp only [yg] at il;have rI:=Rg il.1;have Kz:=adW il.2;simp only [bw] at aX
        split at aX
        ·rename_i id off hx
         cases hs:oK (cm (i+1+k)) id Pr with
         | false=>rw [hs] at aX;cases aX
         | true=>
          rw [hs] at aX;simp only [ym] at aX;rw [<-Kz];exact Ya hs rI hx aX (by rw [Kz];exact ih)
        ·cases aX
  ·exact abh (Zr (Ic hj hw) aX (bi _ (by omega))).le ih
structure Inv (O:bA) (ops:Array yZ) (rs:List bn) (cm:Nat->Env) (bR:Nat->Hp) (bM:Nat->Nat) (D:Nat->Prop) (m0:Mp) (S0:Nat->Prop) (w0:yi) (n0:Nat) (d0:List yaZ) (st c:Nat) (m:Mp) (S:Nat->Prop) (w:yi) (a:Act):Prop where
 VM:st<=c
 cn:c<=rs.length
 before:∀i,i<st->jV rs i->D i
 FN:∀i,st<=i->i<c->¬jV rs i
 cut:c=rs.length\/(jV rs c/\¬D c)
 behind:∀(i:Nat) (r:bn),c<=i->rs[i]? =some r->1<=bH r.op->¬D i
 hp:bf O m S w (bR c) (bM c)
 VN:∀id p,m id=some p->id<bM st\/∃i,st<=i/\i<c/\D i/\bM i<=id/\id<bM (i+1)
 tm:Pq O rs cm D m S w a
 Ps:cB m0 S0 w0 (bR 0) m S w (bR c) (bM 0)
 ge:bM 0<=bM c
 size:a.tmps.size=n0
 defers:a.defers=d0
 Ai:st=0\/jV rs (st-1)
 FO:∀j,j<=c->∀id o,ak (bR j) id=some o->id<bM j
end
end
section
open Go
section
variable {O:bA} {H:Hint} {ops:Array yZ} {rs:List bn} {cm:Nat->Env} {bR:Nat->Hp} {bM:Nat->Nat} {vF:Nat->AV} {self:cK} {ro:Option Nat} {Q:uz->Act->yi->Prop}
variable {D D':Nat->Prop} {m0:Mp} {S0:Nat->Prop} {w0:yi} {n0:Nat} {d0:List yaZ} {st c i:Nat} {m:Mp} {S:Nat->Prop} {w:yi} {a:Act} {r:bn} {o:yZ}
def L4 (hG:rD O H self ops rs cm bR bM vF) (hI:Inv O ops rs cm bR bM D m0 S0 w0 n0 d0 st c m S w a) {x y:Nat} (hx:st<=x) (hxy:x<=y) (hy:y<=c):iJ (bR x) (bM x) (bR y) (bM y):=by
 obtain ⟨k,rfl⟩:∃k,y=x+k:=⟨y-x,by omega⟩
 have:=hI.cn
 exact L3 hG.run (hI.FO x (by omega)) k (by omega) (fun j r h1 h2 hr=>Ic hr (hI.FN j (by omega) (by omega)))
def RP (hG:rD O H self ops rs cm bR bM vF) (hI:Inv O ops rs cm bR bM D m0 S0 w0 n0 d0 st c m S w a) (hr:rs[i]? =some r) (hi:¬D i) (fp:∀j,Ord ops j i->D j) (gQ:∀j,Ord ops i j->¬D j) (hD:∀j,D' j↔D j\/j=i)
  (hd:∀d,r.dst=some d->d<a.tmps.size) (hw:¬jV rs i) (Ag:bH r.op=0\/i<c) {m':Mp} {S':Nat->Prop} {w':yi} {u:yf} (k1:bf O m' S' w' (bR c) (bM c)) (k2:dM m m')
  (k3:∀id p,m' id=some p->m id=some p\/(st<=i/\i<c/\bM i<=id/\id<bM (i+1))) (k4:aj O.ai m' S' w' (vF i) u) (k5:cB m S w (bR c) m' S' w' (bR c) (bM c)):
  Inv O ops rs cm bR bM D' m0 S0 w0 n0 d0 st c m' S' w' (a.put r.dst u) where
 VM:=hI.VM
 cn:=hI.cn
 before j hj Dx:=(hD j).2 (.inl (hI.before j hj Dx))
 FN:=hI.FN
 cut:=hI.cut.imp (fun h=>h) (fun h=>⟨h.1,fun hc=>((hD c).1 hc).elim h.2 (fun e=>hw (e▸h.1))⟩)
 behind j rj hj Dy hk KA:=((hD j).1 KA).elim (hI.behind j rj hj Dy hk) (fun e=>by
  subst e;rw [hr] at Dy;injection Dy with Dy
  subst Dy
  rcases Ag with h | h<;>omega)
 hp:=k1
 VN id p hp:=by
  rcases k3 id p hp with h | ⟨h1,h2,h3,h4⟩
  ·rcases hI.VN id p h with h | ⟨j,g1,g2,g3,g4,g5⟩
   ·exact .inl h
   ·exact .inr ⟨j,g1,g2,(hD j).2 (.inl g3),g4,g5⟩
  ·exact .inr ⟨i,h1,h2,(hD i).2 (.inr rfl),h3,h4⟩
 tm:=abp hG hI.tm hr hi fp gQ hD k2 k5.sub (fun b hb=>k5.still b hb) hd k4
 Ps:=hI.Ps.trans (k5.rH hI.ge)
 ge:=hI.ge
 size:=by rw [Mm];exact hI.size
 defers:=by rw [QR];exact hI.defers
 Ai:=hI.Ai
 FO:=hI.FO
def abq (hG:rD O H self ops rs cm bR bM vF) (hI:Inv O ops rs cm bR bM D m0 S0 w0 n0 d0 st c m S w a) (hr:rs[c]? =some r) (hi:¬D c) (fp:∀j,Ord ops j c->D j) (gQ:∀j,Ord ops c j->¬D j) (hD:∀j,D' j↔D j\/j=c)
  (hd:∀d,r.dst=some d->d<a.tmps.size) (hw:jV rs c) {m':Mp} {S':Nat->Prop} {w':yi} {u:yf} (k1:bf O m' S' w' (bR (c+1)) (bM (c+1))) (k2:bM c<=bM (c+1))
  (k4:aj O.ai m' S' w' (vF c) u) (k5:cB m S w (bR c) m' S' w' (bR (c+1)) (bM c)):
  ∃c' BO,Inv O ops rs cm bR bM D' m0 S0 w0 n0 d0 (c+1) c' m' BO w' (a.put r.dst u):=by
 have iR:c<rs.length:=(xR.1 hr).1;obtain ⟨c',h1,h2,h3,h4⟩:=SF rs (rs.length-(c+1)) (c+1) (by omega);obtain ⟨k,rfl⟩:∃k,c'=c+1+k:=⟨c'-(c+1),by omega⟩;have hg:∀k',k'<=k->iJ (bR (c+1)) (bM (c+1)) (bR (c+1+k')) (bM (c+1+k')):=fun k' pz=>
  L3 hG.run k1.bi k' (by omega) (fun j r g1 g2 hr=>Ic hr (h3 j g1 (by omega)))
 obtain ⟨BO,g1,g2,g3,g4⟩:=Ml k1 (hg k (yC _));have hml:dM m m':=fun id p h=>k5.old id p (hI.hp.lt id p h) h
 refine ⟨c+1+k,BO,⟨by omega,h2,?_,h3,?_,?_,g1,fun id p h=> .inl (k1.lt id p h),?_,?_,?_,by rw [Mm];exact hI.size,by rw [QR];exact hI.defers,.inr (by simpa using hw),?_⟩⟩
 ·intro j hj Dx;rcases wF (uQ hj) with e | hj
  ·exact (hD j).2 (.inr e)
  ·rcases wO j st with g | g
   ·exact (hD j).2 (.inl (hI.before j g Dx))
   ·exact (hI.FN j g hj Dx).elim
 ·refine h4.imp (fun h=>h) (fun h=>⟨h,fun hc=>?_⟩);obtain ⟨rc,VO,Ag⟩:=h;rcases (hD _).1 hc with g | g
  ·exact hI.behind _ rc (by omega) VO (by omega) g
  ·omega
 ·intro j rj hj Dy hk KA;rcases (hD j).1 KA with g | g
  ·exact hI.behind j rj (by omega) Dy hk g
  ·omega
 ·exact abp hG hI.tm hr hi fp gQ hD hml (fun b hb=>g2 b (k5.sub b hb)) (fun b hb=>k5.still b hb) hd (mi (fun _ _ h=>h) g2 (fun _ _=>rfl) _ _ k4)
 ·exact (hI.Ps.trans (k5.rH hI.ge)).trans (g4 (bM 0))
 ·have:=(hg k (yC _)).pH
  have:=hI.ge
  omega
 ·intro j hj;rcases wO c j with g | g
  ·obtain ⟨k',rfl⟩:∃k',j=c+1+k':=⟨j-(c+1),by omega⟩;exact (hg k' (by omega)).lt
  ·exact hI.FO j g
def amv {q:Op} (h:bH q≠2):mZ q=q:=by
 cases q<;>first
  | rfl
  | exact absurd rfl h
def YF {x y:bn} {l:List bn} (h:NU x y l):¬(bH x.op=2/\1<=bH y.op)/\(1<=bH x.op->bH y.op=2->x.guard=none/\∃sz ag t,x.op= .ld sz ag (.t t)):=by
 obtain ⟨_,h⟩:=h;have ex:Ia x y l=true->x.guard=none/\∃sz ag t,x.op= .ld sz ag (.t t):=by
  intro he;unfold Ia at he
  grind
 have k2:∀q:Op,bH q<=2:=fun q=>by
  cases q with
  | ez k x lo hi=>cases k<;>simp [bH]
  | len k x=>rcases k with _ | _ | k<;>simp [bH]
  | call md f xs=>cases md<;>simp [bH]
  | _=>simp [bH]
 constructor
 ·rintro ⟨h1,h2⟩;rcases h with h | h
  ·have:bH y.op=1\/bH y.op=2:=by grind
   rcases this with e | e<;>(simp only [HG,h1,e] at h;cases h)
  ·obtain ⟨_,sz,ag,t,e⟩:=ex h;rw [e] at h1;cases h1
 ·intro h1 h2;rcases h with h | h
  ·have:bH x.op=1\/bH x.op=2:=by grind
   rcases this with e | e<;>(simp only [HG,h2,e] at h;cases h)
  ·exact ex h
def amw (hC:nD O self) (hH:fT O H) (hG:rD O H self ops rs cm bR bM vF) (hn:H.n<=n0) (hI:Inv O ops rs cm bR bM D m0 S0 w0 n0 d0 st c m S w a) (hr:rs[i]? =some r) (ho:ops[i]? =some o) (hi:¬D i)
  (fp:∀j,Ord ops j i->D j) (gQ:∀j,Ord ops i j->¬D j) (hD:∀j,D' j↔D j\/j=i) {K:Act->yi->Prop}
  (hK:∀st' c' m' S' w' a',Inv O ops rs cm bR bM D' m0 S0 w0 n0 d0 st' c' m' S' w' a'->K a' w'):wpOpIn (WF ro) 0 O.P ops Q i K a w:=by
 have dh:=hG.of i r o hr ho;have TJ:=aoO hG hI.tm hr hi fp gQ;have aX:=hG.run.step i r hr;have hd:∀d,r.dst=some d->d<a.tmps.size:=by
  rw [dh.dst];exact aam dh.ok (by rw [hI.size];exact hn)
 have lD:=hI.VM;have lW:1<=bH r.op->i<=c:=by
  intro hk;rcases wO c i with VP | VP
  ·have FL:i<rs.length:=(xR.1 hr).1;rcases hI.cut with h | ⟨⟨rc,VO,Ag⟩,Ko⟩
   ·omega
   ·rcases hG.pair c i rc r VP VO hr with h | h
    ·exact (Ko (fp c h)).elim
    ·exact ((YF h).1 ⟨Ag,hk⟩).elim
  ·exact VP
 have hwc:jV rs i->i=c:=by
  intro hw;obtain ⟨fc,h1,h2⟩:=hw;rw [hr] at h1;injection h1 with h1
  subst h1;have h3:=lW (by omega);rcases wF h3 with e | h3
  ·exact e
  ·rcases wO i st with g | g
   ·exact (hi (hI.before i g ⟨r,hr,h2⟩)).elim
   ·exact (hI.FN i g h3 ⟨r,hr,h2⟩).elim
 have bi:1<=bH r.op->¬jV rs i->i<c:=by
  intro hk hw;rcases wF (lW hk) with e | h
  ·subst e;rcases hI.cut with h | h
   ·have FL:i<rs.length:=(xR.1 hr).1;omega
   ·exact (hw h.1).elim
  ·exact h
 have Ag:¬jV rs i->bH r.op=0\/i<c:=fun hw=>by
  rcases xo (bH r.op) with h | h
  ·exact .inl h
  ·exact .inr (bi h hw)
 unfold wpOpIn;simp only [ho];unfold fh at aX
 cases Pt:oP (cm i) r.guard with
 | none=>simp [Pt] at aX
 | some b=>
  have VI:=Zo dh.guard (fun t ht=>TJ t (by simp [Cz,ht])) Pt;rw [VI]
  cases b with
  | false=>
   simp only [Pt,yc,yk] at aX;obtain ⟨hv,hh,hc⟩:=aX;simp only [yD,yO];refine ⟨fun _ _=>trivial,?_⟩;have eY:∀m S w,aj O.ai m S w (vF i) undef:=fun m S w=>by rw [<-hv];simp [aj,au,undef]
   rw [<-dh.dst];rcases vI (jV rs i) with hw | hw
   ·have e:=hwc hw;subst e;obtain ⟨c',BO,h⟩:=abq hG hI hr hi fp gQ hD hd hw (m':=m) (S':=S) (w':=w) (u:=undef) (by rw [<-hh,<-hc];exact hI.hp) (by omega) (eY _ _ _) (by rw [<-hh];exact cB.refl)
    exact hK _ _ _ _ _ _ h
   ·exact hK _ _ _ _ _ _ (RP hG hI hr hi fp gQ hD hd hw (Ag hw) (m':=m) (S':=S) (w':=w) (u:=undef) hI.hp dM.refl (fun _ _ h=> .inl h) (eY _ _ _) cB.refl)
  | true=>
   simp only [Pt] at aX;simp only [y5];have lX:=X9 dh.op aX;have Pu:cw O m S w (df (cm i) (kO r.op)) a.tmps:=fun t=>by
    rcases vI (t∈kO r.op) with h | h
    ·rw [Mn h];exact TJ t (by simp [Cz,h])
    ·have:af (df (cm i) (kO r.op)) t= .undef:=by
      clear TJ aX;revert h;generalize kO r.op=l;intro h
      induction l with
      | nil=>rfl
      | cons x l ih=>
       simp only [df,af];have hx:yu x t=false:=by
        cases hq:yu x t with
        | false=>rfl
        | true=>exact absurd (by rw [yp hq];exact List.mem_cons_self) h
       rw [hx];exact ih (fun h'=>h (wY _ h'))
     rw [this];simp only [aj]
   have Dz:bw O.prog O.aU self (df (cm i) (kO r.op)) (bR i) (bM i) (mZ r.op)=some (vF i,bR (i+1),bM (i+1)):=
    akv (fun t ht=>Mn ht) aX
   have ab8:¬jV rs i->mZ r.op=r.op:=fun hw=>amv (fun h=>hw ⟨r,hr,h⟩)
   have now:¬jV rs i->bE (df (cm i) (kO r.op)) (bR c) r.op=some (vF i)->Oper.wpIn (WF ro) 0 O.P o a w K Q:=by
    intro hw lC;have jU:∃k,r.op=bt O.P H k o:=by
     rcases dh.op with h | ⟨cc,f,rr,_,_,h⟩ | ⟨_,_,_,_,_,_,_,h⟩
     ·exact h
     ·rw [h] at lC;simp [bE] at lC
     ·rw [h] at lC;simp [bE] at lC
    obtain ⟨k,hk⟩:=jU;rw [hk] at lC;rw [hk] at Pu;obtain ⟨u,h1,h2⟩:=abb hH Pu hI.hp lC;refine M0 lX h1 (.inl rfl) ?_;rw [<-dh.dst];exact hK _ _ _ _ _ _ (RP hG hI hr hi fp gQ hD hd hw (Ag hw) hI.hp dM.refl (fun _ _ h=> .inl h) h2 cB.refl)
   rcases vI (jV rs i) with hw | hw
   ·have e:=hwc hw;subst e;refine aal hC hH (ajk dh.op) lX Dz Pu hI.hp (fun u m' S' w' k1 k2 k3 k4=>?_);rw [<-dh.dst];obtain ⟨c',BO,h⟩:=abq hG hI hr hi fp gQ hD hd hw k1 k2 k3 k4;exact hK _ _ _ _ _ _ h
   ·rcases xo (bH r.op) with hk | hk
    ·have Dz:=ab8 hw▸Dz;obtain ⟨h1,_,_⟩:=aan (.inl hk) Dz;exact now hw (by rw [akm hk (bR c) (bR i)];exact h1)
    ·have FI:=bi hk hw;rcases wO i st with TK | TK
     ·
      rcases hI.Ai with h0 | h0
      ·omega
      ·have bF:D (st-1):=hI.before _ (by omega) h0;have eK:i≠st-1:=fun e=>hi (e▸bF)
       obtain ⟨rp,hrp,hkp⟩:=h0;rcases hG.pair i (st-1) r rp (by omega) hr hrp with h | h
       ·exact (gQ _ h bF).elim
       ·obtain ⟨hg,sz,ag,t,jU⟩:=(YF h).2 hk hkp;have hl:=XW (c:=c) hG hr hi ⟨hg,jU⟩ hI.cn (fun j hj Dx=>by
         rcases wO j st with g | g
         ·exact hI.before j g Dx
         ·exact (hI.FN j g hj Dx).elim) gQ hI.FO (c-(i+1)) (by omega)
        rw [show i+1+(c-(i+1))=c by omega] at hl;refine now hw ?_;rw [jU];simp only [bE,aA];rw [Mn (by simp [kO,jI])];exact hl
     ·have gU:=L4 hG hI (x:=i+1) (y:=c) (by omega) FI (yC _);have KB:=L4 hG hI (x:=st) (y:=i) (yC _) TK (by omega)
      refine quiet_step (Hq:=bR c) (cH:=bM c) hC hH (Ic hr hw) dh.op lX (ab8 hw▸Dz) gU.le gU.pH (hI.FO i (by omega)) ?_ Pu hI.hp (fun u m' S' w' k1 k2 k3 k4 k5=>?_)
      ·intro id h1 h2
       cases hm:m id with
       | none=>rfl
       | some p=>
        rcases hI.VN id p hm with h | ⟨j,q1,q2,q3,q4,q5⟩
        ·have:=KB.pH;omega
        ·rcases Nat.lt_trichotomy j i with g | g | g
         ·have:=(L4 hG hI (x:=j+1) (y:=i) (by omega) g (by omega)).pH;omega
         ·subst g;exact (hi q3).elim
         ·have:=(L4 hG hI (x:=i+1) (y:=j) (by omega) g (by omega)).pH;omega
      ·rw [<-dh.dst];exact hK _ _ _ _ _ _ (RP hG hI hr hi fp gQ hD hd hw (.inr FI) k1 k2 (fun id p h=>(k3 id p h).imp (fun h=>h) (fun h=>⟨TK,FI,h.1,h.2⟩)) k4 k5)
def left (n:Nat) (listed:Array Bool):Nat:=(List.range n).countP fun i=> !listed.getD i false
def amx {n:Nat} {listed:Array Bool} {i:Nat} (hi:i<n) (hs:listed.size=n) (hl:listed.getD i true=false):left n (listed.setIfInBounds i true)+1=left n listed:=by
 have key:∀(l:List Nat),l.Nodup->(i∈l->(l.countP fun j=> !(listed.setIfInBounds i true).getD j false)+1=l.countP fun j=> !listed.getD j false)/\(i∉l->(l.countP fun j=> !(listed.setIfInBounds i true).getD j false)=l.countP fun j=> !listed.getD j false):=by
  intro l
  induction l with
  | nil=>intro _;exact ⟨fun h=>(by cases h),fun _=>rfl⟩
  | cons x l ih=>
   intro lX;have hx:x≠i->(listed.setIfInBounds i true).getD x false=listed.getD x false:=fun h=>getD_set_ne false (ybj h)
   refine ⟨fun hm=>?_,fun hm=>?_⟩
   ·rw [yab,yab];by_cases e:x=i
    ·simp_all
    ·grind
   ·grind
 exact (key _ List.nodup_range).1 (List.mem_range.2 hi)
def akw {n:Nat} {listed:Array Bool} (h:left n listed=0):∀i,i<n->listed.getD i false=true:=by
 unfold left at h
 simp_all
def akx {listed:Array Bool} (hs:listed.size=ops.size) (hb:∀(i:Nat) (o:yZ),ops[i]? =some o->∀e,e∈o.after->Region.binds .any e=true->e.on<i) (h:Region.ready .any ops listed=[]):∀i,i<ops.size->listed.getD i false=true:=by
 intro i
 induction i using vL with
 | _ i ih=>
  intro hi
  cases hq:listed.getD i false with
  | true=>rfl
  | false=>
   have:i∈Region.ready .any ops listed:=by
    refine mem_ready.2 ⟨?_,ops[i],by simp [hi],fun e he se=>?_⟩
    ·have bi:i<listed.size:=by omega
     simp only [wM,bi,Array.getElem?_eq_getElem,wT] at hq ⊢;exact hq
    ·have:=hb i ops[i] (by simp [hi]) e he se
     exact ih e.on this (by omega)
   rw [h] at this;cases this
def aoP (hG:rD O H self ops rs cm bR bM vF) (hI:Inv O ops rs cm bR bM D m0 S0 w0 n0 d0 st c m S w a) (mE:∀i,i<rs.length->D i):
  bf O m S w (bR rs.length) (bM rs.length)/\cw O m S w (cm rs.length) a.tmps/\cB m0 S0 w0 (bR 0) m S w (bR rs.length) (bM 0)/\bM 0<=bM rs.length:=by
 have hc:c=rs.length:=by
  rcases hI.cut with h | ⟨⟨r,h1,_⟩,h2⟩
  ·grind
  ·grind
 subst hc;refine ⟨hI.hp,fun t=>?_,hI.Ps,hI.ge⟩;obtain ⟨j,h1,h2,h3⟩:=hI.tm t;obtain ⟨k,hk⟩:∃k,rs.length=j+k:=⟨rs.length-j,by omega⟩
 have:=HM (t:=t) (i:=j) hG.run k (by omega) (fun l r g1 g2 hl hd=>by
  have:=(h2 l r hl hd).1 (mE l (xR.1 hl).1)
  omega)
 grind
def aqT (hC:nD O self) (hH:fT O H) (hG:rD O H self ops rs cm bR bM vF) (hn:H.n<=n0)
  (hQ:∀a' m' S' w',bf O m' S' w' (bR rs.length) (bM rs.length)->bM 0<=bM rs.length->cw O m' S' w' (cm rs.length) a'.tmps->cB m0 S0 w0 (bR 0) m' S' w' (bR rs.length) (bM 0)->a'.tmps.size=n0->a'.defers=d0->Q .normal a' w'):
  ∀(bB:Nat) (listed:Array Bool) (st c:Nat) (m:Mp) (S:Nat->Prop) (w:yi) (a:Act),listed.size=ops.size->left ops.size listed=bB->SE ops (fun i=>listed.getD i false=true)->
   Inv O ops rs cm bR bM (fun i=>listed.getD i false=true) m0 S0 w0 n0 d0 st c m S w a->wpAnyIn (WF ro) 0 O.P .any ops Q bB listed a w:=by
 have fin:∀(listed:Array Bool) (st c:Nat) (m:Mp) (S:Nat->Prop) (w:yi) (a:Act),Inv O ops rs cm bR bM (fun i=>listed.getD i false=true) m0 S0 w0 n0 d0 st c m S w a->(∀i,i<ops.size->listed.getD i false=true)->Q .normal a w:=by
  intro listed st c m S w a hI mE;obtain ⟨h1,h2,h3,h4⟩:=aoP hG hI (fun i hi=>mE i (by rw [<-hG.len];exact hi))
  exact hQ a m S w h1 h4 h2 h3 hI.size hI.defers
 intro bB
 induction bB with
 | zero=>
  intro listed st c m S w a hs hl hc hI;have mE:=akw hl;refine ⟨?_,fin listed st c m S w a hI mE⟩;rw [List.eq_nil_iff_forall_not_mem];intro i hm;obtain ⟨h1,o,ho,_⟩:=mem_ready.1 hm
  grind
 | succ bB ih=>
  intro listed st c m S w a hs hl hc hI;refine ⟨fun h=>fin listed st c m S w a hI (akx hs hG.back h),fun i hm=>?_⟩;obtain ⟨h1,o,ho,h2⟩:=mem_ready.1 hm;have hi:i<ops.size:=(Array.getElem?_eq_some_iff.1 ho).1;have hr:rs[i]? =some (rs[i]'(by rw [hG.len];exact hi)):=by simp [hG.len,hi]
  have bi:i<listed.size:=by omega
  have hni:¬listed.getD i false=true:=by
   grind
  have hD:∀j,(listed.setIfInBounds i true).getD j false=true↔listed.getD j false=true\/j=i:=by
   intro j;by_cases e:j=i
   ·simp_all
   ·rw [getD_set_ne false (ybj e)];simp [e]
  refine amw hC hH hG hn hI hr ho hni (Zq hc i o ho h2) (fun j hj KA=>?_) hD (fun st' c' m' S' w' a' VQ=>ih (listed.setIfInBounds i true) st' c' m' S' w' a' (by simp [hs]) ?_ ?_ VQ)
  ·have hjl:j<ops.size:=by
    grind
   exact hni (amu hc (show ops[j]? =some ops[j] by simp [hjl]) KA hj)
  ·have:=amx hi hs h1
   omega
  ·intro j oj hoj hj e he hb;rw [hD];rcases (hD j).1 hj with g | g
   ·exact .inl (hc j oj hoj g e he hb)
   ·grind
end
end
end VE
