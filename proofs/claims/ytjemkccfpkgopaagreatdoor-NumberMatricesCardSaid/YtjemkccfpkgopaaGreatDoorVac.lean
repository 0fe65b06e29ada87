import Derived.OrdersIn
import Derived.LoopNIn
import Derived.RangeFuncIn
import Derived.Test.YtjemkccfpkgopaaGreatDoorVab
import Derived.Test.YtjemkccfpkgopaaGreatDoorVaa
set_option linter.all false
set_option maxRecDepth 100000
open Array renaming getD_eq_getD_getElem?→vd,getElem?_eq_some_iff→xy,replicate→uR
open Bool renaming and_eq_true→yh,false_eq_true→yL,not_eq_true'→uz,or_eq_false_iff→yah,or_eq_true→tr
open Classical renaming em→ui
open Go renaming Call→yai,Code→wU,Deferred→tu,Exit→um,Loop→uP,Obj→tp,Oper→y8,Operand→xz,Program→y9,Value→yg,World→yi
open List renaming countP_cons→yaI,getElem?_cons_zero→vI,getElem?_eq_some_iff→wF,length_append→yN,length_cons→yI,length_nil→yP,mem_append→wK,mem_cons→wR,mem_cons_of_mem→wS,mem_cons_self→vD
open Nat renaming beq→yx,ble→yG,eq_of_beq_eq_true→yt,eq_or_lt_of_le→wZ,eq_zero_or_pos→xq,le_of_lt_succ→tM,le_refl→yv,le_trans→xj,lt_of_lt_of_le→yU,lt_or_ge→vt,lt_succ_self→yaM,strongRecOn→vJ,testBit→uF,zero_add→ye,zero_le→ue
open Ne renaming symm→ybJ
open Option renaming bind_some→xO,getD_some→ux
open Option.some renaming injEq→yd
open Prod.mk renaming injEq→yq
namespace VE
section
open Go
section
variable {O:bA} {H:Hint} {m:Mp} {S:Nat->Prop} {w:yi} {tm:Env} {a:Act} {hp ak Hq:Hp} {ct aP cH:Nat} {self:cD} {ro:Option Nat} {next:Act->yi->Prop} {Q:um->Act->yi->Prop}
def ap1 {g:tp} {p:Pl} {S':Nat->Prop} {base:Nat} (hh:aW O m S w Hq cH) (hi:m ct=none) (hb:p.b=w.heap.size) (h1:∀b,S b->S' b) (h2:∀b,S' b->S b\/b=w.heap.size):
  cp m S w Hq (fN m ct p) S' (w.alloc g) Hq base where
 os:=rfl
 tape:=rfl
 output:=rfl
 size:=by simp
 same b hb _:=alloc_old hb
 sub:=h1
 still b hb:=alloc_old (hh.slt b hb)
 new b hb:=(h2 b hb).imp (fun h=>h) (fun h=> .inr (by omega))
 own b hb:=by
  obtain ⟨i,o,q,g1,g2,g3⟩:=hb;by_cases hc:i=ct
  ·subst hc;rw [eE] at g2
   grind
  ·rw [eD hc] at g2;exact .inl ⟨i,o,q,g1,g2,g3⟩
 old i q _ h:=kK hi i q h
 loops b r hb:=⟨r,(alloc_old (xy.1 hb).1).trans hb⟩
def abx {NU az:List AV} {us:List yg} {bl:Hp} (hz:cO deep hp NU=some (az,bl)) (hl:di bl Hq) (hh:aW O m S w Hq cH) (hr:aA O.ah m S w NU us):aA O.ah fa S w az us/\aK az=true:=by
 obtain ⟨_,_,h3⟩:=Ry (O:=O) hz;obtain ⟨k1,k2⟩:=h3 Hq m S w cH hl hh;exact ⟨zp (fun _ h=>h) (fun _ _=>rfl) _ _ k2 (k1 us hr),k2⟩
def SG (hh:aW O m S w Hq cH):Bn O w:=⟨hh.lG,hh.fY⟩
def MT (hH:fR O H) (ht:cm O m S w tm a.tmps) {f:xz} {g:Nat} {first cap:List AV} {args:Array xz} (hf:aF tm (aS H f)= .fn (.f g) first cap):
  ∃fi ca:Array yg,a.eval f= .func (.func (O.ah g)) fi ca/\aA O.ah m S w (first++(dD tm (ig H args.toList)++cap)) (fi++args.map a.eval++ca).toList:=by
 have rf:=cB hH ht f;rw [hf] at rf;obtain ⟨fi,ca,h1,h2,h3⟩:=rf;refine ⟨fi,ca,h1,?_⟩
 have:=lX h2 (lX (CV hH ht args.toList) h3)
 simp_all
def aoY (hC:nN O self) (hH:fR O H) {o:y8} {c:yai} {f:xz} (ho:o.op= .call c) (iR:c.callee= .value f) {g:Nat} {first cap az:List AV} {bl:Hp} {r:AV}
  (hf:aF tm (aS H f)= .fn (.f g) first cap) (hz:cO deep hp (first++(dD tm (ig H c.args.toList)++cap))=some (az,bl)) (hr:bP O.prog O.aE self g az=some r)
  (hl:di bl Hq) (ht:cm O m S w tm a.tmps) (hh:aW O m S w Hq cH)
  (hn:∀u S' w',aW O m S' w' Hq cH->ai O.ah m S' w' (shut r) u->cp m S w Hq m S' w' Hq cH->next (a.put o.dst u) w'):o.wpIn (WF ro) 0 O.P a w next Q:=by
 obtain ⟨fi,ca,h1,h2⟩:=MT hH ht (args:=c.args) hf;obtain ⟨h3,h4⟩:=abx hz hl hh h2;refine Mo ho iR h1 (hC.pure g az r hr w S _ (SG hh) hh.slt h3 h4) ?_;rintro e w' ⟨u,S',rfl,hw,g1,g2,g3,g4⟩;refine ⟨u,rfl,?_⟩;obtain ⟨S2,k1,k2,k3⟩:=acD g4 m;have hS:∀b,S b->S2 b:=fun b hb=>k1 b (g1 b hb)
 have Lf:∀b,S2 b->S b\/w.heap.size<=b:=fun b hb=>(k2 b hb).elim (g2 b) (fun h=> .inr h.1)
 have hl:∀b,S2 b->b<w'.heap.size:=fun b hb=>(k2 b hb).elim (g3 b) (fun h=>h.2)
 exact hn u S2 w' (EJ hh hw hS Lf hl) k3 (CJ hh hw hS Lf)
def ap2 (hC:nN O self) (hH:fR O H) {o:y8} {c:yai} {f:xz} (ho:o.op= .call c) (iR:c.callee= .value f) {g:Nat} {first cap az:List AV} {bl:Hp} {r:AV}
  (hf:aF tm (aS H f)= .fn (.f g) first cap) (hz:cO deep hp (first++(dD tm (ig H c.args.toList)++cap))=some (az,bl)) (hr:bP O.prog O.aE self g az=some r)
  (hl:di (own bl ct r).2.1 Hq) (eX:(own bl ct r).2.2<=cH) (aZ:∀id o,ay hp id=some o->id<ct) (Az:∀id,ct<=id->id<(own bl ct r).2.2->m id=none)
  (ht:cm O m S w tm a.tmps) (hh:aW O m S w Hq cH)
  (hn:∀u m' S' w',aW O m' S' w' Hq cH->dG m m'->(∀id p,m' id=some p->m id=some p\/(ct<=id/\id<(own bl ct r).2.2))->ai O.ah m' S' w' (own bl ct r).1 u->cp m S w Hq m' S' w' Hq cH->next (a.put o.dst u) w'):
  o.wpIn (WF ro) 0 O.P a w next Q:=by
 obtain ⟨fi,ca,h1,h2⟩:=MT hH ht (args:=c.args) hf;obtain ⟨z1,z2,z3⟩:=Ry (O:=O) hz;have Uk:∀id o,ay bl id=some o->id<ct:=fun id o h=>by
  have:=z2 id
  rw [h] at this
  cases hq:ay hp id with
  | none=>rw [hq] at this;cases this
  | some q=>exact aZ id q hq
 have avV:∀id o,ay bl id=some o->ay (own bl ct r).2.1 id=some o:=fun id o h=>by
  cases r with
  | ae vs=>exact Nj Uk id o h
  | _=>exact SF Uk id o h
 have ns:di bl Hq:=fun id o h=>hl id o (avV id o h)
 obtain ⟨h3,h4⟩:=abx hz ns hh h2;refine Mo ho iR h1 (hC.pure g az r hr w S _ (SG hh) hh.slt h3 h4) ?_;rintro e w' ⟨u,S',rfl,hw,g1,g2,g3,g4⟩;refine ⟨u,rfl,?_⟩;have B8:=EJ hh hw g1 g2 g3;have B4:=CJ (base:=cH) hh hw g1 g2;obtain ⟨m',S2,k1,k2,k3,k4,k5,k6⟩:=avU (lo:=w.heap.size) B8 hl eX Uk Az g4 hh.fY (fun j q hq=>hh.blt j q hq);refine hn u m' S2 w' k1 k2 (fun id p h=>(k3 id p h).imp (fun h=>h) (fun h=>⟨h.1,h.2.1⟩)) k4 ⟨hw.os,hw.tape,hw.output,hw.size,fun b hb _=>hw.same b hb,fun b hb=>k5 b (g1 b hb),fun b hb=>hw.same b (hh.slt b hb),?_,?_,fun i q _ h=>k2 i q h,B4.loops⟩
 ·grind
 ·rintro b ⟨i,ob,q,q1,q2,q3⟩;rcases k3 i q q2 with h | h
  ·exact .inl ⟨i,ob,q,q1,h,q3⟩
  ·grind
def quiet_step (hC:nN O self) (hH:fR O H) {o:y8} {q:Op} {v:AV} (hk:bH q<=1) (hq:q8 O.P H q o) (hd:∀c,o.op≠.defer c) (hv:bf O.prog O.aE self tm hp ct q=some (v,ak,aP)) (hl:di ak Hq) (eX:aP<=cH)
  (aZ:∀id o,ay hp id=some o->id<ct) (Az:∀id,ct<=id->id<aP->m id=none) (ht:cm O m S w tm a.tmps) (hh:aW O m S w Hq cH)
  (hn:∀u m' S' w',aW O m' S' w' Hq cH->dG m m'->(∀id p,m' id=some p->m id=some p\/(ct<=id/\id<aP))->ai O.ah m' S' w' v u->cp m S w Hq m' S' w' Hq cH->next (a.put o.dst u) w'):
  o.wpIn (WF ro) 0 O.P a w next Q:=by
 have jR:∃k,q=bc O.P H k o:=by
  rcases hq with h | ⟨c,f,rs,_,_,rfl⟩ | ⟨_,_,_,_,_,_,_,rfl⟩ | ⟨_,_,_,_,_,_,_,rfl⟩
  ·exact h
  ·simp [bH] at hk
  ·simp [bH] at hk
  ·simp [bH] at hk
 obtain ⟨k,hq⟩:=jR;have read:∀{v:AV},bG tm hp q=some v->di hp Hq->(∀u m' S' w',aW O m' S' w' Hq cH->dG m m'->(∀id p,m' id=some p->m id=some p\/(ct<=id/\id<aP))->ai O.ah m' S' w' v u->cp m S w Hq m' S' w' Hq cH->next (a.put o.dst u) w')->o.wpIn (WF ro) 0 O.P a w next Q:=by
  intro v hr hl hn;have bJ:=apV hl hr;rw [hq] at bJ;obtain ⟨u,h1,h2⟩:=aeB hH ht hh bJ;exact NC hd h1 (.inl rfl) (hn u m S w hh dG.refl (fun _ _ h=> .inl h) h2 cp.refl)
 have makes:∀{v:AV} {b:Obj},cU tm hp ct q=some (v,b)->di ((ct,b)::hp) Hq->ct+1<=cH->m ct=none->(∀u m' S' w',aW O m' S' w' Hq cH->dG m m'->(∀id p,m' id=some p->m id=some p\/(ct<=id/\id<ct+1))->ai O.ah m' S' w' v u->cp m S w Hq m' S' w' Hq cH->next (a.put o.dst u) w')->o.wpIn (WF ro) 0 O.P a w next Q:=by
  intro v b hr hl hc hi hn;rw [hq] at hr;have bJ:cU tm Hq ct (bc O.P H k o)=some (v,b):=by rw [<-hr];exact Ie (fun _ _=>rfl)
  obtain ⟨u,g,p,h1,h2,h3,h4⟩:=atI hH ht hh bJ;obtain ⟨S',k1,k2,k3⟩:=adt (i:=ct) (g:=g) (p:=p) hh hi hc h2 (fun o' lP=>by
   obtain ⟨o'',g1,g2⟩:=hl ct b (by rw [ix];simp)
   rw [lP] at g1;injection g1 with g1
   subst g1
   have:=abu g2 eE (h4 _ (kK hi) eE).1 h3
   rwa [h2] at this)
  refine NC hd h1 (.inl rfl) (hn u _ S' _ k1 (kK hi) (fun id q hq=>?_) (lY (fun _ _ h=>h) k2 (fun _ _=>rfl) _ _ (h4 _ (kK hi) eE).2) (ap1 hh hi h2 k2 k3));by_cases hc:id=ct
  ·exact .inr (by omega)
  ·rw [eD hc] at hq;exact .inl hq
 have cS:∀{q:Op},(match cU tm hp ct q with | some (v,b)=>some (v,(ct,b)::hp,ct+1) | none=>(none:gF))=some (v,ak,aP)->∃b,cU tm hp ct q=some (v,b)/\ak=(ct,b)::hp/\aP=ct+1:=by
  intro q h
  cases hm:cU tm hp ct q with
  | none=>simp [hm] at h
  | some r=>
   obtain ⟨v1,b⟩:=r;simp only [hm,yd,yq] at h;obtain ⟨rfl,rfl,rfl⟩:=h;exact ⟨b,rfl,rfl,rfl⟩
 have kY:∀{q:Op},(match bG tm hp q with | some v=>some (v,hp,ct) | none=>(none:gF))=some (v,ak,aP)->bG tm hp q=some v/\ak=hp/\aP=ct:=by
  intro q h
  cases hm:bG tm hp q with
  | none=>simp [hm] at h
  | some r=>
   simp only [hm,yd,yq] at h;obtain ⟨rfl,rfl,rfl⟩:=h;exact ⟨rfl,rfl,rfl⟩
 have I4:(∃b,cU tm hp ct q=some (v,b)/\ak=(ct,b)::hp/\aP=ct+1)->o.wpIn (WF ro) 0 O.P a w next Q:=by
  rintro ⟨b,h1,rfl,rfl⟩;exact makes h1 hl eX (Az ct (yv _) (yaM _)) hn
 have avW:(bG tm hp q=some v/\ak=hp/\aP=ct)->o.wpIn (WF ro) 0 O.P a w next Q:=by
  rintro ⟨h1,rfl,rfl⟩;exact read h1 hl hn
 cases q with
 | st _ _ _=>simp [bH] at hk
 | pT _ _ _ _=>simp [bH] at hk
 | pV _=>simp [bH] at hk
 | aR _ _ _ _=>simp [bH] at hk
 | mz _ _ _=>simp [bH] at hk
 | iW _ _ _=>simp [bH] at hk
 | jB _ _ _ _=>simp [bH] at hk
 | kX _ _ _ _ _=>simp [bH] at hk
 | box s x=>exact I4 (cS (by simp only [bf] at hv;exact hv))
 | dd n s z ps=>exact I4 (cS (by simp only [bf] at hv;exact hv))
 | gE s b z x y=>exact I4 (cS (by simp only [bf] at hv;exact hv))
 | Aq=>exact I4 (cS (by simp only [bf] at hv;exact hv))
 | pU x=>exact I4 (cS (by simp only [bf] at hv;exact hv))
 | call md x xs=>
  cases md with
  | heap=>simp [bH] at hk
  | dyn=>simp [bH] at hk
  | pure=>
   simp only [bf,dO] at hv
   split at hv
   ·rename_i g first cap hx
    (try simp only at hv)
    cases hz:cO deep hp (first++(dD tm xs++cap)) with
    | none=>simp [hz] at hv
    | some z=>
     obtain ⟨az,bl⟩:=z;simp only [hz] at hv
     cases hr:bP O.prog O.aE self g az with
     | none=>simp [hr] at hv
     | some r=>
      simp only [hr,yd,yq] at hv;obtain ⟨rfl,rfl,rfl⟩:=hv;obtain ⟨c,f,ho,iR,rfl,rfl⟩:=Nk hq.symm (by rintro rfl;simp [aF] at hx);exact aoY hC hH ho iR hx hz hr hl ht hh (fun u S' w' h1 h2 h3=>hn u m S' w' h1 dG.refl (fun _ _ h=> .inl h) h2 h3)
   ·simp at hv
   ·cases hv
  | own=>
   simp only [bf,dO] at hv
   split at hv
   ·rename_i g first cap hx
    (try simp only at hv)
    cases hz:cO deep hp (first++(dD tm xs++cap)) with
    | none=>simp [hz] at hv
    | some z=>
     obtain ⟨az,bl⟩:=z;simp only [hz] at hv
     cases hr:bP O.prog O.aE self g az with
     | none=>simp [hr] at hv
     | some r=>
      simp only [hr,yd] at hv;obtain ⟨c,f,ho,iR,rfl,rfl⟩:=Nk hq.symm (by rintro rfl;simp [aF] at hx);have e1:v=(own bl ct r).1:=by rw [hv]
      have e2:ak=(own bl ct r).2.1:=by rw [hv]
      have e3:aP=(own bl ct r).2.2:=by rw [hv]
      subst e1;subst e2;subst e3;exact ap2 hC hH ho iR hx hz hr hl eX aZ Az ht hh hn
   ·simp at hv
   ·cases hv
 | _=>exact avW (kY (by simp only [bf] at hv;exact hv))
end
end
section
open Go
section
variable {O:bA} {H:Hint} {m:Mp} {S:Nat->Prop} {w:yi} {tm:Env} {a:Act} {hp ak:Hp} {ct aP:Nat} {self:cD} {ro:Option Nat} {next:Act->yi->Prop} {Q:um->Act->yi->Prop}
def cp.sB {m':Mp} {S':Nat->Prop} {w':yi} {b b':Nat} (h:cp m S w hp m' S' w' ak b) (hb:b'<=b):cp m S w hp m' S' w' ak b':=
 ⟨h.os,h.tape,h.output,h.size,h.same,h.sub,h.still,h.new,h.own,fun i q hi hq=>h.old i q (by omega) hq,h.loops⟩
def avX {hp:Hp} {ct:Nat} {r:AV} (aZ:∀id o,ay hp id=some o->id<ct):∀id o,ay (own hp ct r).2.1 id=some o->id<(own hp ct r).2.2:=by
 have hL:∀(vs:List AV) (hp:Hp) (ct:Nat),(∀id o,ay hp id=some o->id<ct)->∀id o,ay (jM hp ct vs).2.1 id=some o->id<(jM hp ct vs).2.2:=by
  intro vs
  induction vs with
  | nil=>intro hp ct h id o ho;exact h id o ho
  | cons v r ih=>intro hp ct h id o ho;exact ih _ _ (IP h) id o ho
 cases r with
 | ae vs=>exact hL vs hp ct aZ
 | _=>exact IP aZ
def avY {hp:Hp} {ct:Nat} {r:AV} (aZ:∀id o,ay hp id=some o->id<ct):∀id o,ay hp id=some o->ay (own hp ct r).2.1 id=some o:=by
 cases r with
 | ae vs=>exact Nj aZ
 | _=>exact SF aZ
def avZ {hp:Hp} {ct:Nat} {r:AV}:ct<=(own hp ct r).2.2:=by
 cases r with
 | ae vs=>exact Ni
 | _=>exact Nh
def arO {hp:Hp} {ct:Nat} {r:AV}:∀id o,ay (own hp ct r).2.1 id=some o->id<ct->ay hp id=some o:=by
 have h1:∀(hp:Hp) (ct:Nat) (r:AV) id o,ay (fG hp ct r).2.1 id=some o->id<ct->ay hp id=some o:=by
  intro hp ct r id o h hc;cases r<;>simp only [fG] at h<;>try exact h
  rw [ix,yD (by omega)] at h;exact h
 have hL:∀(vs:List AV) (hp:Hp) (ct:Nat) id o,ay (jM hp ct vs).2.1 id=some o->id<ct->ay hp id=some o:=by
  intro vs
  induction vs with
  | nil=>intro hp ct id o ho _;exact ho
  | cons v r ih=>intro hp ct id o ho hc;exact h1 hp ct v id o (ih _ _ id o ho (by have:=Nh (hp:=hp) (ct:=ct) (r:=v);omega)) hc
 cases r with
 | ae vs=>exact hL vs hp ct
 | _=>exact h1 hp ct _
structure iJ (hp:Hp) (ct:Nat) (ak:Hp) (aP:Nat):Prop where
 le:di hp ak
 pZ:ct<=aP
 lt:∀id o,ay ak id=some o->id<aP
 back:∀id o,ay ak id=some o->id<ct->∃o',ay hp id=some o'
def iJ.refl (aZ:∀id o,ay hp id=some o->id<ct):iJ hp ct hp ct:=⟨di.refl,yv _,aZ,fun _ o h _=>⟨o,h⟩⟩
def iJ.trans {J5:Hp} {aj0:Nat} (h:iJ hp ct ak aP) (k:iJ ak aP J5 aj0):iJ hp ct J5 aj0:=
 ⟨h.le.trans k.le,xj h.pZ k.pZ,k.lt,fun id o ho hi=>let ⟨o1,h1⟩:=k.back id o ho (yU hi h.pZ);h.back id o1 h1 hi⟩
def acH {NU az:List AV} {bl:Hp} (hz:cO deep hp NU=some (az,bl)) (aZ:∀id o,ay hp id=some o->id<ct):iJ hp ct bl ct:=by
 obtain ⟨z1,z2,_⟩:=Ry (O:=⟨default,⟨fun _=>none,fun _=>none⟩,fun _=>0,fun _=>none,fun _=>⟨0,fun _=>none,fun _=>[],fun _=>none,fun _=> .pure,fun _=>[]⟩,default⟩) hz;have hb:∀id o,ay bl id=some o->∃o',ay hp id=some o':=fun id o h=>by
  have:=z2 id
  rw [h] at this
  cases hq:ay hp id with
  | none=>rw [hq] at this;cases this
  | some q=>exact ⟨q,rfl⟩
 exact ⟨z1,yv _,fun id o h=>let ⟨o',h'⟩:=hb id o h;aZ id o' h',fun id o h _=>hb id o h⟩
def ap3 {r:AV} (aZ:∀id o,ay hp id=some o->id<ct):iJ hp ct (own hp ct r).2.1 (own hp ct r).2.2:=
 ⟨fun id o h=>⟨o,avY aZ id o h,jD.refl o⟩,avZ,avX aZ,fun id o h hi=>⟨o,arO id o h hi⟩⟩
def aby {P:aM} {L:Lib} {q:Op} {v:AV} (hk:bH q<=1) (hv:bf P L self tm hp ct q=some (v,ak,aP)) (aZ:∀id o,ay hp id=some o->id<ct):iJ hp ct ak aP:=by
 have cS:∀{q:Op},(match cU tm hp ct q with | some (v,b)=>some (v,(ct,b)::hp,ct+1) | none=>(none:gF))=some (v,ak,aP)->iJ hp ct ak aP:=by
  intro q h
  cases hm:cU tm hp ct q with
  | none=>simp [hm] at h
  | some r=>
   obtain ⟨v1,b⟩:=r;simp only [hm,yd,yq] at h;obtain ⟨rfl,rfl,rfl⟩:=h;refine ⟨fun id o ho=>⟨o,?_,jD.refl o⟩,by omega,fun id o ho=>?_,fun id o ho hi=>?_⟩
   ·rw [ix,yD (by have:=aZ id o ho;omega)];exact ho
   ·rw [ix] at ho;by_cases hc:ct=id
    ·omega
    ·simp only [hc,xi] at ho;have:=aZ id o ho;omega
   ·rw [ix,yD (by omega)] at ho;exact ⟨o,ho⟩
 have kY:∀{q:Op},(match bG tm hp q with | some v=>some (v,hp,ct) | none=>(none:gF))=some (v,ak,aP)->iJ hp ct ak aP:=by
  intro q h
  cases hm:bG tm hp q with
  | none=>simp [hm] at h
  | some r=>
   simp only [hm,yd,yq] at h;obtain ⟨rfl,rfl,rfl⟩:=h;exact iJ.refl aZ
 cases bI:q with
 | st _ _ _=>simp [bI,bH] at hk
 | pT _ _ _ _=>simp [bI,bH] at hk
 | pV _=>simp [bI,bH] at hk
 | aR _ _ _ _=>simp [bI,bH] at hk
 | mz _ _ _=>simp [bI,bH] at hk
 | iW _ _ _=>simp [bI,bH] at hk
 | jB _ _ _ _=>simp [bI,bH] at hk
 | kX _ _ _ _ _=>simp [bI,bH] at hk
 | box s x=>exact cS (q:=q) (by rw [bI] at hv ⊢;simp only [bf] at hv;exact hv)
 | dd n s z ps=>exact cS (q:=q) (by rw [bI] at hv ⊢;simp only [bf] at hv;exact hv)
 | gE s b z x y=>exact cS (q:=q) (by rw [bI] at hv ⊢;simp only [bf] at hv;exact hv)
 | Aq=>exact cS (q:=q) (by rw [bI] at hv ⊢;simp only [bf] at hv;exact hv)
 | pU x=>exact cS (q:=q) (by rw [bI] at hv ⊢;simp only [bf] at hv;exact hv)
 | call md x xs=>
  subst bI;simp only [bf,dO] at hv
  split at hv
  ·rename_i g first cap hx
   cases md with
   | heap=>simp [bH] at hk
   | dyn=>simp [bH] at hk
   | pure=>
    simp only at hv
    cases hz:cO deep hp (first++(dD tm xs++cap)) with
    | none=>simp [hz] at hv
    | some z=>
     obtain ⟨az,bl⟩:=z;simp only [hz] at hv
     cases hr:bP P L self g az with
     | none=>simp [hr] at hv
     | some r=>
      simp only [hr,yd,yq] at hv;obtain ⟨rfl,rfl,rfl⟩:=hv;exact acH hz aZ
   | own=>
    simp only at hv
    cases hz:cO deep hp (first++(dD tm xs++cap)) with
    | none=>simp [hz] at hv
    | some z=>
     obtain ⟨az,bl⟩:=z;simp only [hz] at hv
     cases hr:bP P L self g az with
     | none=>simp [hr] at hv
     | some r=>
      simp only [hr,yd] at hv;have e2:ak=(own bl ct r).2.1:=by rw [hv]
      have e3:aP=(own bl ct r).2.2:=by rw [hv]
      subst e2;subst e3;have g1:=acH hz aZ;exact g1.trans (ap3 g1.lt)
  ·cases md with
   | heap=>simp [bH] at hk
   | dyn=>simp [bH] at hk
   | _=>simp at hv
  ·cases hv
 | _=>exact kY (q:=q) (by rw [bI] at hv ⊢;simp only [bf] at hv;exact hv)
def MU (hh:aW O m S w hp ct) (hg:iJ hp ct ak aP):∃S',aW O m S' w ak aP/\(∀b,S b->S' b)/\(∀b,S' b->S b\/ek m hp b)/\∀base,cp m S w hp m S' w ak base:=by
 have hd:∀id o p,ay ak id=some o->m id=some p->∃o',ay hp id=some o':=fun id o p h hm=>hg.back id o h (hh.lt id p hm)
 obtain ⟨S',g1,g2,g3⟩:=aeC hh hg.le hd hg.pZ hg.lt;refine ⟨S',g1,g2,g3,fun base=>⟨rfl,rfl,rfl,yv _,fun _ _ _=>rfl,g2,fun _ _=>rfl,fun b hb=>(g3 b hb).imp (fun h=>h) .inl,?_,fun _ _ _ h=>h,fun _ r h=>⟨r,h⟩⟩⟩;rintro b ⟨i,o,p,h1,h2,h3⟩;obtain ⟨o',h4⟩:=hd i o p h1 h2;exact .inl ⟨i,o',p,h4,h2,h3⟩
def arP {q:Op} {v:AV} (hv:cP tm hp ct q=some (v,ak,aP)):ct<=aP:=by
 cases q<;>simp only [cP,reduceCtorEq] at hv
 all_goals
  grind
def Sd {P:y9} {H:Hint} {o:y8} {rs:List (Nat×Bool×Nat)} {x:X} {xs:List X} (hq:q8 P H (.iW rs x xs) o):∃c f,o.op= .call c/\c.callee= .value f/\x=aS H f/\xs=ig H c.args.toList:=by
 rcases hq with ⟨k,hk⟩ | ⟨c,f,rs',h1,h2,h3⟩ | ⟨_,_,_,_,_,_,_,h3⟩ | ⟨_,_,_,_,_,_,_,h3⟩
 ·cases ho:o.op with
  | call c=>
   obtain ⟨callee,args,ts⟩:=c;simp only [bc,ho] at hk
   split at hk
   ·rename_i f;cases hm:H.mode k<;>simp only [hm,Op.iW.injEq,reduceCtorEq] at hk
    exact ⟨_,f,rfl,rfl,hk.2.1,hk.2.2⟩
   ·repeat' split at hk
    all_goals first
     | (cases hk;done)
     | (simp only [bad] at hk;cases hk;done)
     | (revert hk;generalize yx _ _=bb;intro hk;cases bb<;>simp [bad] at hk)
   ·simp only [bad] at hk;cases hk
  | binOp op t x' y ty=>
   cases op<;>simp only [bc,ho,qQ,rW] at hk
   case eql=>
         repeat' split at hk
         all_goals first
          | (cases hk;done)
          | (simp only [bad] at hk;cases hk;done)
          | (cases cK:(P.stoodInHeld t||P.eqGuardType P.depth t)<;>rw [cK] at hk<;>simp [bad] at hk)
   case neq=>
         repeat' split at hk
         all_goals first
          | (cases hk;done)
          | (simp only [bad] at hk;cases hk;done)
          | (cases cK:(P.stoodInHeld t||P.eqGuardType P.depth t)<;>rw [cK] at hk<;>simp [bad] at hk)
   all_goals cases hk
  | buildSlice t n parts=>
   simp only [bc,ho] at hk
   repeat' split at hk
   all_goals first
    | (cases hk;done)
    | (simp only [bad] at hk;cases hk;done)
    | (revert hk;generalize yG _ _=bb;intro hk;cases bb<;>simp [bad] at hk)
  | makeMap t r=>
   cases r<;>simp only [bc,ho] at hk
   ·repeat' split at hk
    all_goals first
     | (cases hk;done)
     | (simp only [bad] at hk;cases hk;done)
   ·simp only [bad] at hk;cases hk
  | next x' b=>
   cases b<;>simp only [bc,ho] at hk
   ·simp only [bad] at hk;cases hk
   ·cases hk
  | _=>
   simp only [bc,ho] at hk
   (repeat' split at hk)
   all_goals first
    | contradiction
    | (cases hk;done)
    | (simp only [bad] at hk;cases hk;done)
 ·simp only [Op.iW.injEq] at h3;exact ⟨c,f,h1,h2,h3.2.1,h3.2.2⟩
 ·cases h3
 ·cases h3
def aoZ {P:y9} {H:Hint} {o:y8} {k:Nat} {rs:List (Nat×Bool×Nat)} {sz:Nat} {x y:X} (hk:Op.jB rs sz x y=bc P H k o):False:=by
 cases ho:o.op with
 | call c=>
  obtain ⟨callee,args,ts⟩:=c;simp only [bc,ho] at hk
  split at hk
  ·grind
  ·repeat' split at hk
   all_goals first
    | (cases hk;done)
    | (simp only [bad] at hk;cases hk;done)
    | (revert hk;generalize yx _ _=bb;intro hk;cases bb<;>simp [bad] at hk)
  ·simp only [bad] at hk;cases hk
 | binOp op t x' y ty=>
  cases op<;>simp only [bc,ho,qQ,rW] at hk
  case eql=>
        repeat' split at hk
        all_goals first
         | (cases hk;done)
         | (simp only [bad] at hk;cases hk;done)
         | (cases cK:(P.stoodInHeld t||P.eqGuardType P.depth t)<;>rw [cK] at hk<;>simp [bad] at hk)
  case neq=>
        repeat' split at hk
        all_goals first
         | (cases hk;done)
         | (simp only [bad] at hk;cases hk;done)
         | (cases cK:(P.stoodInHeld t||P.eqGuardType P.depth t)<;>rw [cK] at hk<;>simp [bad] at hk)
  all_goals cases hk
 | buildSlice t n parts=>
  simp only [bc,ho] at hk
  repeat' split at hk
  all_goals first
   | (cases hk;done)
   | (simp only [bad] at hk;cases hk;done)
   | (revert hk;generalize yG _ _=bb;intro hk;cases bb<;>simp [bad] at hk)
 | makeMap t r=>
  cases r<;>simp only [bc,ho] at hk
  ·repeat' split at hk
   all_goals first
    | (cases hk;done)
    | (simp only [bad] at hk;cases hk;done)
  ·simp only [bad] at hk;cases hk
 | next x' b=>
  cases b<;>simp only [bc,ho] at hk
  ·simp only [bad] at hk;cases hk
  ·cases hk
 | _=>
  simp only [bc,ho] at hk
  (repeat' split at hk)
  all_goals first
   | contradiction
   | (cases hk;done)
   | (simp only [bad] at hk;cases hk;done)
def ao0 {P:y9} {H:Hint} {o:y8} {k:Nat} {rs:List (Nat×Bool×Nat)} {sz b:Nat} {x y:X} (hk:Op.kX rs sz b x y=bc P H k o):False:=by
 cases ho:o.op with
 | call c=>
  obtain ⟨callee,args,ts⟩:=c;simp only [bc,ho] at hk
  split at hk
  ·rename_i f;cases hm:H.mode k<;>simp only [hm,reduceCtorEq] at hk
  ·repeat' split at hk
   all_goals first
    | (cases hk;done)
    | (simp only [bad] at hk;cases hk;done)
    | (revert hk;generalize yx _ _=bb;intro hk;cases bb<;>simp [bad] at hk)
  ·simp only [bad] at hk;cases hk
 | binOp op t x' y ty=>
  cases op<;>simp only [bc,ho,qQ,rW] at hk
  case eql=>
        repeat' split at hk
        all_goals first
         | (cases hk;done)
         | (simp only [bad] at hk;cases hk;done)
         | (cases cK:(P.stoodInHeld t||P.eqGuardType P.depth t)<;>rw [cK] at hk<;>simp [bad] at hk)
  case neq=>
        repeat' split at hk
        all_goals first
         | (cases hk;done)
         | (simp only [bad] at hk;cases hk;done)
         | (cases cK:(P.stoodInHeld t||P.eqGuardType P.depth t)<;>rw [cK] at hk<;>simp [bad] at hk)
  all_goals cases hk
 | buildSlice t n parts=>
  simp only [bc,ho] at hk
  repeat' split at hk
  all_goals first
   | (cases hk;done)
   | (simp only [bad] at hk;cases hk;done)
   | (revert hk;generalize yG _ _=bb;intro hk;cases bb<;>simp [bad] at hk)
 | makeMap t r=>
  cases r<;>simp only [bc,ho] at hk
  ·repeat' split at hk
   all_goals first
    | (cases hk;done)
    | (simp only [bad] at hk;cases hk;done)
  ·simp only [bad] at hk;cases hk
 | next x' b=>
  cases b<;>simp only [bc,ho] at hk
  ·simp only [bad] at hk;cases hk
  ·cases hk
 | _=>
  simp only [bc,ho] at hk
  (repeat' split at hk)
  all_goals first
   | contradiction
   | (cases hk;done)
   | (simp only [bad] at hk;cases hk;done)
def azP {P:y9} {H:Hint} {o:y8} {sz:Nat} {x y:X} (hq:q8 P H (.st sz x y) o):∃t x' y',o.op= .store t x' y'/\cR P t=some sz/\x=aS H x'/\y=aS H y':=by
 obtain ⟨k,hk⟩:∃k,Op.st sz x y=bc P H k o:=by
  rcases hq with h | ⟨_,_,_,_,_,h⟩ | ⟨_,_,_,_,_,_,_,h⟩ | ⟨_,_,_,_,_,_,_,h⟩
  ·exact h
  ·cases h
  ·cases h
  ·cases h
 cases ho:o.op with
 | call c=>
  obtain ⟨callee,args,ts⟩:=c;simp only [bc,ho] at hk
  split at hk
  ·rename_i f;cases hm:H.mode k<;>simp only [hm,reduceCtorEq] at hk
  ·repeat' split at hk
   all_goals first
    | (cases hk;done)
    | (simp only [bad] at hk;cases hk;done)
    | (revert hk;generalize yx _ _=bb;intro hk;cases bb<;>simp [bad] at hk)
  ·simp only [bad] at hk;cases hk
 | binOp op t x' y ty=>
  cases op<;>simp only [bc,ho,qQ,rW] at hk
  case eql=>
        repeat' split at hk
        all_goals first
         | (cases hk;done)
         | (simp only [bad] at hk;cases hk;done)
         | (cases cK:(P.stoodInHeld t||P.eqGuardType P.depth t)<;>rw [cK] at hk<;>simp [bad] at hk)
  case neq=>
        repeat' split at hk
        all_goals first
         | (cases hk;done)
         | (simp only [bad] at hk;cases hk;done)
         | (cases cK:(P.stoodInHeld t||P.eqGuardType P.depth t)<;>rw [cK] at hk<;>simp [bad] at hk)
  all_goals cases hk
 | buildSlice t n parts=>
  simp only [bc,ho] at hk
  repeat' split at hk
  all_goals first
   | (cases hk;done)
   | (simp only [bad] at hk;cases hk;done)
   | (revert hk;generalize yG _ _=bb;intro hk;cases bb<;>simp [bad] at hk)
 | makeMap t r=>
  cases r<;>simp only [bc,ho] at hk
  ·repeat' split at hk
   all_goals first
    | (cases hk;done)
    | (simp only [bad] at hk;cases hk;done)
  ·simp only [bad] at hk;cases hk
 | next x' b=>
  cases b<;>simp only [bc,ho] at hk
  ·simp only [bad] at hk;cases hk
  ·cases hk
 | store t x' y'=>
  simp only [bc,ho] at hk
  split at hk
  ·rename_i s hs;simp only [Op.st.injEq] at hk;obtain ⟨rfl,rfl,rfl⟩:=hk;exact ⟨t,x',y',rfl,hs,rfl,rfl⟩
  ·simp only [bad] at hk;cases hk
 | _=>
  simp only [bc,ho] at hk
  (repeat' split at hk)
  all_goals first
   | contradiction
   | (cases hk;done)
   | (simp only [bad] at hk;cases hk;done)
def ahR {P:y9} {H:Hint} {o:y8} {rs:List (Nat×Bool×Nat)} {sz:Nat} {x y:X} (hq:q8 P H (.jB rs sz x y) o):∃t x' y',o.op= .store t x' y'/\cR P t=some sz/\x=aS H x'/\y=aS H y':=by
 rcases hq with ⟨k,hk⟩ | ⟨_,_,_,_,_,h3⟩ | ⟨t,x',y',GH,rs',h1,h2,h3⟩ | ⟨_,_,_,_,_,_,_,h3⟩
 ·exact (aoZ hk).elim
 ·cases h3
 ·simp only [Op.jB.injEq] at h3;obtain ⟨_,rfl,rfl,rfl⟩:=h3;exact ⟨t,x',y',h1,h2,rfl,rfl⟩
 ·cases h3
def ahS {P:y9} {H:Hint} {o:y8} {rs:List (Nat×Bool×Nat)} {sz b:Nat} {x y:X} (hq:q8 P H (.kX rs sz b x y) o):∃k,Op.aR sz b x y=bc P H k o:=by
 rcases hq with ⟨k,hk⟩ | ⟨_,_,_,_,_,h3⟩ | ⟨_,_,_,_,_,_,_,h3⟩ | ⟨k,rs',GH,b',x',y',h1,h3⟩
 ·exact (ao0 hk).elim
 ·cases h3
 ·cases h3
 ·simp only [Op.kX.injEq] at h3;obtain ⟨_,rfl,rfl,rfl,rfl⟩:=h3;exact ⟨k,h1⟩
def av0 {P:y9} {H:Hint} {o:y8} {sz b:Nat} {x y:X} (hq:q8 P H (.aR sz b x y) o):∃k,Op.aR sz b x y=bc P H k o:=by
 rcases hq with h | ⟨_,_,_,_,_,h3⟩ | ⟨_,_,_,_,_,_,_,h3⟩ | ⟨_,_,_,_,_,_,_,h3⟩
 ·exact h
 ·cases h3
 ·cases h3
 ·cases h3
def ao1 {P:y9} {H:Hint} {q:Op} {o:y8} (hq:q8 P H q o):q8 P H (jv q) o:=by
 cases h:q with
 | iW rs f xs=>
  subst h;obtain ⟨c,f',g1,g2,g3,g4⟩:=Sd hq;exact .inr (.inl ⟨c,f',[],g1,g2,by rw [g3,g4];rfl⟩)
 | jB rs sz x y=>
  subst h;obtain ⟨t,x',y',g1,g2,g3,g4⟩:=ahR hq;refine .inl ⟨0,?_⟩;simp only [jv,bc,g1,g2,g3,g4]
 | kX rs sz b x y=>
  subst h;exact .inl (ahS hq)
 | _=>subst h;exact hq
def adC (hC:nN O self) (hH:fR O H) {o:y8} {q:Op} {v:AV} (hq:q8 O.P H q o) (hd:∀c,o.op≠.defer c) (hv:bf O.prog O.aE self tm hp ct q=some (v,ak,aP))
  (ht:cm O m S w tm a.tmps) (hh:aW O m S w hp ct)
  (hn:∀u m' S' w',aW O m' S' w' ak aP->ct<=aP->ai O.ah m' S' w' v u->cp m S w hp m' S' w' ak ct->next (a.put o.dst u) w'):o.wpIn (WF ro) 0 O.P a w next Q:=by
 have quiet:bH q<=1->o.wpIn (WF ro) 0 O.P a w next Q:=by
  intro hk;have hg:=aby hk hv hh.aZ;obtain ⟨S1,g1,g2,g3,g4⟩:=MU hh hg;refine quiet_step hC hH hk hq hd hv di.refl (yv _) hh.aZ (fun id h1 h2=>?_) (AU (fun _ _ h=>h) g2 (fun _ _=>rfl) ht) g1 (fun u m' S' w' k1 k2 k3 k4 k5=>hn u m' S' w' k1 hg.pZ k4 ((g4 ct).trans (k5.sB hg.pZ)))
  cases hm:m id with
  | none=>rfl
  | some p=>have:=hh.lt id p hm;omega
 have Tc:∀{q':Op},(∃k,q'=bc O.P H k o)->cP tm hp ct q'=some (v,ak,aP)->o.wpIn (WF ro) 0 O.P a w next Q:=by
  intro q' jR hw;obtain ⟨k,rfl⟩:=jR;obtain ⟨n,u,w',m',S',h1,h2,h3,h4,h5,h6⟩:=atN hH ht hh hw;exact NC hd h1 h2 (hn u m' S' w' h3 (arP hw) h4 h6)
 have write:cP tm hp ct q=some (v,ak,aP)->o.wpIn (WF ro) 0 O.P a w next Q:=by
  intro hw;refine Tc ?_ hw;rcases hq with h | ⟨c,f,rs,_,_,rfl⟩ | ⟨_,_,_,_,_,_,_,rfl⟩ | ⟨_,_,_,_,_,_,_,rfl⟩
  ·exact h
  ·simp [cP] at hw
  ·simp [cP] at hw
  ·simp [cP] at hw
 have heap:∀{c:yai} {f:xz} {g:Nat} {first cap:List AV},o.op= .call c->c.callee= .value f->aF tm (aS H f)= .fn (.f g) first cap->
   hZ O.prog O.aE self hp ct g (first++(dD tm (ig H c.args.toList)++cap))=some (v,ak,aP)->o.wpIn (WF ro) 0 O.P a w next Q:=by
  intro c f g first cap ho iR hx he;obtain ⟨fi,ca,h1,h2⟩:=MT hH ht (args:=c.args) hx;refine Mo ho iR h1 (hC.heap _ _ _ _ _ _ _ he m S w _ hh h2) ?_;rintro e w' ⟨u,m',S',rfl,k1,k2,k3,k4⟩;exact ⟨u,rfl,hn u m' S' w' k1 k2 k3 k4⟩
 have round:∀{c:yai} {f:xz} {l:Nat} {x y:List AV},o.op= .call c->c.callee= .value f->aF tm (aS H f)= .fn (.y l) x y->
   nM self hp ct l (dD tm (ig H c.args.toList))=some (v,ak,aP)->o.wpIn (WF ro) 0 O.P a w next Q:=by
  intro c f l x y ho iR hx he;have rf:=cB hH ht f;rw [hx] at rf;simp only [ai] at rf;obtain ⟨p,hm,hf⟩:=rf;have ic:=CV hH ht c.args.toList;obtain ⟨g,tmps,cQ,body,h1,h2⟩:=hC.round _ _ _ _ _ _ _ he m S w (c.args.map a.eval) p hh hm (by simpa using ic);refine arN ho iR hf h1 h2 ?_;rintro e w' ⟨u,m',S',rfl,k1,k2,k3,k4⟩;exact ⟨u,rfl,hn u m' S' w' k1 k2 k3 k4⟩
 have dyn:∀{c:yai} {f:xz},o.op= .call c->c.callee= .value f->dO O.prog O.aE self hp ct .dyn (aF tm (aS H f)) (dD tm (ig H c.args.toList))=some (v,ak,aP)->o.wpIn (WF ro) 0 O.P a w next Q:=by
  intro c f ho iR he;unfold dO at he
  split at he
  ·rename_i g first cap hx
   (try simp only at he)
   cases hp0:aK (first++(dD tm (ig H c.args.toList)++cap)) with
   | true=>
    rw [hp0] at he;simp only [yA] at he
    cases hr:bP O.prog O.aE self g (first++(dD tm (ig H c.args.toList)++cap)) with
    | none=>simp [hr] at he
    | some r=>
     simp only [hr,yd,yq] at he;obtain ⟨rfl,rfl,rfl⟩:=he;obtain ⟨fi,ca,h1,h2⟩:=MT hH ht (args:=c.args) hx;refine Mo ho iR h1 (hC.pure g _ r hr w S _ (SG hh) hh.slt (zp (fun _ h=>h) (fun _ _=>rfl) _ _ hp0 h2) hp0) ?_;rintro e w' ⟨u,S',rfl,hw,g1,g2,g3,g4⟩;obtain ⟨S2,k1,k2,k3⟩:=acD g4 m;have hS:∀b,S b->S2 b:=fun b hb=>k1 b (g1 b hb)
     have Lf:∀b,S2 b->S b\/w.heap.size<=b:=fun b hb=>(k2 b hb).elim (g2 b) (fun h=> .inr h.1)
     have hl:∀b,S2 b->b<w'.heap.size:=fun b hb=>(k2 b hb).elim (g3 b) (fun h=>h.2)
     exact ⟨u,rfl,hn u m S2 w' (EJ hh hw hS Lf hl) (yv _) k3 (CJ hh hw hS Lf)⟩
   | false=>
    rw [hp0] at he;simp only [yV] at he;exact heap ho iR hx he
  ·rename_i l x y hx;exact round ho iR hx he
  ·cases he
 cases bI:q with
 | iW rs x xs=>
  subst bI;simp only [bf] at hv;have key:=Sd hq;obtain ⟨c,f,ho,iR,rfl,rfl⟩:=key
  cases hc:dO O.prog O.aE self hp ct .dyn (aF tm (aS H f)) (dD tm (ig H c.args.toList)) with
  | none=>simp [hc] at hv
  | some r=>
   obtain ⟨v1,bl,oE⟩:=r;simp only [hc] at hv
   cases hs:oY tm hp bl rs with
   | false=>rw [hs] at hv;cases hv
   | true=>
    rw [hs] at hv;simp only [yA,yd,yq] at hv;obtain ⟨rfl,rfl,rfl⟩:=hv;exact dyn ho iR hc
 | call md x xs=>
  subst bI;have jR:∃k,Op.call md x xs=bc O.P H k o:=by
   rcases hq with h | ⟨c,f,rs,_,_,h⟩ | ⟨_,_,_,_,_,_,_,h⟩ | ⟨_,_,_,_,_,_,_,h⟩
   ·exact h
   ·cases h
   ·cases h
   ·cases h
  obtain ⟨k,hk⟩:=jR
  cases md with
  | pure=>exact quiet (by simp [bH])
  | own=>exact quiet (by simp [bH])
  | heap=>
   simp only [bf] at hv;obtain ⟨c,f,ho,iR,rfl,rfl⟩:=Nk hk.symm (by rintro rfl;simp [aF,dO] at hv);unfold dO at hv
   split at hv
   ·rename_i g first cap hx;exact heap ho iR hx hv
   ·rename_i l x y hx;exact round ho iR hx hv
   ·cases hv
  | dyn=>
   simp only [bf] at hv;obtain ⟨c,f,ho,iR,rfl,rfl⟩:=Nk hk.symm (by rintro rfl;simp [aF,dO] at hv);exact dyn ho iR hv
 | jB rs s x y=>
  subst bI;obtain ⟨t,x',y',g1,g2,g3,g4⟩:=ahR hq;simp only [bf] at hv
  split at hv
  ·rename_i id off hx
   cases hf:nO tm id rs with
   | false=>rw [hf] at hv;cases hv
   | true=>
    rw [hf] at hv;simp only [yA] at hv
    exact Tc (q':= .st s x y) ⟨0,by simp only [bc,g1,g2,g3,g4]⟩ hv
  ·cases hv
 | kX rs s b x y=>
  subst bI;simp only [bf] at hv
  cases hc:cP tm hp ct (.aR s b x y) with
  | none=>simp [hc] at hv
  | some r=>
   obtain ⟨v1,bl,oE⟩:=r;simp only [hc] at hv
   cases hs:oY tm hp bl rs with
   | false=>rw [hs] at hv;cases hv
   | true=>
    rw [hs] at hv;simp only [yA,yd,yq] at hv;obtain ⟨rfl,rfl,rfl⟩:=hv
    exact Tc (q':= .aR s b x y) (ahS hq) hc
 | st s x y=>subst bI;exact write (by simpa only [bf] using hv)
 | pT kk x y z=>subst bI;exact write (by simpa only [bf] using hv)
 | pV x=>subst bI;exact write (by simpa only [bf] using hv)
 | aR s b x y=>subst bI;exact write (by simpa only [bf] using hv)
 | mz s x y=>subst bI;exact write (by simpa only [bf] using hv)
 | dR k x lo hi=>subst bI;exact quiet (by cases k<;>simp [bH])
 | len k x=>subst bI;exact quiet (by rcases k with _ | _ | k<;>simp [bH])
 | _=>subst bI;exact quiet (by simp [bH])
end
end
section
open Go
def px (tm:Env) (g:Option (Nat×Bool)):Option Bool:=
 match g with
 | none=>some true
 | some (t,b)=>match af tm t with | .bool c=>some (c==b) | .ae []=>some false | _=>none
def fc (P:aM) (L:Lib) (self:cD) (tm:Env) (hp:Hp) (ct:Nat) (r:bh):gF:=
 match px tm r.guard with
 | some true=>bf P L self tm hp ct r.op
 | some false=>some (.ae [],hp,ct)
 | none=>none
def abX {P:aM} {L:Lib} {self:cD} {r:bh} {rs:List bh} {s:St}:
  dP P L self (r::rs) s=match fc P L self s.tm s.hp s.ct r with | some (v,hp,ct)=>dP P L self rs {s with tm:=put r.dst v s.tm,hp:=hp,ct:=ct} | none=>none:=by
 obtain ⟨d,g,o⟩:=r;simp only [dP,fc]
 cases g with
 | none=>rfl
 | some q=>
  obtain ⟨t,b⟩:=q;simp only [px];generalize af s.tm t=x
  cases x with
  | bool c=>
   simp only;cases (c==b)<;>rfl
  | ae vs=>cases vs<;>rfl
  | _=>rfl
def aeM (ops:Array y8) (g:Option (Nat×Bool)) (g':Option (Nat×Bool)):Prop:=
 (g=none/\g'=none)\/∃t b j,g=some (t,b)/\g'=some (j,b)/\(ops[j]?).bind (·.dst)=some t
structure NV (P:y9) (H:Hint) (ops:Array y8) (r:bh) (o:y8):Prop where
 op:q8 P H r.op o
 dst:r.dst=o.dst
 ok:JE H o.dst=true
 guard:aeM ops r.guard o.guard
def jG (P:y9) (H:Hint) (ops:Array y8):List bh->List y8->Prop
 | [],[]=>True
 | r::rs,o::l=>(NV P H ops r o\/(r.guard=none/\r.op=bad))/\jG P H ops rs l
 | _,_=>False
def abY {P:y9} {H:Hint} {ops:Array y8}:∀(l:List y8) (k:Nat),jG P H ops (CO P H ops l k).1 l
 | [],k=>by simp [CO,jG]
 | o::l,k=>by
  have ih:=abY (P:=P) (H:=H) (ops:=ops) l (k+(bif S9 o then 1 else 0));simp only [CO];generalize hq:CO P H ops l (k+(bif S9 o then 1 else 0))=q at ih;obtain ⟨l',k'⟩:=q;simp only;have Ul:jG P H ops (⟨o.dst,none,bad⟩::l') (o::l):=⟨.inr ⟨rfl,rfl⟩,ih⟩
  cases hg:o.guard with
  | none=>
   simp only
   cases hd:JE H o.dst with
   | false=>exact Ul
   | true=>exact ⟨.inl ⟨.inl ⟨k,rfl⟩,rfl,hd,.inl ⟨rfl,hg⟩⟩,ih⟩
  | some p=>
   obtain ⟨j,b⟩:=p;simp only
   cases ht:(ops[j]?).bind (·.dst) with
   | none=>exact Ul
   | some t=>
    simp only
    cases hd:JE H o.dst with
    | false=>exact Ul
    | true=>exact ⟨.inl ⟨.inl ⟨k,rfl⟩,rfl,hd,.inr ⟨t,b,j,rfl,hg,ht⟩⟩,ih⟩
section
variable {O:bA} {H:Hint} {m:Mp} {S:Nat->Prop} {w:yi} {tm:Env} {a:Act} {hp ak:Hp} {ct aP:Nat} {self:cD} {ro:Option Nat} {Q:um->Act->yi->Prop} {ops:Array y8}
def Se {d:Option Nat} {v:AV} {tm:Env} {t:Nat}:af (put d v tm) t=if d=some t then v else af tm t:=by
 cases d with
 | none=>simp [put]
 | some i=>
  simp only [put,af];by_cases h:i=t
  ·subst h;simp
  ·have:yx i t=false:=by
    cases hq:yx i t with
    | false=>rfl
    | true=>exact absurd (yt hq) h
   simp [this,h]
def MV (a:Act) (d:Option Nat) (u:yg):(a.put d u).tmps.size=a.tmps.size:=by
 cases d with
 | none=>rfl
 | some i=>simp [Act.put]
def RC (a:Act) (d:Option Nat) (u:yg):(a.put d u).defers=a.defers:=by
 cases d with
 | none=>rfl
 | some i=>rfl
def Sf {a:Act} {d:Option Nat} {u:yg} {t:Nat} (hd:∀i,d=some i->i<a.tmps.size):(a.put d u).tmps.getD t undef=if d=some t then u else a.tmps.getD t undef:=by
 cases d with
 | none=>simp [Act.put]
 | some i=>
  have hi:=hd i rfl;by_cases h:i=t
  ·subst h;simp [Act.put,hi]
  ·simp only [Act.put,yd,h,xi];simp [Array.getElem?_setIfInBounds_ne h]
def adD {n:Nat} {d:Option Nat} (h:JE H d=true) (hn:H.n<=n):∀i,d=some i->i<n:=by
 rintro i rfl
 have:=zD.1 h
 omega
def Sg {d:Option Nat} {v:AV} {u:yg} (ht:cm O m S w tm a.tmps) (hd:∀i,d=some i->i<a.tmps.size) (hv:ai O.ah m S w v u):cm O m S w (put d v tm) (a.put d u).tmps:=fun t=>by
 rw [Se,Sf hd]
 split
 ·exact hv
 ·exact ht t
def acI {o:y8} {g:Option (Nat×Bool)} {b:Bool} (hg:aeM ops g o.guard) (ht:∀t,t∈TF g->ai O.ah m S w (af tm t) (a.tmps.getD t undef)) (hw:px tm g=some b):Region.wanted o (yielded ops a.tmps)=b:=by
 rcases hg with ⟨rfl,h2⟩ | ⟨t,c,j,rfl,h2,h3⟩
 ·simp only [px,yd] at hw;subst hw;simp [Region.wanted,h2]
 ·simp only [px] at hw;have h4:=ht t (by simp [TF]);simp only [Region.wanted,h2]
  split at hw
  ·rename_i d hd;rw [hd] at h4;simp only [ai] at h4;simp only [yd] at hw
   have:yielded ops a.tmps j=some d:=by
    simp only [yielded,h3,xO];have h5:a.tmps[t]? =some (.bool d):=by
     simp only [vd] at h4
     cases hq:a.tmps[t]? with
     | none=>rw [hq] at h4;simp [undef] at h4
     | some x=>rw [hq] at h4;simp at h4;rw [h4]
    rw [h5]
   rw [this,<-hw];cases d<;>cases c<;>rfl
  ·rename_i hd;rw [hd] at h4;simp only [ai,aA] at h4;obtain ⟨xs,h4,h5⟩:=h4;simp only [yd] at hw;subst hw
   have:yielded ops a.tmps j=none:=by
    simp only [yielded,h3,xO];simp only [vd] at h4
    cases hq:a.tmps[t]? with
    | none=>rfl
    | some x=>rw [hq] at h4;simp at h4;rw [h4]
   rw [this];rfl
  ·cases hw
def abz {o:y8} {q:Op} (hq:q8 O.P H q o) {r:AV×Hp×Nat} (hv:bf O.prog O.aE self tm hp ct q=some r):∀c,o.op≠.defer c:=by
 rcases hq with ⟨k,rfl⟩ | ⟨c,f,rs,h1,_,_⟩ | ⟨_,_,_,_,_,h1,_,_⟩ | ⟨k,rs,sz,b,x,y,h1,rfl⟩
 ·exact aoX hv
 ·intro c' h;rw [h1] at h;cases h
 ·intro c' h;rw [h1] at h;cases h
 ·intro c' h;simp only [bc,h] at h1;simp [bad] at h1
def atP (hC:nN O self) (hH:fR O H) {i:Nat} {r:bh} {o:y8} {v:AV} (hi:ops[i]? =some o) (hr:NV O.P H ops r o\/(r.guard=none/\r.op=bad)) (hv:fc O.prog O.aE self tm hp ct r=some (v,ak,aP))
  (ht:cm O m S w tm a.tmps) (hh:aW O m S w hp ct) (hn:H.n<=a.tmps.size) {K:Act->yi->Prop}
  (hK:∀u m' S' w',aW O m' S' w' ak aP->ct<=aP->cm O m' S' w' (put r.dst v tm) (a.put o.dst u).tmps->cp m S w hp m' S' w' ak ct->K (a.put o.dst u) w'):wpOpIn (WF ro) 0 O.P ops Q i K a w:=by
 rcases hr with hr | ⟨h1,h2⟩
 case inr=>
  simp only [fc,h1,px,h2,bad,bf,dO,aF] at hv;cases hv
 unfold wpOpIn;simp only [hi];unfold fc at hv
 cases hw:px tm r.guard with
 | none=>simp [hw] at hv
 | some b=>
  have ZN:=acI hr.guard (fun t _=>ht t) hw;have hd:=adD hr.ok hn;rw [ZN]
  cases b with
  | true=>
   simp only [hw] at hv;simp only [xD];refine adC hC hH hr.op (abz hr.op hv) hv ht hh (fun u m' S' w' k1 k2 k3 k4=>hK u m' S' w' k1 k2 ?_ k4);rw [hr.dst];exact Sg (AU (fun id p h=>k4.old id p (hh.lt id p h) h) k4.sub (fun b hb=>k4.still b hb) ht) hd k3
  | false=>
   simp only [hw,yd,yq] at hv;obtain ⟨rfl,rfl,rfl⟩:=hv;simp only [yL,xi];refine ⟨fun _ _=>trivial,hK undef m S w hh (yv _) ?_ cp.refl⟩;rw [hr.dst];exact Sg ht hd (by simp [ai,aA,undef])
def aeN (hC:nN O self) (hH:fR O H):∀(l:List y8) (rs:List bh) (i:Nat) (s s':St) (a:Act) (m:Mp) (S:Nat->Prop) (w:yi),(∀j,l[j]? =ops[i+j]?)->jG O.P H ops rs l->
  dP O.prog O.aE self rs s=some s'->cm O m S w s.tm a.tmps->aW O m S w s.hp s.ct->H.n<=a.tmps.size->
  (∀a' m' S' w',aW O m' S' w' s'.hp s'.ct->s.ct<=s'.ct->cm O m' S' w' s'.tm a'.tmps->cp m S w s.hp m' S' w' s'.hp s.ct->a'.tmps.size=a.tmps.size->a'.defers=a.defers->s'.base=s.base->Q .normal a' w')->
  wpOpsIn (WF ro) 0 O.P ops Q (List.range' i l.length) a w
 | [],rs,i,s,s',a,m,S,w,hl,hr,hv,ht,hh,hn,hQ=>by
  cases rs with
  | cons _ _=>simp [jG] at hr
  | nil=>
   simp only [dP,yd] at hv;subst hv;simp only [yP,List.range'_zero,wpOpsIn];exact hQ a m S w hh (yv _) ht cp.refl rfl rfl rfl
 | o::l,rs,i,s,s',a,m,S,w,hl,hr,hv,ht,hh,hn,hQ=>by
  cases rs with
  | nil=>simp [jG] at hr
  | cons r rs=>
   simp only [jG] at hr;rw [abX] at hv
   cases h1:fc O.prog O.aE self s.tm s.hp s.ct r with
   | none=>simp [h1] at hv
   | some q=>
    obtain ⟨v,bl,oE⟩:=q;simp only [h1] at hv;have hi:ops[i]? =some o:=by have:=hl 0;simpa using this.symm
    rw [yI,List.range'_succ,wpOpsIn_cons];refine atP hC hH hi hr.1 h1 ht hh hn (fun u m1 S1 w1 k1 k2 k3 k4=>?_)
    refine aeN hC hH l rs (i+1) {s with tm:=put r.dst v s.tm,hp:=bl,ct:=oE} s' _ m1 S1 w1 (fun j=>?_) hr.2 hv k3 k1 (by rw [MV];exact hn) (fun a' m' S' w' g1 g2 g3 g4 g5 g6 g7=>?_)
    ·have:=hl (j+1)
     rw [List.getElem?_cons_succ] at this;rw [this];congr 1;omega
    ·exact hQ a' m' S' w' g1 (xj k2 g2) g3 (k4.trans (g4.sB k2)) (by rw [g5,MV]) (by rw [g6,RC]) g7
end
end
section
open Go
section
variable {ops:Array y8}
def Rk {acc:List Nat} {i:Nat}:∀{es:List Edge},uF (Ba acc es) i=true->∃e,e∈es/\Region.binds .any e=true/\(i=e.on\/uF (acc.getD e.on 0) i=true)
 | [],h=>by simp [Ba] at h
 | e::r,h=>by
  simp only [Ba] at h
  cases hb:Region.binds .any e with
  | false=>
   rw [hb] at h;obtain ⟨e',h1,h2⟩:=Rk h
   grind
  | true=>
   rw [hb] at h;simp only [yA,Nat.testBit_or,tr] at h;rcases h with (h | h) | h
   ·grind
   ·grind
   ·obtain ⟨e',h1,h2⟩:=Rk h
    grind
def acJ {l:List y8} {acc:List Nat} {j:Nat} (hj:j<acc.length):(mi acc l)[j]? =acc[j]? :=by
 induction l generalizing acc with
 | nil=>rfl
 | cons o l ih=>
  simp only [mi]
  grind
def ao2 {l:List y8} {acc:List Nat} {j:Nat} {o:y8} (h:l[j]? =some o):∃z6:List Nat,(mi acc l)[acc.length+j]? =some (Ba z6 o.after.toList)/\z6.length=acc.length+j/\∀k,k<z6.length->z6[k]? =(mi acc l)[k]? :=by
 induction l generalizing acc j with
 | nil=>simp at h
 | cons x l ih=>
  cases j with
  | zero=>
   simp only [vI,yd] at h;subst h;refine ⟨acc,?_,by simp,fun k hk=>?_⟩
   ·simp only [mi];rw [acJ (by simp)]
    simp
   ·simp only [mi];rw [acJ (by rw [yN];omega),List.getElem?_append_left hk]
  | succ j=>
   obtain ⟨z6,h1,h2,h3⟩:=ih (acc:=acc++[Ba acc x.after.toList]) h;simp only [yN,yI,yP] at h1 h2;refine ⟨z6,?_,by omega,fun k hk=>?_⟩
   ·simp only [mi]
    grind
   ·simp only [mi];exact h3 k hk
def Ord (ops:Array y8) (i j:Nat):Prop:=uF ((mi [] ops.toList).getD j 0) i=true
def Td (ops:Array y8) (D:Nat->Prop):Prop:=∀j o,ops[j]? =some o->D j->∀e,e∈o.after->Region.binds .any e=true->D e.on
def acK {D:Nat->Prop} (hc:Td ops D):∀(j:Nat) (o:y8),ops[j]? =some o->(∀e,e∈o.after->Region.binds .any e=true->D e.on)->∀i,Ord ops i j->D i:=by
 intro j
 induction j using vJ with
 | _ j ih=>
  intro o ho hr i hi;have lP:ops.toList[j]? =some o:=by simp_all
  obtain ⟨z6,h1,h2,h3⟩:=ao2 (acc:=[]) lP;simp only [yP,ye] at h1 h2;unfold Ord at hi;rw [List.getD_eq_getElem?_getD,h1,ux] at hi;obtain ⟨e,g1,g2,g3⟩:=Rk hi;have he:D e.on:=hr e (by simpa using g1) g2;rcases g3 with rfl | g3
  ·grind
  ·rcases vt e.on j with aZ | lS
   ·have h4:=h3 e.on (by omega);have hol:e.on<ops.size:=by
     grind
    have ZJ:ops[e.on]? =some ops[e.on]:=by simp_all
    refine ih e.on aZ _ ZJ (fun e' he' cK=>hc e.on _ ZJ he e' he' cK) i ?_;unfold Ord
    grind
   ·grind
def arQ {D:Nat->Prop} (hc:Td ops D) {i j:Nat} {o:y8} (ho:ops[j]? =some o) (hj:D j) (hi:Ord ops i j):D i:=
 acK hc j o ho (fun e he hb=>hc j o ho hj e he hb) i hi
def abh:∀{l:List y8} {k j:Nat} {o:y8},Iq l k=true->l[j]? =some o->∀e,e∈o.after->Region.binds .any e=true->e.on<k+j
 | [],k,j,o,_,h=>by simp at h
 | x::l,k,j,o,hb,h=>by
  simp only [Iq,yh] at hb
  cases j with
  | zero=>
   simp only [vI,yd] at h;subst h;intro e he sW
   have:=List.all_eq_true.1 hb.1 e (by simpa using he)
   simp_all
  | succ j=>
   intro e he sW
   have:=abh hb.2 h e he sW
   omega
end
def Og (a b:bh) (r:List bh):Prop:=MO a b=false/\(Ip a b=false\/IM a b r=true)
def abj {m:Nat} {b:bh}:∀{l:List bh} {k i:Nat} {a:bh},MP m b l k=true->l[i]? =some a->uF m (k+i)=true\/Og a b (l.drop (i+1))
 | [],k,i,a,_,h=>by simp at h
 | x::l,k,i,a,hp,h=>by
  simp only [MP,yh] at hp
  cases i with
  | zero=>
   simp only [vI,yd] at h;subst h;have h1:=hp.1;simp only [tr,uz,yah,Bool.and_eq_false_iff,Bool.not_eq_false'] at h1;rcases h1 with h1 | ⟨h1,h2⟩
   ·grind
   ·exact .inr ⟨h1,by simpa using h2⟩
  | succ i=>
   rcases abj hp.2 h with h1 | h1
   ·grind
   ·grind
def abm:∀{l done:List bh} {ms:List Nat} {i j:Nat} {a b:bh},EP done l ms=true->(done++l)[i]? =some a->l[j]? =some b->i<done.length+j->
  ∃m,ms[j]? =some m/\(uF m i=true\/Og a b (((done++l).take (done.length+j)).drop (i+1)))
 | [],done,ms,i,j,a,b,_,_,h,_=>by simp at h
 | x::l,done,[],i,j,a,b,hp,_,h,_=>by simp [EP] at hp
 | x::l,done,m::ms,i,j,a,b,hp,ha,h,Qb=>by
  simp only [EP,yh] at hp
  cases j with
  | zero=>
   have DY:done[i]? =some a:=by grind
   have:=abj hp.1 DY
   grind
  | succ j=>
   have e:done++x::l=(done++[x])++l:=by simp
   obtain ⟨m',h1,h2⟩:=abm (i:=i) (a:=a) hp.2 (by rw [<-e];exact ha) h (by simp;omega)
   grind
def Mc {a b:bh} (h:MO a b=false):(∀d,a.dst=some d->d∉CU b/\b.dst≠some d)/\(∀d,b.dst=some d->d∉CU a):=by
 have mem:∀{i:Nat} {l:List Nat},jx i l=false->i∉l:=by
  intro i l
  induction l with
  | nil=>intro _ h;cases h
  | cons j r ih=>
   intro h hm;simp only [jx] at h
   cases hb:yx j i with
   | true=>rw [hb] at h;cases h
   | false=>
    simp_all
 simp only [MO,yah] at h;obtain ⟨⟨h1,h2⟩,h3⟩:=h;refine ⟨fun d hd=>⟨mem (by simpa [hd,FG] using h1),fun hb=>?_⟩,fun d hd=>mem (by simpa [hd,FG] using h2)⟩;rw [hd,hb] at h3;simp [ai2] at h3
def abZ {t:Nat}:∀{l:List bh},Dl t l=true->∀r,r∈l->r.dst≠some t
 | [],_,r,h=>by cases h
 | x::l,h,r,hr=>by
  simp only [Dl,yh,uz] at h;rcases wR.1 hr with rfl | hr
  ·intro hd;rw [hd] at h;simp [FG,jx] at h
  ·exact abZ h.2 r hr
def MC {sz t:Nat} {ag:Bool}:∀{l:List (Nat×Bool×Nat)},Ds sz ag t l=true->(sz,ag,t)∈l
 | [],h=>by simp [Ds] at h
 | (s,g,u)::r,h=>by
  simp only [Ds,tr,yh] at h;rcases h with ⟨h1,h2,h3⟩ | h
  ·simp_all
  ·exact wS _ (MC h)
def Sh:∀{a b:List Nat},db a b=true->a=b
 | [],[],_=>rfl
 | [],_::_,h=>by simp [db] at h
 | _::_,[],h=>by simp [db] at h
 | x::a,y::b,h=>by
  simp only [db,yh] at h;rw [yt h.1,Sh h.2]
def ap4 {a b:AV} (h:Ud a b=true):a=b:=by
 unfold Ud at h
 split at h
 ·grind
 ·grind
 ·rw [Sh h]
 ·rfl
 ·rfl
 ·simp_all
 ·simp_all
 ·simp_all
 ·cases h
def Re {tm:Env} {hp ak:Hp} {sz t:Nat} {ag:Bool} {v:AV}:∀{l:List (Nat×Bool×Nat)},oY tm hp ak l=true->(sz,ag,t)∈l->jb hp sz ag (af tm t)=some v->jb ak sz ag (af tm t)=some v
 | [],_,h,_=>by cases h
 | (s,g,u)::r,h,hm,hv=>by
  simp only [oY] at h
  cases h1:jb hp s g (af tm u) with
  | none=>simp [h1] at h
  | some x=>
   cases h2:jb ak s g (af tm u) with
   | none=>simp [h1,h2] at h
   | some y=>
    simp only [h1,h2,yh] at h;rcases wR.1 hm with e | hm
    ·simp only [yq] at e;obtain ⟨rfl,rfl,rfl⟩:=e;rw [h1] at hv;rw [h2,<-ap4 h.1,hv]
    ·exact Re h.2 hm hv
structure Oh (P:aM) (L:Lib) (run:cD) (rs:List bh) (b9:Nat->Env) (bT:Nat->Hp) (bR:Nat->Nat) (vF:Nat->AV):Prop where
 step:∀i r,rs[i]? =some r->fc P L run (b9 i) (bT i) (bR i) r=some (vF i,bT (i+1),bR (i+1))
 tm:∀i r,rs[i]? =some r->b9 (i+1)=put r.dst (vF i) (b9 i)
def aeO {P:aM} {L:Lib} {self:cD}:∀{rs:List bh} {s s':St},dP P L self rs s=some s'->
  ∃b9 bT bR vF,Oh P L self rs b9 bT bR vF/\b9 0=s.tm/\bT 0=s.hp/\bR 0=s.ct/\b9 rs.length=s'.tm/\bT rs.length=s'.hp/\bR rs.length=s'.ct/\s'.base=s.base
 | [],s,s',h=>by
  simp only [dP,yd] at h;subst h;exact ⟨fun _=>s.tm,fun _=>s.hp,fun _=>s.ct,fun _=> .undef,⟨fun i r h=>by simp at h,fun i r h=>by simp at h⟩,rfl,rfl,rfl,rfl,rfl,rfl,rfl⟩
 | r::rs,s,s',h=>by
  rw [abX] at h
  cases h1:fc P L self s.tm s.hp s.ct r with
  | none=>simp [h1] at h
  | some q=>
   obtain ⟨v,bl,oE⟩:=q;simp only [h1] at h;obtain ⟨b9,bT,bR,vF,g1,g2,g3,g4,g5,g6,g7,g8⟩:=aeO h;refine ⟨fun i=>match i with | 0=>s.tm | i+1=>b9 i,fun i=>match i with | 0=>s.hp | i+1=>bT i,fun i=>match i with | 0=>s.ct | i+1=>bR i,fun i=>match i with | 0=>v | i+1=>vF i,⟨?_,?_⟩,rfl,rfl,rfl,by simpa using g5,by simpa using g6,by simpa using g7,g8⟩
   ·intro i r' hi
    cases i with
    | zero=>
     grind
    | succ i=>exact g1.step i r' (by simpa using hi)
   ·intro i r' hi
    cases i with
    | zero=>
     grind
    | succ i=>exact g1.tm i r' (by simpa using hi)
section
variable {P:aM} {L:Lib} {self:cD} {rs:List bh} {b9:Nat->Env} {bT:Nat->Hp} {bR:Nat->Nat} {vF:Nat->AV}
def Iu (hR:Oh P L self rs b9 bT bR vF) {t i:Nat}:∀(k:Nat),i+k<=rs.length->(∀j r,i<=j->j<i+k->rs[j]? =some r->r.dst≠some t)->af (b9 (i+k)) t=af (b9 i) t
 | 0,_,_=>rfl
 | k+1,hk,h=>by
  have hr:rs[i+k]? =some rs[i+k]:=by simp_all
  rw [show i+(k+1)=i+k+1 by omega,hR.tm _ _ hr,Se,yD (h (i+k) _ (by omega) (by omega) hr)];exact Iu hR k (by omega) (fun j r h1 h2=>h j r h1 (by omega))
def acL {r:bh} {tm:Env} {hp ak:Hp} {ct aP:Nat} {v:AV} (hk:bH r.op<=1) (hv:fc P L self tm hp ct r=some (v,ak,aP)) (aZ:∀id o,ay hp id=some o->id<ct):iJ hp ct ak aP:=by
 unfold fc at hv
 cases hw:px tm r.guard with
 | none=>simp [hw] at hv
 | some b=>
  cases b with
  | true=>simp only [hw] at hv;exact aby hk hv aZ
  | false=>
   simp only [hw,yd,yq] at hv;obtain ⟨rfl,rfl,rfl⟩:=hv;exact iJ.refl aZ
def MD (hR:Oh P L self rs b9 bT bR vF) {i:Nat} (aZ:∀id o,ay (bT i) id=some o->id<bR i):∀(k:Nat),i+k<=rs.length->(∀j r,i<=j->j<i+k->rs[j]? =some r->bH r.op<=1)->iJ (bT i) (bR i) (bT (i+k)) (bR (i+k))
 | 0,_,_=>iJ.refl aZ
 | k+1,hk,h=>by
  have ih:=MD hR aZ k (by omega) (fun j r h1 h2=>h j r h1 (by omega));have hr:rs[i+k]? =some rs[i+k]:=by simp_all
  exact ih.trans (acL (h (i+k) _ (by omega) (by omega) hr) (hR.step _ _ hr) ih.lt)
end
end
section
open Go
def MW {tm:Env} {t:Nat}:∀{l:List Nat},t∈l->af (cC tm l) t=af tm t
 | [],h=>by cases h
 | i::r,h=>by
  simp only [cC,af]
  cases hb:yx i t with
  | true=>rw [yt hb];rfl
  | false=>
   rcases wR.1 h with e | h
   ·simp_all
   ·exact MW h
def ap5 {P:aM} {L:Lib} {self:cD} {tm tm':Env} {hp:Hp} {ct:Nat} {o:Op} {r:AV×Hp×Nat} (h:∀t,t∈kL o->af tm' t=af tm t) (hv:bf P L self tm hp ct o=some r):bf P L self tm' hp ct (jv o)=some r:=by
 cases o with
 | iW rs f xs=>
  simp only [kL,wK] at h;simp only [jv,bf] at hv ⊢
  rw [dZ (x:=f) fun t ht=>h t (.inl ht),CG (xs:=xs) fun t ht=>h t (.inr ht)]
  cases hc:dO P L self hp ct .dyn (aF tm f) (dD tm xs) with
  | none=>simp [hc] at hv
  | some q=>
   obtain ⟨v1,bl,oE⟩:=q;simp only [hc] at hv
   cases hs:oY tm hp bl rs with
   | false=>rw [hs] at hv;cases hv
   | true=>
    rw [hs] at hv;simpa only [oY,yA] using hv
 | jB rs sz x v=>
  simp only [jv,bf] at hv ⊢
  rw [CC (o:= .st sz x v) (tm:=tm) h]
  split at hv
  ·rename_i id off hx
   cases hf:nO tm id rs with
   | false=>rw [hf] at hv;cases hv
   | true=>rw [hf] at hv;exact hv
  ·cases hv
 | kX rs sz b x v=>
  simp only [jv,bf] at hv ⊢
  rw [CC (o:= .aR sz b x v) (tm:=tm) h]
  cases hc:cP tm hp ct (.aR sz b x v) with
  | none=>simp [hc] at hv
  | some q=>
   obtain ⟨v1,bl,oE⟩:=q;simp only [hc] at hv
   cases hs:oY tm hp bl rs with
   | false=>rw [hs] at hv;cases hv
   | true=>rw [hs] at hv;exact hv
 | call md f xs=>
  rw [<-hv];simp only [kL,wK] at h;simp only [jv,bf]
  rw [dZ (x:=f) fun t ht=>h t (.inl ht),CG (xs:=xs) fun t ht=>h t (.inr ht)]
 | st s x y=>rw [<-hv];simp only [jv,bf];exact CC h
 | pT kk x y z=>rw [<-hv];simp only [jv,bf];exact CC h
 | pV x=>rw [<-hv];simp only [jv,bf];exact CC h
 | aR s b x y=>rw [<-hv];simp only [jv,bf];exact CC h
 | mz s x y=>rw [<-hv];simp only [jv,bf];exact CC h
 | box s x=>rw [<-hv];simp only [jv,bf];rw [Ie (hp:=hp) h]
 | dd n s z ps=>rw [<-hv];simp only [jv,bf];rw [Ie (hp:=hp) h]
 | gE s b z x y=>rw [<-hv];simp only [jv,bf];rw [Ie (hp:=hp) h]
 | Aq=>exact hv
 | pU x=>rw [<-hv];simp only [jv,bf];rw [Ie (hp:=hp) h]
 | _=>rw [<-hv];simp only [jv,bf];rw [aoq h]
def adE {P:aM} {L:Lib} {self:cD} {tm:Env} {hp ak:Hp} {ct aP:Nat} {q:Op} {v:AV} (hk:bH q=0\/∃sz ag x,q= .ld sz ag x) (hv:bf P L self tm hp ct q=some (v,ak,aP)):bG tm hp q=some v/\ak=hp/\aP=ct:=by
 have kY:∀{q:Op},(match bG tm hp q with | some v=>some (v,hp,ct) | none=>(none:gF))=some (v,ak,aP)->bG tm hp q=some v/\ak=hp/\aP=ct:=by
  intro q h
  cases hm:bG tm hp q with
  | none=>simp [hm] at h
  | some r=>
   simp only [hm,yd,yq] at h;obtain ⟨rfl,rfl,rfl⟩:=h;exact ⟨rfl,rfl,rfl⟩
 rcases hk with hk | ⟨sz,ag,x,rfl⟩
 ·cases bI:q with
  | call md f xs=>subst bI;cases md<;>simp [bH] at hk
  | iW rs f xs=>subst bI;simp [bH] at hk
  | jB rs s x y=>subst bI;simp [bH] at hk
  | kX rs s b x y=>subst bI;simp [bH] at hk
  | st s x y=>subst bI;simp [bH] at hk
  | pT kk x y z=>subst bI;simp [bH] at hk
  | pV x=>subst bI;simp [bH] at hk
  | aR s b x y=>subst bI;simp [bH] at hk
  | mz s x y=>subst bI;simp [bH] at hk
  | box s x=>subst bI;simp [bH] at hk
  | dd n s z ps=>subst bI;simp [bH] at hk
  | gE s b z x y=>subst bI;simp [bH] at hk
  | Aq=>subst bI;simp [bH] at hk
  | pU x=>subst bI;simp [bH] at hk
  | _=>exact bI▸kY (q:=q) (by rw [bI] at hv ⊢;simp only [bf] at hv;exact hv)
 ·exact kY (q:= .ld sz ag x) (by simp only [bf] at hv;exact hv)
section
variable {O:bA} {H:Hint} {ops:Array y8} {rs:List bh} {b9:Nat->Env} {bT:Nat->Hp} {bR:Nat->Nat} {vF:Nat->AV} {self:cD} {ro:Option Nat} {Q:um->Act->yi->Prop}
structure so (O:bA) (H:Hint) (slf:cD) (ops:Array y8) (rs:List bh) (b9:Nat->Env) (bT:Nat->Hp) (bR:Nat->Nat) (vF:Nat->AV):Prop where
 run:Oh O.prog O.aE slf rs b9 bT bR vF
 len:rs.length=ops.size
 of:∀(i:Nat) (r:bh) (o:y8),rs[i]? =some r->ops[i]? =some o->NV O.P H ops r o
 pair:∀(i j:Nat) (a b:bh),i<j->rs[i]? =some a->rs[j]? =some b->Ord ops i j\/Og a b ((rs.take j).drop (i+1))
 back:∀(i:Nat) (o:y8),ops[i]? =some o->∀e,e∈o.after->Region.binds .any e=true->e.on<i
def jT (rs:List bh) (i:Nat):Prop:=∃r,rs[i]? =some r/\bH r.op=2
def Tf (rs:List bh):∀(k i:Nat),i+k=rs.length->∃c,i<=c/\c<=rs.length/\(∀j,i<=j->j<c->¬jT rs j)/\(c=rs.length\/jT rs c)
 | 0,i,h=>⟨i,yv _,by omega,fun j h1 h2=>by omega,.inl (by omega)⟩
 | k+1,i,h=>by
  rcases ui (jT rs i) with hw | hw
  ·grind
  ·obtain ⟨c,h1,h2,h3,h4⟩:=Tf rs k (i+1) (by omega)
   grind
def IQ {rs:List bh} {i:Nat} {r:bh} (hr:rs[i]? =some r) (hw:¬jT rs i):bH r.op<=1:=by
 have h:bH r.op≠2:=fun e=>hw ⟨r,hr,e⟩
 have:bH r.op<=2:=by
  cases r.op with
  | dR k x lo hi=>cases k<;>simp [bH]
  | len k x=>rcases k with _ | _ | k<;>simp [bH]
  | call md f xs=>cases md<;>simp [bH]
  | _=>simp [bH]
 omega
def Qc (O:bA) (rs:List bh) (b9:Nat->Env) (D:Nat->Prop) (m:Mp) (S:Nat->Prop) (w:yi) (a:Act):Prop:=
 ∀t,∃j,j<=rs.length/\(∀(i:Nat) (r:bh),rs[i]? =some r->r.dst=some t->(D i↔i<j))/\ai O.ah m S w (af (b9 j) t) (a.tmps.getD t undef)
def atQ {D:Nat->Prop} {m:Mp} {S:Nat->Prop} {w:yi} {a:Act} {i:Nat} {r:bh} (hG:so O H self ops rs b9 bT bR vF) (hT:Qc O rs b9 D m S w a) (hr:rs[i]? =some r) (hi:¬D i)
  (fj:∀j,Ord ops j i->D j) (gl:∀j,Ord ops i j->¬D j):∀t,t∈CU r->ai O.ah m S w (af (b9 i) t) (a.tmps.getD t undef):=by
 intro t ht;obtain ⟨j,h1,h2,h3⟩:=hT t;have GI:i<rs.length:=(wF.1 hr).1;have e:af (b9 j) t=af (b9 i) t:=by
  rcases Nat.le_total j i with Lg | Qb
  ·obtain ⟨k,rfl⟩:∃k,i=j+k:=⟨i-j,by omega⟩;refine (Iu hG.run k (by omega) (fun l rl g1 g2 hl hd=>?_)).symm;rcases hG.pair l (j+k) rl r (by omega) hl hr with ho | hf
   ·grind
   ·exact ((Mc hf.1).1 t hd).1 ht
  ·obtain ⟨k,rfl⟩:∃k,j=i+k:=⟨j-i,by omega⟩;refine Iu hG.run k h1 (fun l rl g1 g2 hl hd=>?_);rcases wZ g1 with rfl | g1
   ·grind
   ·rcases hG.pair i l r rl g1 hr hl with ho | hf
    ·grind
    ·exact (Mc hf.1).2 t hd ht
 grind
def aeP {D D':Nat->Prop} {m m':Mp} {S S':Nat->Prop} {w w':yi} {a:Act} {i:Nat} {r:bh} {u:yg} (hG:so O H self ops rs b9 bT bR vF) (hT:Qc O rs b9 D m S w a) (hr:rs[i]? =some r) (hi:¬D i)
  (fj:∀j,Ord ops j i->D j) (gl:∀j,Ord ops i j->¬D j) (hD:∀j,D' j↔D j\/j=i) (hm:dG m m') (hS:∀b,S b->S' b) (hw:fX S w w') (hd:∀d,r.dst=some d->d<a.tmps.size)
  (hv:ai O.ah m' S' w' (vF i) u):Qc O rs b9 D' m' S' w' (a.put r.dst u):=by
 intro t;have GI:i<rs.length:=(wF.1 hr).1;by_cases Lh:r.dst=some t
 ·refine ⟨i+1,GI,fun l rl hl ZO=>?_,?_⟩
  ·rw [hD];constructor
   ·rintro (h | h)
    ·rcases vt l (i+1) with g | g
     ·grind
     ·rcases hG.pair i l r rl (by omega) hr hl with ho | hf
      ·grind
      ·exact (((Mc hf.1).1 t Lh).2 ZO).elim
    ·omega
   ·intro h;rcases wZ (tM h) with h | h
    ·grind
    ·rcases hG.pair l i rl r h hl hr with ho | hf
     ·grind
     ·exact (((Mc hf.1).1 t ZO).2 Lh).elim
  ·rw [hG.run.tm i r hr,Se,Sf hd,yT Lh,yT Lh];exact hv
 ·obtain ⟨j,h1,h2,h3⟩:=hT t;refine ⟨j,h1,fun l rl hl ZO=>?_,?_⟩
  ·grind
  ·rw [Sf hd,yD Lh];exact lY hm hS hw _ _ h3
def abA {tm:Env} {hp ak:Hp} {ct aP id off sz GH t:Nat} {ag:Bool} {x y:X} {v v':AV}:∀{l:List (Nat×Bool×Nat)},nO tm id l=true->(sz,ag,t)∈l->aF tm x= .ptr id off->
  cP tm hp ct (.st GH x y)=some (v',ak,aP)->jb hp sz ag (af tm t)=some v->jb ak sz ag (af tm t)=some v
 | [],_,h,_,_,_=>by cases h
 | (s,g,u)::r,h,hm,hx,hw,hv=>by
  simp only [nO,yh] at h;rcases wR.1 hm with e | hm
  ·simp only [yq] at e;obtain ⟨rfl,rfl,rfl⟩:=e;have h1:=h.1
   split at h1
   ·rename_i j o hj;have dH:j≠id:=by
     intro e
     simp_all
    rw [hj] at hv ⊢;simp only [cP,hx] at hw;have key:∀ob,ay (a6 hp id ob) j=ay hp j:=fun ob=>by rw [rR,yD (ybJ dH)]
    split at hw
    ·rename_i pu ex z cs GJ;generalize (yx _ _&&yG _ _&&cu _)=bb at hw
     cases bb with
     | false=>cases hw
     | true=>
      obtain ⟨_,rfl,_⟩:=hw;simp only [jb,key] at hv ⊢;exact hv
    ·cases hw
   ·rename_i cs hj;rw [hj] at hv ⊢;simpa only [jb] using hv
   ·cases h1
  ·exact abA h.2 hm hx hw hv
def abn {D:Nat->Prop} {i c:Nat} {r:bh} {sz t:Nat} {ag:Bool} (hG:so O H self ops rs b9 bT bR vF) (hr:rs[i]? =some r) (hi:¬D i) (GK:r.guard=none/\r.op= .ld sz ag (.t t)) (hc:c<=rs.length)
  (hW:∀j,j<c->jT rs j->D j) (gl:∀j,Ord ops i j->¬D j) (aZ:∀j,j<=c->∀id o,ay (bT j) id=some o->id<bR j):∀k,i+1+k<=c->jb (bT (i+1+k)) sz ag (af (b9 i) t)=some (vF i)
 | 0,hk=>by
  have h1:=hG.run.step i r hr;simp only [fc,GK.1,px,GK.2] at h1;obtain ⟨h2,h3,h4⟩:=adE (.inr ⟨_,_,_,rfl⟩) h1;simp only [bG,aF] at h2;rw [Nat.add_zero,h3];exact h2
 | k+1,hk=>by
  have ih:=abn hG hr hi GK hc hW gl aZ k (by omega);have hl:i+1+k<rs.length:=by omega
  have hj:rs[i+1+k]? =some rs[i+1+k]:=by simp [hl]
  have aO:=hG.run.step _ _ hj;rw [show i+1+(k+1)=i+1+k+1 by omega];rcases ui (jT rs (i+1+k)) with hw | hw
  ·have hD:=hW _ (by omega) hw;rcases hG.pair i (i+1+k) r _ (by omega) hr hj with ho | hf
   ·exact (gl _ ho hD).elim
   ·obtain ⟨Qd,ku⟩:=hf;obtain ⟨rw',h5,h6⟩:=hw;rw [hj] at h5;injection h5 with h5
    subst h5;rcases ku with ku | ku
    ·have h1k:bH r.op=1:=by rw [GK.2];rfl
     simp only [Ip,h1k,h6] at ku;cases ku
    ·unfold IM at ku;simp only [GK.1,GK.2] at ku;generalize jR:(rs[i+1+k]).op=q at ku;have TK:Dl t (r::(rs.take (i+1+k)).drop (i+1))=true->af (b9 (i+1+k)) t=af (b9 i) t:=by
      intro aBo;have ko:=abZ aBo;rw [show i+1+k=i+(1+k) by omega];refine Iu hG.run (1+k) (by omega) (fun l rl g1 g2 DZ=>ko rl ?_);rcases wZ g1 with rfl | g1
      ·rw [hr] at DZ;injection DZ with DZ;subst DZ;exact vD
      ·refine wS _ ?_
       have:((rs.take (i+1+k)).drop (i+1))[l-(i+1)]? =some rl:=by
        rw [List.getElem?_drop,List.getElem?_take_of_lt (by omega),show i+1+(l-(i+1))=l by omega];exact DZ
       exact List.mem_of_getElem? this
     unfold fc at aO
     cases hg:px (b9 (i+1+k)) (rs[i+1+k]).guard with
     | none=>simp [hg] at aO
     | some b=>
      cases b with
      | false=>
       simp only [hg,yd,yq] at aO;rw [<-aO.2.1];exact ih
      | true=>
       simp only [hg,jR] at aO;cases q<;>simp only [yL] at ku
       case iW D0 fx xs=>
        simp only [yh] at ku;have FH:=MC ku.1;have B9:=TK ku.2;simp only [bf] at aO
        cases jC:dO O.prog O.aE self (bT (i+1+k)) (bR (i+1+k)) .dyn (aF (b9 (i+1+k)) fx) (dD (b9 (i+1+k)) xs) with
        | none=>simp [jC] at aO
        | some z=>
         obtain ⟨v1,bl,oE⟩:=z;simp only [jC] at aO
         cases hs:oY (b9 (i+1+k)) (bT (i+1+k)) bl D0 with
         | false=>rw [hs] at aO;cases aO
         | true=>
          rw [hs] at aO;simp only [yA,yd,yq] at aO;obtain ⟨_,h8,_⟩:=aO;rw [<-h8,<-B9];exact Re hs FH (by rw [B9];exact ih)
       case jB D0 GH x v=>
        simp only [yh] at ku;have FH:=MC ku.1;have B9:=TK ku.2;simp only [bf] at aO
        split at aO
        ·rename_i id off hx
         cases hs:nO (b9 (i+1+k)) id D0 with
         | false=>rw [hs] at aO;cases aO
         | true=>
          rw [hs] at aO;simp only [yA] at aO;rw [<-B9];exact abA hs FH hx aO (by rw [B9];exact ih)
        ·cases aO
       case kX D0 GH b x v=>
        simp only [yh] at ku;have FH:=MC ku.1;have B9:=TK ku.2;simp only [bf] at aO
        cases jC:cP (b9 (i+1+k)) (bT (i+1+k)) (bR (i+1+k)) (.aR GH b x v) with
        | none=>simp [jC] at aO
        | some z=>
         obtain ⟨v1,bl,oE⟩:=z;simp only [jC] at aO
         cases hs:oY (b9 (i+1+k)) (bT (i+1+k)) bl D0 with
         | false=>rw [hs] at aO;cases aO
         | true=>
          rw [hs] at aO;simp only [yA,yd,yq] at aO;obtain ⟨_,h8,_⟩:=aO;rw [<-h8,<-B9];exact Re hs FH (by rw [B9];exact ih)
  ·exact aeH (acL (IQ hj hw) aO (aZ _ (by omega))).le ih
structure Inv (O:bA) (ops:Array y8) (rs:List bh) (b9:Nat->Env) (bT:Nat->Hp) (bR:Nat->Nat) (D:Nat->Prop) (m0:Mp) (S0:Nat->Prop) (w0:yi) (n0:Nat) (d0:List tu) (st c:Nat) (m:Mp) (S:Nat->Prop) (w:yi) (a:Act):Prop where
 ZP:st<=c
 cn:c<=rs.length
 before:∀i,i<st->jT rs i->D i
 GL:∀i,st<=i->i<c->¬jT rs i
 cut:c=rs.length\/(jT rs c/\¬D c)
 behind:∀(i:Nat) (r:bh),c<=i->rs[i]? =some r->1<=bH r.op->¬D i
 hp:aW O m S w (bT c) (bR c)
 ZQ:∀id p,m id=some p->id<bR st\/∃i,st<=i/\i<c/\D i/\bR i<=id/\id<bR (i+1)
 tm:Qc O rs b9 D m S w a
 Qe:cp m0 S0 w0 (bT 0) m S w (bT c) (bR 0)
 ge:bR 0<=bR c
 size:a.tmps.size=n0
 defers:a.defers=d0
 fH:st=0\/jT rs (st-1)
 GM:∀j,j<=c->∀id o,ay (bT j) id=some o->id<bR j
end
end
section
open Go
section
variable {O:bA} {H:Hint} {ops:Array y8} {rs:List bh} {b9:Nat->Env} {bT:Nat->Hp} {bR:Nat->Nat} {vF:Nat->AV} {self:cD} {ro:Option Nat} {Q:um->Act->yi->Prop}
variable {D D':Nat->Prop} {m0:Mp} {S0:Nat->Prop} {w0:yi} {n0:Nat} {d0:List tu} {st c i:Nat} {m:Mp} {S:Nat->Prop} {w:yi} {a:Act} {r:bh} {o:y8}
def ME (hG:so O H self ops rs b9 bT bR vF) (hI:Inv O ops rs b9 bT bR D m0 S0 w0 n0 d0 st c m S w a) {x y:Nat} (hx:st<=x) (hxy:x<=y) (hy:y<=c):iJ (bT x) (bR x) (bT y) (bR y):=by
 obtain ⟨k,rfl⟩:∃k,y=x+k:=⟨y-x,by omega⟩
 have:=hI.cn
 exact MD hG.run (hI.GM x (by omega)) k (by omega) (fun j r h1 h2 hr=>IQ hr (hI.GL j (by omega) (by omega)))
def Si (hG:so O H self ops rs b9 bT bR vF) (hI:Inv O ops rs b9 bT bR D m0 S0 w0 n0 d0 st c m S w a) (hr:rs[i]? =some r) (hi:¬D i) (fj:∀j,Ord ops j i->D j) (gl:∀j,Ord ops i j->¬D j) (hD:∀j,D' j↔D j\/j=i)
  (hd:∀d,r.dst=some d->d<a.tmps.size) (hw:¬jT rs i) (Ax:bH r.op=0\/i<c) {m':Mp} {S':Nat->Prop} {w':yi} {u:yg} (k1:aW O m' S' w' (bT c) (bR c)) (k2:dG m m')
  (k3:∀id p,m' id=some p->m id=some p\/(st<=i/\i<c/\bR i<=id/\id<bR (i+1))) (k4:ai O.ah m' S' w' (vF i) u) (k5:cp m S w (bT c) m' S' w' (bT c) (bR c)):
  Inv O ops rs b9 bT bR D' m0 S0 w0 n0 d0 st c m' S' w' (a.put r.dst u) where
 ZP:=hI.ZP
 cn:=hI.cn
 before j hj D1:=(hD j).2 (.inl (hI.before j hj D1))
 GL:=hI.GL
 cut:=hI.cut.imp (fun h=>h) (fun h=>⟨h.1,fun hc=>((hD c).1 hc).elim h.2 (fun e=>hw (e▸h.1))⟩)
 behind j rj hj D2 hk Li:=((hD j).1 Li).elim (hI.behind j rj hj D2 hk) (fun e=>by
  subst e;rw [hr] at D2;injection D2 with D2
  subst D2
  rcases Ax with h | h<;>omega)
 hp:=k1
 ZQ id p hp:=by
  rcases k3 id p hp with h | ⟨h1,h2,h3,h4⟩
  ·rcases hI.ZQ id p h with h | ⟨j,g1,g2,g3,g4,g5⟩
   ·exact .inl h
   ·exact .inr ⟨j,g1,g2,(hD j).2 (.inl g3),g4,g5⟩
  ·exact .inr ⟨i,h1,h2,(hD i).2 (.inr rfl),h3,h4⟩
 tm:=aeP hG hI.tm hr hi fj gl hD k2 k5.sub (fun b hb=>k5.still b hb) hd k4
 Qe:=hI.Qe.trans (k5.sB hI.ge)
 ge:=hI.ge
 size:=by rw [MV];exact hI.size
 defers:=by rw [RC];exact hI.defers
 fH:=hI.fH
 GM:=hI.GM
def aeQ (hG:so O H self ops rs b9 bT bR vF) (hI:Inv O ops rs b9 bT bR D m0 S0 w0 n0 d0 st c m S w a) (hr:rs[c]? =some r) (hi:¬D c) (fj:∀j,Ord ops j c->D j) (gl:∀j,Ord ops c j->¬D j) (hD:∀j,D' j↔D j\/j=c)
  (hd:∀d,r.dst=some d->d<a.tmps.size) (hw:jT rs c) {m':Mp} {S':Nat->Prop} {w':yi} {u:yg} (k1:aW O m' S' w' (bT (c+1)) (bR (c+1))) (k2:bR c<=bR (c+1))
  (k4:ai O.ah m' S' w' (vF c) u) (k5:cp m S w (bT c) m' S' w' (bT (c+1)) (bR c)):
  ∃c' B3,Inv O ops rs b9 bT bR D' m0 S0 w0 n0 d0 (c+1) c' m' B3 w' (a.put r.dst u):=by
 have jC:c<rs.length:=(wF.1 hr).1;obtain ⟨c',h1,h2,h3,h4⟩:=Tf rs (rs.length-(c+1)) (c+1) (by omega);obtain ⟨k,rfl⟩:∃k,c'=c+1+k:=⟨c'-(c+1),by omega⟩;have hg:∀k',k'<=k->iJ (bT (c+1)) (bR (c+1)) (bT (c+1+k')) (bR (c+1+k')):=fun k' nt=>
  MD hG.run k1.aZ k' (by omega) (fun j r g1 g2 hr=>IQ hr (h3 j g1 (by omega)))
 obtain ⟨B3,g1,g2,g3,g4⟩:=MU k1 (hg k (yv _));have hml:dG m m':=fun id p h=>k5.old id p (hI.hp.lt id p h) h
 refine ⟨c+1+k,B3,⟨by omega,h2,?_,h3,?_,?_,g1,fun id p h=> .inl (k1.lt id p h),?_,?_,?_,by rw [MV];exact hI.size,by rw [RC];exact hI.defers,.inr (by simpa using hw),?_⟩⟩
 ·intro j hj D1;rcases wZ (tM hj) with e | hj
  ·exact (hD j).2 (.inr e)
  ·rcases vt j st with g | g
   ·exact (hD j).2 (.inl (hI.before j g D1))
   ·exact (hI.GL j g hj D1).elim
 ·refine h4.imp (fun h=>h) (fun h=>⟨h,fun hc=>?_⟩);obtain ⟨rc,ZR,Ax⟩:=h;rcases (hD _).1 hc with g | g
  ·exact hI.behind _ rc (by omega) ZR (by omega) g
  ·omega
 ·intro j rj hj D2 hk Li;rcases (hD j).1 Li with g | g
  ·exact hI.behind j rj (by omega) D2 hk g
  ·omega
 ·exact aeP hG hI.tm hr hi fj gl hD hml (fun b hb=>g2 b (k5.sub b hb)) (fun b hb=>k5.still b hb) hd (lY (fun _ _ h=>h) g2 (fun _ _=>rfl) _ _ k4)
 ·exact (hI.Qe.trans (k5.sB hI.ge)).trans (g4 (bR 0))
 ·have:=(hg k (yv _)).pZ
  have:=hI.ge
  omega
 ·intro j hj;rcases vt c j with g | g
  ·obtain ⟨k',rfl⟩:∃k',j=c+1+k':=⟨j-(c+1),by omega⟩;exact (hg k' (by omega)).lt
  ·exact hI.GM j g
def arR {q:Op} (h:bH q≠2):jv q=q:=by
 cases q<;>first
  | rfl
  | exact absurd rfl h
def ab0 {x y:bh} {l:List bh} (h:Og x y l):¬(bH x.op=2/\1<=bH y.op)/\(1<=bH x.op->bH y.op=2->x.guard=none/\∃sz ag t,x.op= .ld sz ag (.t t)):=by
 obtain ⟨_,h⟩:=h;have ex:IM x y l=true->x.guard=none/\∃sz ag t,x.op= .ld sz ag (.t t):=by
  intro he;unfold IM at he
  split at he
  ·rename_i sz ag t D0 fx xs h1 h2 h3;exact ⟨h1,sz,ag,t,h2⟩
  ·rename_i h1 h2 h3;exact ⟨h1,_,_,_,h2⟩
  ·rename_i h1 h2 h3;exact ⟨h1,_,_,_,h2⟩
  ·cases he
 have k2:∀q:Op,bH q<=2:=fun q=>by
  cases q with
  | dR k x lo hi=>cases k<;>simp [bH]
  | len k x=>rcases k with _ | _ | k<;>simp [bH]
  | call md f xs=>cases md<;>simp [bH]
  | _=>simp [bH]
 constructor
 ·rintro ⟨h1,h2⟩;rcases h with h | h
  ·have:bH y.op=1\/bH y.op=2:=by have:=k2 y.op;omega
   rcases this with e | e<;>(simp only [Ip,h1,e] at h;cases h)
  ·obtain ⟨_,sz,ag,t,e⟩:=ex h;rw [e] at h1;cases h1
 ·intro h1 h2;rcases h with h | h
  ·have:bH x.op=1\/bH x.op=2:=by have:=k2 x.op;omega
   rcases this with e | e<;>(simp only [Ip,h2,e] at h;cases h)
  ·exact ex h
def arS (hC:nN O self) (hH:fR O H) (hG:so O H self ops rs b9 bT bR vF) (hn:H.n<=n0) (hI:Inv O ops rs b9 bT bR D m0 S0 w0 n0 d0 st c m S w a) (hr:rs[i]? =some r) (ho:ops[i]? =some o) (hi:¬D i)
  (fj:∀j,Ord ops j i->D j) (gl:∀j,Ord ops i j->¬D j) (hD:∀j,D' j↔D j\/j=i) {K:Act->yi->Prop}
  (hK:∀st' c' m' S' w' a',Inv O ops rs b9 bT bR D' m0 S0 w0 n0 d0 st' c' m' S' w' a'->K a' w'):wpOpIn (WF ro) 0 O.P ops Q i K a w:=by
 have cL:=hG.of i r o hr ho;have Um:=atQ hG hI.tm hr hi fj gl;have aO:=hG.run.step i r hr;have hd:∀d,r.dst=some d->d<a.tmps.size:=by
  rw [cL.dst];exact adD cL.ok (by rw [hI.size];exact hn)
 have kZ:=hI.ZP;have lS:1<=bH r.op->i<=c:=by
  intro hk;rcases vt c i with ZS | ZS
  ·have GI:i<rs.length:=(wF.1 hr).1;rcases hI.cut with h | ⟨⟨rc,ZR,Ax⟩,K7⟩
   ·omega
   ·rcases hG.pair c i rc r ZS ZR hr with h | h
    ·exact (K7 (fj c h)).elim
    ·exact ((ab0 h).1 ⟨Ax,hk⟩).elim
  ·exact ZS
 have hwc:jT rs i->i=c:=by
  intro hw;obtain ⟨rw',h1,h2⟩:=hw;rw [hr] at h1;injection h1 with h1
  subst h1;have h3:=lS (by omega);rcases wZ h3 with e | h3
  ·exact e
  ·rcases vt i st with g | g
   ·exact (hi (hI.before i g ⟨r,hr,h2⟩)).elim
   ·exact (hI.GL i g h3 ⟨r,hr,h2⟩).elim
 have aZ:1<=bH r.op->¬jT rs i->i<c:=by
  intro hk hw;rcases wZ (lS hk) with e | h
  ·subst e;rcases hI.cut with h | h
   ·have GI:i<rs.length:=(wF.1 hr).1;omega
   ·exact (hw h.1).elim
  ·exact h
 have Ax:¬jT rs i->bH r.op=0\/i<c:=fun hw=>by
  rcases xq (bH r.op) with h | h
  ·exact .inl h
  ·exact .inr (aZ h hw)
 unfold wpOpIn;simp only [ho];unfold fc at aO
 cases Qf:px (b9 i) r.guard with
 | none=>simp [Qf] at aO
 | some b=>
  have ZN:=acI cL.guard (fun t ht=>Um t (by simp [CU,ht])) Qf;rw [ZN]
  cases b with
  | false=>
   simp only [Qf,yd,yq] at aO;obtain ⟨hv,hh,hc⟩:=aO;simp only [yL,xi];refine ⟨fun _ _=>trivial,?_⟩;have dQ:∀m S w,ai O.ah m S w (vF i) undef:=fun m S w=>by rw [<-hv];simp [ai,aA,undef]
   rw [<-cL.dst];rcases ui (jT rs i) with hw | hw
   ·have e:=hwc hw;subst e;obtain ⟨c',B3,h⟩:=aeQ hG hI hr hi fj gl hD hd hw (m':=m) (S':=S) (w':=w) (u:=undef) (by rw [<-hh,<-hc];exact hI.hp) (by omega) (dQ _ _ _) (by rw [<-hh];exact cp.refl)
    exact hK _ _ _ _ _ _ h
   ·exact hK _ _ _ _ _ _ (Si hG hI hr hi fj gl hD hd hw (Ax hw) (m':=m) (S':=S) (w':=w) (u:=undef) hI.hp dG.refl (fun _ _ h=> .inl h) (dQ _ _ _) cp.refl)
  | true=>
   simp only [Qf] at aO;simp only [xD];have ko:=abz cL.op aO;have Qg:cm O m S w (cC (b9 i) (kL r.op)) a.tmps:=fun t=>by
    rcases ui (t∈kL r.op) with h | h
    ·rw [MW h];exact Um t (by simp [CU,h])
    ·have:af (cC (b9 i) (kL r.op)) t= .undef:=by
      clear Um aO;revert h;generalize kL r.op=l;intro h
      induction l with
      | nil=>rfl
      | cons x l ih=>
       simp only [cC,af];have hx:yx x t=false:=by
        cases hq:yx x t with
        | false=>rfl
        | true=>exact absurd (by rw [yt hq];exact vD) h
       rw [hx];exact ih (fun h'=>h (wS _ h'))
     rw [this];simp only [ai]
   have D3:bf O.prog O.aE self (cC (b9 i) (kL r.op)) (bT i) (bR i) (jv r.op)=some (vF i,bT (i+1),bR (i+1)):=
    ap5 (fun t ht=>MW ht) aO
   have ahT:¬jT rs i->jv r.op=r.op:=fun hw=>arR (fun h=>hw ⟨r,hr,h⟩)
   have now:¬jT rs i->bG (cC (b9 i) (kL r.op)) (bT c) r.op=some (vF i)->Oper.wpIn (WF ro) 0 O.P o a w K Q:=by
    intro hw kY;have jR:∃k,r.op=bc O.P H k o:=by
     rcases cL.op with h | ⟨cc,f,rr,_,_,h⟩ | ⟨_,_,_,_,_,_,_,h⟩ | ⟨_,_,_,_,_,_,_,h⟩
     ·exact h
     ·rw [h] at kY;simp [bG] at kY
     ·rw [h] at kY;simp [bG] at kY
     ·rw [h] at kY;simp [bG] at kY
    obtain ⟨k,hk⟩:=jR;rw [hk] at kY;rw [hk] at Qg;obtain ⟨u,h1,h2⟩:=aeB hH Qg hI.hp kY;refine NC ko h1 (.inl rfl) ?_;rw [<-cL.dst];exact hK _ _ _ _ _ _ (Si hG hI hr hi fj gl hD hd hw (Ax hw) hI.hp dG.refl (fun _ _ h=> .inl h) h2 cp.refl)
   rcases ui (jT rs i) with hw | hw
   ·have e:=hwc hw;subst e;refine adC hC hH (ao1 cL.op) ko D3 Qg hI.hp (fun u m' S' w' k1 k2 k3 k4=>?_);rw [<-cL.dst];obtain ⟨c',B3,h⟩:=aeQ hG hI hr hi fj gl hD hd hw k1 k2 k3 k4;exact hK _ _ _ _ _ _ h
   ·rcases xq (bH r.op) with hk | hk
    ·have D3:=ahT hw▸D3;obtain ⟨h1,_,_⟩:=adE (.inl hk) D3;exact now hw (by rw [apW hk (bT c) (bT i)];exact h1)
    ·have GC:=aZ hk hw;rcases vt i st with Un | Un
     ·
      rcases hI.fH with h0 | h0
      ·omega
      ·have bl:D (st-1):=hI.before _ (by omega) h0;have dH:i≠st-1:=fun e=>hi (e▸bl)
       obtain ⟨rp,hrp,hkp⟩:=h0;rcases hG.pair i (st-1) r rp (by omega) hr hrp with h | h
       ·exact (gl _ h bl).elim
       ·obtain ⟨hg,sz,ag,t,jR⟩:=(ab0 h).2 hk hkp;have hl:=abn (c:=c) hG hr hi ⟨hg,jR⟩ hI.cn (fun j hj D1=>by
         rcases vt j st with g | g
         ·exact hI.before j g D1
         ·exact (hI.GL j g hj D1).elim) gl hI.GM (c-(i+1)) (by omega)
        rw [show i+1+(c-(i+1))=c by omega] at hl;refine now hw ?_;rw [jR];simp only [bG,aF];rw [MW (by simp [kL,iX])];exact hl
     ·have iF:=ME hG hI (x:=i+1) (y:=c) (by omega) GC (yv _);have Lj:=ME hG hI (x:=st) (y:=i) (yv _) Un (by omega)
      refine quiet_step (Hq:=bT c) (cH:=bR c) hC hH (IQ hr hw) cL.op ko (ahT hw▸D3) iF.le iF.pZ (hI.GM i (by omega)) ?_ Qg hI.hp (fun u m' S' w' k1 k2 k3 k4 k5=>?_)
      ·intro id h1 h2
       cases hm:m id with
       | none=>rfl
       | some p=>
        rcases hI.ZQ id p hm with h | ⟨j,q1,q2,q3,q4,q5⟩
        ·have:=Lj.pZ;omega
        ·rcases Nat.lt_trichotomy j i with g | g | g
         ·have:=(ME hG hI (x:=j+1) (y:=i) (by omega) g (by omega)).pZ;omega
         ·subst g;exact (hi q3).elim
         ·have:=(ME hG hI (x:=i+1) (y:=j) (by omega) g (by omega)).pZ;omega
      ·rw [<-cL.dst];exact hK _ _ _ _ _ _ (Si hG hI hr hi fj gl hD hd hw (.inr GC) k1 k2 (fun id p h=>(k3 id p h).imp (fun h=>h) (fun h=>⟨Un,GC,h.1,h.2⟩)) k4 k5)
def left (n:Nat) (listed:Array Bool):Nat:=(List.range n).countP fun i=> !listed.getD i false
def arT {n:Nat} {listed:Array Bool} {i:Nat} (hi:i<n) (hs:listed.size=n) (hl:listed.getD i true=false):left n (listed.setIfInBounds i true)+1=left n listed:=by
 have key:∀(l:List Nat),l.Nodup->(i∈l->(l.countP fun j=> !(listed.setIfInBounds i true).getD j false)+1=l.countP fun j=> !listed.getD j false)/\(i∉l->(l.countP fun j=> !(listed.setIfInBounds i true).getD j false)=l.countP fun j=> !listed.getD j false):=by
  intro l
  induction l with
  | nil=>intro _;exact ⟨fun h=>(by cases h),fun _=>rfl⟩
  | cons x l ih=>
   intro ko;have hx:x≠i->(listed.setIfInBounds i true).getD x false=listed.getD x false:=fun h=>getD_set_ne false (ybJ h)
   refine ⟨fun hm=>?_,fun hm=>?_⟩
   ·rw [yaI,yaI];by_cases e:x=i
    ·simp_all
    ·grind
   ·grind
 exact (key _ List.nodup_range).1 (List.mem_range.2 hi)
def ap6 {n:Nat} {listed:Array Bool} (h:left n listed=0):∀i,i<n->listed.getD i false=true:=by
 unfold left at h
 simp_all
def ap7 {listed:Array Bool} (hs:listed.size=ops.size) (hb:∀(i:Nat) (o:y8),ops[i]? =some o->∀e,e∈o.after->Region.binds .any e=true->e.on<i) (h:Region.ready .any ops listed=[]):∀i,i<ops.size->listed.getD i false=true:=by
 intro i
 induction i using vJ with
 | _ i ih=>
  intro hi
  cases hq:listed.getD i false with
  | true=>rfl
  | false=>
   have:i∈Region.ready .any ops listed:=by
    refine mem_ready.2 ⟨?_,ops[i],by simp [hi],fun e he sW=>?_⟩
    ·have aZ:i<listed.size:=by omega
     simp only [vd,aZ,Array.getElem?_eq_getElem,ux] at hq ⊢;exact hq
    ·have:=hb i ops[i] (by simp [hi]) e he sW
     exact ih e.on this (by omega)
   rw [h] at this;cases this
def atS (hG:so O H self ops rs b9 bT bR vF) (hI:Inv O ops rs b9 bT bR D m0 S0 w0 n0 d0 st c m S w a) (ml:∀i,i<rs.length->D i):
  aW O m S w (bT rs.length) (bR rs.length)/\cm O m S w (b9 rs.length) a.tmps/\cp m0 S0 w0 (bT 0) m S w (bT rs.length) (bR 0)/\bR 0<=bR rs.length:=by
 have hc:c=rs.length:=by
  rcases hI.cut with h | ⟨⟨r,h1,_⟩,h2⟩
  ·grind
  ·grind
 subst hc;refine ⟨hI.hp,fun t=>?_,hI.Qe,hI.ge⟩;obtain ⟨j,h1,h2,h3⟩:=hI.tm t;obtain ⟨k,hk⟩:∃k,rs.length=j+k:=⟨rs.length-j,by omega⟩
 have:=Iu (t:=t) (i:=j) hG.run k (by omega) (fun l r g1 g2 hl hd=>by
  have:=(h2 l r hl hd).1 (ml l (wF.1 hl).1)
  omega)
 grind
def av1 (hC:nN O self) (hH:fR O H) (hG:so O H self ops rs b9 bT bR vF) (hn:H.n<=n0)
  (hQ:∀a' m' S' w',aW O m' S' w' (bT rs.length) (bR rs.length)->bR 0<=bR rs.length->cm O m' S' w' (b9 rs.length) a'.tmps->cp m0 S0 w0 (bT 0) m' S' w' (bT rs.length) (bR 0)->a'.tmps.size=n0->a'.defers=d0->Q .normal a' w'):
  ∀(bD:Nat) (listed:Array Bool) (st c:Nat) (m:Mp) (S:Nat->Prop) (w:yi) (a:Act),listed.size=ops.size->left ops.size listed=bD->Td ops (fun i=>listed.getD i false=true)->
   Inv O ops rs b9 bT bR (fun i=>listed.getD i false=true) m0 S0 w0 n0 d0 st c m S w a->wpAnyIn (WF ro) 0 O.P .any ops Q bD listed a w:=by
 have fin:∀(listed:Array Bool) (st c:Nat) (m:Mp) (S:Nat->Prop) (w:yi) (a:Act),Inv O ops rs b9 bT bR (fun i=>listed.getD i false=true) m0 S0 w0 n0 d0 st c m S w a->(∀i,i<ops.size->listed.getD i false=true)->Q .normal a w:=by
  intro listed st c m S w a hI ml;obtain ⟨h1,h2,h3,h4⟩:=atS hG hI (fun i hi=>ml i (by rw [<-hG.len];exact hi))
  exact hQ a m S w h1 h4 h2 h3 hI.size hI.defers
 intro bD
 induction bD with
 | zero=>
  intro listed st c m S w a hs hl hc hI;have ml:=ap6 hl;refine ⟨?_,fin listed st c m S w a hI ml⟩;rw [List.eq_nil_iff_forall_not_mem];intro i hm;obtain ⟨h1,o,ho,_⟩:=mem_ready.1 hm
  grind
 | succ bD ih=>
  intro listed st c m S w a hs hl hc hI;refine ⟨fun h=>fin listed st c m S w a hI (ap7 hs hG.back h),fun i hm=>?_⟩;obtain ⟨h1,o,ho,h2⟩:=mem_ready.1 hm;have hi:i<ops.size:=(xy.1 ho).1;have hr:rs[i]? =some (rs[i]'(by rw [hG.len];exact hi)):=by simp [hG.len,hi]
  have aZ:i<listed.size:=by omega
  have hni:¬listed.getD i false=true:=by
   grind
  have hD:∀j,(listed.setIfInBounds i true).getD j false=true↔listed.getD j false=true\/j=i:=by
   intro j;by_cases e:j=i
   ·simp_all
   ·rw [getD_set_ne false (ybJ e)];simp [e]
  refine arS hC hH hG hn hI hr ho hni (acK hc i o ho h2) (fun j hj Li=>?_) hD (fun st' c' m' S' w' a' ZT=>ih (listed.setIfInBounds i true) st' c' m' S' w' a' (by simp [hs]) ?_ ?_ ZT)
  ·have hjl:j<ops.size:=by
    grind
   exact hni (arQ hc (show ops[j]? =some ops[j] by simp [hjl]) Li hj)
  ·have:=arT hi hs h1
   omega
  ·intro j oj hoj hj e he hb;rw [hD];rcases (hD j).1 hj with g | g
   ·exact .inl (hc j oj hoj g e he hb)
   ·grind
end
end
section
open Go
def ao3 {F:Fence} {n:Nat} {P:y9} {Q:um->Act->yi->Prop} {a:Act} {w:yi} {c:wU} (h:c.wpIn F n P Q a w) (hg:∀l a w,¬Q (.goto l) a w):(Code.scope c).wpIn F n P Q a w:=by
 intro b k cs cL hb hr;have h0:(lone (b.atR a (.code (.scope c)::k)) cs w).fenced P F:=fenced_calm hb hr rfl;have s0:step P (lone (b.atR a (.code (.scope c)::k)) cs w)= .next (lone (b.atR a (.code c:: .inScope c::k)) cs w):=step_lone_go (by simp [stepG,stepG.exec,Frame.atR]);obtain ⟨e,a₁,w₁,hq,Dt⟩:=h b (.inScope c::k) cs cL hb hr;have hx:∀id,exitTo id (.inScope c::k)=exitTo id k:=fun id=>by simp [exitTo]
 cases e with
 | normal=>
  have s1:step P (lone (b.atR a₁ (.inScope c::k)) cs w₁)= .next (lone (b.atR a₁ k) cs w₁):=step_lone_go (by simp [stepG,stepG.exec,Frame.atR]);exact ⟨.normal,a₁,w₁,hq,.head h0 s0 (StepsIn.trans Dt (.one (fenced_calm hb hr rfl) s1))⟩
 | exit id=>
  exact ⟨.exit id,a₁,w₁,hq,fun k' hk=> .head h0 s0 (Dt.1 k' (by rw [hx];exact hk)),fun bJ hk=>let ⟨k₁,h1,h2⟩:=Dt.2 bJ (by rw [hx];exact hk);⟨k₁,h1,.head h0 s0 h2⟩⟩
 | goto l=>exact (hg _ _ _ hq).elim
 | ret=>exact ⟨_,a₁,w₁,hq,.of_steps (.one h0 s0) Dt⟩
 | panic ch=>exact ⟨_,a₁,w₁,hq,.of_steps (.one h0 s0) Dt⟩
 | outgrown=>exact ⟨_,a₁,w₁,hq,.of_steps (.one h0 s0) Dt⟩
def q9:Ex->um
 | .normal=> .normal
 | .ret=> .ret
 | .exit id=> .exit id
def Marks (lo:Nat) (S:Nat->Prop) (w:yi) (ds:List tu):Prop:=∃rs:List Nat,ds=rs.map (fun r=>{target:= .collected r,args:=#[]})/\rs.Nodup/\
 ∀r,r∈rs->w.heap[r]? =some (.deferred (some []))/\¬S r/\lo<=r
def zJ (ro:Option Nat) (w:yi):Prop:=∀l,ro=some l->∃r:uP,w.heap[l]? =some (.loop r)
section
variable {O:bA} {m:Mp} {S:Nat->Prop} {w:yi} {hp:Hp} {ct:Nat}
def adF (hh:aW O m S w hp ct) {b:Nat} (h:ek m hp b):∀x,w.heap[b]?≠some (.deferred x):=by
 intro x hx;obtain ⟨id,o,p,h1,h2,rfl⟩:=h;have h3:=hh.obj id o p h1 h2
 cases o with
 | cells rw pu ex sz cs=>obtain ⟨q,arr,t,g1,g2,_⟩:=h3;rw [h2] at g1;injection g1 with g1;subst g1;rw [hx] at g2;cases g2
 | mp rw ks vs=>obtain ⟨q,es,clock,g1,g2,_⟩:=h3;rw [h2] at g1;injection g1 with g1;subst g1;rw [hx] at g2;cases g2
 | si s pos=>obtain ⟨q,t,g1,g2,_⟩:=h3;rw [h2] at g1;injection g1 with g1;subst g1;rw [hx] at g2;cases g2
 | lp tm ps cQ body st pe=>obtain ⟨q,l,hi,g1,g2,_⟩:=h3;rw [h2] at g1;injection g1 with g1;subst g1;rw [hx] at g2;cases g2
def AW (hh:aW O m S w hp ct) {m':Mp} {S':Nat->Prop} {w':yi} {ak:Hp} {base lo:Nat} (hf:cp m S w hp m' S' w' ak base) {ds:List tu} (h:Marks lo S w ds):Marks lo S' w' ds:=by
 obtain ⟨rs,h1,h2,h3⟩:=h;refine ⟨rs,h1,h2,fun r hr=>?_⟩;obtain ⟨this,h4,h5⟩:=h3 r hr;have aZ:=(xy.1 this).1;have oD:¬ek m hp r:=fun ho=>adF hh ho _ this
 refine ⟨(hf.same r aZ oD).trans this,fun hs=>?_,h5⟩;rcases hf.new r hs with h | h | h
 ·grind
 ·grind
 ·omega
def MF {m':Mp} {S':Nat->Prop} {w':yi} {ak:Hp} {base:Nat} {ro:Option Nat} (hf:cp m S w hp m' S' w' ak base) (h:zJ ro w):zJ ro w':=fun l hl=>
 let ⟨r,hr⟩:=h l hl
 hf.loops l r hr
def eT (O:bA) (m:Mp) (S:Nat->Prop) (w:yi) (s:St) (ex:Ex) (s':St) (n lo:Nat) (e:um) (a':Act) (w':yi):Prop:=
 e=q9 ex/\∃m' S',cm O m' S' w' s'.tm a'.tmps/\aW O m' S' w' s'.hp s'.ct/\s'.base=s.base/\s.base<=s'.ct/\cp m S w s.hp m' S' w' s'.hp s.base/\a'.tmps.size=n/\Marks lo S' w' a'.defers
def Bp (O:bA) (h:Nat) (c:wU) (s:St) (ex:Ex) (s':St):Prop:=
 ∀(ro:Option Nat) (lo:Nat) (m:Mp) (S:Nat->Prop) (w:yi) (a:Act),zJ ro w->cm O m S w s.tm a.tmps->aW O m S w s.hp s.ct->s.base<=s.ct->(O.hint h).n<=a.tmps.size->O.w0.heap.size<=lo->lo<=w.heap.size->Marks lo S w a.defers->
  c.wpIn (WF ro) 0 O.P (eT O m S w s ex s' a.tmps.size lo) a w
structure eR (O:bA):Prop where
 hint:∀h,fR O (O.hint h)
 mixed:O.P.follows .mixedOrders=true
 prog:∀n F,O.prog n=some F->∃fn,O.P.funcs[O.ah n]? =some fn/\E2 O.P (O.hint n) fn=some F/\fn.name≠ "runtime.NumGoroutine"
 aE:∀n sp az r,O.aE.pure n=some sp->sp az=some r->eH O n az r
 FI:∀n sp hp ct az v ak aP,O.aE.heap n=some sp->sp hp ct az=some (v,ak,aP)->Bo O n hp ct az v ak aP
def ID {P:y9} {H:Hint} {ops:Array y8}:∀(rs:List bh) (l:List y8) (done:List bh) (ms:List Nat),jG P H ops rs l->jG P H ops (mV done rs ms) l
 | [],l,done,ms,h=>by
  cases ms<;>simpa only [mV] using h
 | r::rs,[],done,ms,h=>by simp [jG] at h
 | r::rs,o::l,done,[],h=>by
  obtain ⟨d,g,op⟩:=r;cases op<;>simpa only [mV] using h
 | r::rs,o::l,done,m::ms,h=>by
  simp only [jG] at h;obtain ⟨h1,h2⟩:=h;obtain ⟨d,g,op⟩:=r
  cases op with
  | iW D0 f xs=>
   simp only [mV,jG];refine ⟨?_,ID rs l _ ms h2⟩;rcases h1 with h1 | ⟨_,h1⟩
   ·refine .inl ⟨?_,h1.dst,h1.ok,h1.guard⟩;obtain ⟨c,f',g1,g2,g3,g4⟩:=Sd h1.op;rw [g3,g4];exact .inr (.inl ⟨c,f',_,g1,g2,rfl⟩)
   ·simp [bad] at h1
  | st sz x y=>
   simp only [mV,jG];refine ⟨?_,ID rs l _ ms h2⟩;rcases h1 with h1 | ⟨_,h1⟩
   ·refine .inl ⟨?_,h1.dst,h1.ok,h1.guard⟩;unfold stOp
    split
    ·exact h1.op
    ·obtain ⟨t,x',y',g1,g2,g3,g4⟩:=azP h1.op;exact .inr (.inr (.inl ⟨t,x',y',sz,_,g1,g2,by rw [g3,g4]⟩))
   ·simp [bad] at h1
  | aR sz b x y=>
   simp only [mV,jG];refine ⟨?_,ID rs l _ ms h2⟩;rcases h1 with h1 | ⟨_,h1⟩
   ·refine .inl ⟨?_,h1.dst,h1.ok,h1.guard⟩;unfold ajS
    split
    ·exact h1.op
    ·obtain ⟨k,hk⟩:=av0 h1.op;exact .inr (.inr (.inr ⟨k,_,sz,b,x,y,hk,rfl⟩))
   ·simp [bad] at h1
  | _=>
   simp only [mV,jG];exact ⟨h1,ID rs l _ ms h2⟩
end
section
variable {O:bA} {self:cD}
def adG {P:y9} {H:Hint} {ops:Array y8}:∀{rs:List bh} {l:List y8},jG P H ops rs l->rs.length=l.length/\∀(i:Nat) (r:bh) (o:y8),rs[i]? =some r->l[i]? =some o->NV P H ops r o\/(r.guard=none/\r.op=bad)
 | [],[],_=>⟨rfl,fun i r o h=>by simp at h⟩
 | [],_::_,h=>by simp [jG] at h
 | _::_,[],h=>by simp [jG] at h
 | r::rs,o::l,h=>by
  obtain ⟨h1,h2⟩:=adG h.2;refine ⟨by simp [h1],fun i r' o' hr ho=>?_⟩
  cases i with
  | zero=>simp at hr ho;subst hr;subst ho;exact h.1
  | succ i=>exact h2 i r' o' (by simpa using hr) (by simpa using ho)
def ap8 {m:Mp} {S:Nat->Prop} {w:yi} {hp:Hp} {ct:Nat} (hh:aW O m S w hp ct):Calm w {w with drawn:=w.drawn+1}:=⟨rfl,rfl,rfl,yv _,fun _ _=>rfl⟩
def av2 (hO:eR O) (hC:nN O self) (h:Nat) (id:Nat) (ops:Array y8) (draw:Bool) (k:Nat) {s s':St} (hv:dP O.prog O.aE self (Nb O.P (O.hint h) ops draw k).1 s=some s'):Bp O h (.region id ops draw) s .normal s':=by
 intro ro lo m S w a cL ht hh hb hn bk fu cS;unfold Nb at hv;have Qh:=abY (P:=O.P) (H:=O.hint h) (ops:=ops) ops.toList k;generalize hq:CO O.P (O.hint h) ops ops.toList k=q at hv Qh;obtain ⟨l,k'⟩:=q;simp only at hv Qh;have post:∀{a':Act} {m':Mp} {S':Nat->Prop} {w':yi},aW O m' S' w' s'.hp s'.ct->s.ct<=s'.ct->cm O m' S' w' s'.tm a'.tmps->cp m S w s.hp m' S' w' s'.hp s.ct->a'.tmps.size=a.tmps.size->a'.defers=a.defers->s'.base=s.base->eT O m S w s .normal s' a.tmps.size lo .normal a' w':=by
  intro a' m' S' w' h1 h2 h3 h4 h5 h6 h7;exact ⟨rfl,m',S',h3,h1,h7,by omega,h4.sB hb,h5,by rw [h6];exact AW hh h4 cS⟩
 cases draw with
 | false=>
  simp only [yV] at hv;refine wpIn_region ?_;rw [List.range_eq_range'];have hl:ops.size=ops.toList.length:=by simp
  rw [hl];exact aeN hC (hO.hint h) ops.toList l 0 s s' a m S w (fun j=>by simp) Qh hv ht hh hn (fun a' m' S' w' h1 h2 h3 h4 h5 h6 h7=>post h1 h2 h3 h4 h5 h6 h7)
 | true=>
  simp only [yA] at hv
  cases pX:(Iq ops.toList 0&&EP [] (mV [] l (mi [] ops.toList)) (mi [] ops.toList)) with
  | false=>
   rw [pX] at hv;simp [dP,bad,bf,dO,aF] at hv
  | true=>
   rw [pX] at hv;simp only [yA] at hv;simp only [yh] at pX;have aj1:=ID l ops.toList [] (mi [] ops.toList) Qh;generalize mV [] l (mi [] ops.toList)=rs at hv pX aj1;obtain ⟨hlen,ay⟩:=adG aj1;obtain ⟨b9,bT,bR,vF,hR,e1,e2,e3,e4,e5,e6,e7⟩:=aeO hv;have hG:so O (O.hint h) self ops rs b9 bT bR vF:=by
    refine ⟨hR,by rw [hlen];simp,fun i r o hr ho=>?_,fun i j x y Qb hx hy=>?_,fun i o ho e he hbd=>?_⟩
    ·rcases ay i r o hr (by simpa using ho) with g | ⟨g1,g2⟩
     ·grind
     ·have:=hR.step i r hr
      simp [fc,g1,px,g2,bad,bf,dO,aF] at this
    ·obtain ⟨mm,g1,g2⟩:=abm (done:=[]) (i:=i) (j:=j) (a:=x) (b:=y) pX.2 (by simpa using hx) hy (by simpa using Qb);refine g2.imp (fun g=>?_) (fun g=>by simpa using g);unfold Ord
     grind
    ·have:=abh pX.1 (j:=i) (o:=o) (by simpa using ho) e he hbd
     omega
   refine wpIn_region_any hO.mixed ?_;have JG:=ap8 hh;have je:=EJ hh JG (S':=S) (fun _ h=>h) (fun _ h=> .inl h) hh.slt
   have Qd:cp m S w s.hp m S {w with drawn:=w.drawn+1} s.hp (bR 0):=CJ hh JG (fun _ h=>h) (fun _ h=> .inl h);obtain ⟨c,c1,c2,c3,c4⟩:=Tf rs rs.length 0 (by omega);have hg:∀k',k'<=c->iJ (bT 0) (bR 0) (bT (0+k')) (bR (0+k')):=fun k' nt=>
    MD hR (by rw [e2,e3];exact hh.aZ) k' (by omega) (fun j r g1 g2 hr=>IQ hr (c3 j g1 (by omega)))
   have iF:=hg c (yv _);rw [ye] at iF;obtain ⟨S1,g1,g2,g3,g4⟩:=MU (by rw [e2,e3];exact je:aW O m S {w with drawn:=w.drawn+1} (bT 0) (bR 0)) iF
   have sn:∀i,(uR ops.size false).getD i false=true->False:=fun i hi=>by
    simp only [vd] at hi
    grind
   refine av1 (m0:=m) (S0:=S) (w0:=w) (n0:=a.tmps.size) (d0:=a.defers) hC (hO.hint h) hG hn (fun a' m' S' w' h1 h2 h3 h4 h5 h6=>?_) ops.size _ 0 c m S1 _ a (by simp) ?_ (fun j o _ hj=>(sn j hj).elim) ?_
   ·rw [e5,e6] at h1;rw [e3,e6] at h2;rw [e4] at h3;rw [e2,e3,e5] at h4;exact post h1 h2 h3 h4 h5 h6 e7
   ·unfold left;rw [List.countP_eq_length.2]
    ·simp
    ·intro i hi;simp only [uz]
     cases hq:(uR ops.size false).getD i false with
     | false=>rfl
     | true=>exact (sn i hq).elim
   ·refine ⟨ue _,c2,fun i hi=>by omega,c3,c4.imp (fun h=>h) (fun h=>⟨h,fun hd=>sn c hd⟩),fun i r _ _ _ hd=>sn i hd,g1,fun id p hp=> .inl (by rw [e3];exact hh.lt id p hp),fun t=>⟨0,ue _,fun i r _ _=>⟨fun hd=>(sn i hd).elim,fun h=>by omega⟩,?_⟩,?_,iF.pZ,rfl,rfl,.inl rfl,fun j hj=>?_⟩
    ·rw [e1];exact lY (fun _ _ h=>h) (fun b hb=>g2 b hb) (fun b hb=>JG.same b (hh.slt b hb)) _ _ (ht t)
    ·rw [e2];have g5:=g4 (bR 0);rw [e2] at g5;exact Qd.trans g5
    ·have:=(hg j hj).lt
     rw [ye] at this;exact this
end
end
section
open Go
section
variable {O:bA} {m:Mp} {S:Nat->Prop} {w:yi} {hp:Hp} {ct:Nat}
def ab1 (hh:aW O m S w hp ct) {g:Nat} {w':yi} (hw:One w w' g) (hg:¬S g) (ho:¬ek m hp g) (bk:O.w0.heap.size<=g):aW O m S w' hp ct:=by
 have aO:fX S w w':=fun b hb=>hw.other b (fun e=>hg (e▸hb))
 refine ⟨fun id o p h1 h2=>?_,hh.lt,hh.inj,fun b hb=>by rw [hw.size];exact hh.slt b hb,fun id p h=>by rw [hw.size];exact hh.blt id p h,hh.low,fun b hb=>?_,by rw [hw.size];exact hh.fY,hh.aZ⟩
 ·exact rQ (fun _ _ h=>h) (fun _ h=>h) aO (fun q hq=>hw.other _ (fun e=>ho ⟨id,o,q,h1,hq,e⟩)) (fun _ _ h=>h) (hh.obj id o p h1 h2)
 ·rw [hw.other b (by omega)];exact hh.lG b hb
def ab2 {P:y9} {b:Nat} {o:tp} (h:w.heap[b]? =some o) (hc:∀c t f,o≠.cells c t f):(getObj b).run P w= .ok o w:=by
 simp only [getObj,Sem.run,h]
def Mq {P:y9} {b:Nat} {o x:tp} (h:w.heap[b]? =some o) (hc:∀c t f,o≠.cells c t f):(setObj b x).run P w= .ok () {w with heap:=w.heap.setIfInBounds b x}:=by
 simp only [setObj,Sem.run,h]
def Ig {P:y9} {b:Nat} {r:uP} (h:w.heap[b]? =some (.loop r)):(Instr.getLoop b).run P w= .ok r w:=by
 simp only [Instr.getLoop,Sem.run_bind,ab2 (P:=P) h (fun _ _ _=>by simp),Result.andThen_ok,Sem.run_pure]
def IR (hh:aW O m S w hp ct) {l:Nat} {tm:Env} {ps:List Nat} {cQ body:VC} {st:Nat} {pe:zY} {p:Pl} (hg:ay hp l=some (.lp tm ps cQ body st pe)) (hm:m l=some p):
  ∃(r:uP) (h:Nat),w.heap[p.b]? =some (.loop r)/\¬S p.b/\r.state=Bz st/\st<=2/\r.pending=zI pe/\cm O m S w tm r.tmps/\r.params.toList=ps/\B2 O.P (O.hint h) cQ r.assign/\B2 O.P (O.hint h) body r.body/\
   (O.hint h).n<=r.tmps.size/\zP (O.hint h).n ps=true:=by
 obtain ⟨q,r,h,g1,g2,g3⟩:=hh.obj l _ p hg hm
 grind
def acM (hh:aW O m S w hp ct) {l:Nat} {tm:Env} {ps:List Nat} {cQ body:VC} {st:Nat} {pe:zY} {p:Pl} (hg:ay hp l=some (.lp tm ps cQ body st pe)) (hm:m l=some p) {r:uP} (hr:w.heap[p.b]? =some (.loop r))
  {st':Nat} {pe':zY} (h2:st'<=2):
  aW O m S {w with heap:=w.heap.setIfInBounds p.b (.loop {r with state:=Bz st',pending:=zI pe'})} (a6 hp l (.lp tm ps cQ body st' pe')) ct/\
  cp m S w hp m S {w with heap:=w.heap.setIfInBounds p.b (.loop {r with state:=Bz st',pending:=zI pe'})} (a6 hp l (.lp tm ps cQ body st' pe')) ct:=by
 obtain ⟨r',h,g1,g2,g3,g4,g5,g6,g7,g8,g9,g10,g11⟩:=IR hh hg hm;rw [hr] at g1;injection g1 with g1
 injection g1 with g1
 subst g1;have gB:=EE w p.b (.loop {r with state:=Bz st',pending:=zI pe'})
 refine IB hh hg hm g2 gB ⟨p,{r with state:=Bz st',pending:=zI pe'},h,hm,Ml hr,g2,rfl,h2,rfl,?_,g7,g8,g9,g10,g11⟩ (fun _ _=>⟨_,Ml hr⟩);exact AU (fun _ _ h=>h) (fun _ h=>h) (fun b hb=>gB.other b (fun e=>g2 (e▸hb))) g6
def acN {n:Nat}:∀{ps:List Nat} {vs:List AV} {us:List yg} {tm tm':Env} {tmps:Array yg},r7 tm ps vs=some tm'->aA O.ah m S w vs us->cm O m S w tm tmps->n<=tmps.size->zP n ps=true->
  ps.length=us.length/\cm O m S w tm' ((ps.zip us).foldl (fun t (x:Nat×yg)=>t.setIfInBounds x.1 x.2) tmps)/\((ps.zip us).foldl (fun t (x:Nat×yg)=>t.setIfInBounds x.1 x.2) tmps).size=tmps.size
 | [],[],us,tm,tm',tmps,h,hr,ht,hn,ha=>by
  simp only [r7,yd] at h;simp only [aA] at hr
  simp_all
 | [],_::_,us,tm,tm',tmps,h,hr,ht,hn,ha=>by simp [r7] at h
 | _::_,[],us,tm,tm',tmps,h,hr,ht,hn,ha=>by simp [r7] at h
 | p::ps,v::vs,us,tm,tm',tmps,h,hr,ht,hn,ha=>by
  simp only [r7] at h;obtain ⟨u,t,rfl,h1,h2⟩:=hr;simp only [zP,yh] at ha;have hp:=zD.1 ha.1;have ht1:cm O m S w ((p,v)::tm) (tmps.setIfInBounds p u):=Sg (a:=⟨tmps,[]⟩) (d:=some p) ht (fun i hi=>by injection hi with hi;show i<tmps.size;omega) h1
  obtain ⟨g1,g2,g3⟩:=acN (n:=n) h h2 ht1 (by simpa using hn) ha.2
  simp_all
def arU (ps:Array Tmp) (args:Array yg) (tmps:Array yg):(ps.zip args).foldl (fun tmps (x:Tmp×yg)=>tmps.setIfInBounds x.1 x.2) tmps=(ps.toList.zip args.toList).foldl (fun t (x:Nat×yg)=>t.setIfInBounds x.1 x.2) tmps:=by
 rw [<-Array.foldl_toList,Array.toList_zip]
def aoa {P:y9} {b:Nat} {r:uP} (h:w.heap[b]? =some (.loop r)) (jump:Option wU):
  (Instr.endRound b jump).run P w= .ok (.bool jump.isNone) {w with heap:=w.heap.setIfInBounds b (.loop {r with state:=if jump.isNone then .ready else .done,pending:=jump})}:=by
 simp only [Instr.endRound,Sem.run_bind,Ig h,Result.andThen_ok,Mq (P:=P) h (fun _ _ _=>by simp),Sem.run_pure]
def anZ {P:y9} {b:Nat} {r:uP} (h:w.heap[b]? =some (.loop r)) (hs:r.state= .ready):
  (Instr.beginRound b).run P w= .ok () {w with heap:=w.heap.setIfInBounds b (.loop {r with state:= .busy})}:=by
 simp only [Instr.beginRound,Sem.run_bind,Ig h,Result.andThen_ok,Mq (P:=P) h (fun _ _ _=>by simp),hs,Sem.run_pure]
def arV {self:cD} (hS:∀v s ex s',self v s=some (ex,s')->∀c h l k,(comp O.P (O.hint h) c l k).1=v->Bp O h c s ex s') {l:Nat} {xs:List AV} {v:AV} {ak:Hp} {aP:Nat}
  (hv:nM self hp ct l xs=some (v,ak,aP)):ahQ O hp ct l xs v ak aP:=by
 intro m S w args p hh hm ic;unfold nM at hv
 split at hv
 case h_2=>cases hv
 rename_i tm ps cQ body pe hg;obtain ⟨r,h,g1,g2,g3,g4,g5,g6,g7,⟨ca,ka,g8⟩,⟨cb,kb,g9⟩,g10,g11⟩:=IR hh hg hm
 cases hb:r7 tm ps xs with
 | none=>simp [hb] at hv
 | some tm'=>
  simp only [hb] at hv;obtain ⟨b1,b2,b3⟩:=acN hb ic g6 g10 g11;rw [<-g7] at b1 b2 b3;have eV:args.size=r.params.size:=by
   grind
  let tmps:Array yg:=(r.params.zip args).foldl (fun tmps (x:Tmp×yg)=>tmps.setIfInBounds x.1 x.2) r.tmps
  have aj2:tmps=(r.params.toList.zip args.toList).foldl (fun t (x:Nat×yg)=>t.setIfInBounds x.1 x.2) r.tmps:=arU _ _ _;refine ⟨r.fn,tmps,r.assign,r.body,?_,?_⟩
  ·simp only [Instr.yield,Sem.run_bind,Ig g1,Result.andThen_ok,eV,ub,ybU,xi,Sem.run_pure];rfl
  refine roundIn_of_wpIn (F:=Fence.wide) trivial ?_
  cases h1:self cQ ⟨tm',hp,ct,ct⟩ with
  | none=>simp [h1] at hv
  | some q=>
   obtain ⟨ex1,s1⟩:=q
   cases ex1 with
   | ret=>simp [h1] at hv
   | exit id=>simp [h1] at hv
   | normal=>
    simp only [h1] at hv;have eC:=hS _ _ _ _ h1 r.assign h ca ka g8;have cL:∀w',cp m S w hp m S w' hp ct->zJ (some p.b) w':=fun w' hf=>MF hf (fun l hl=>⟨r,by injection hl with hl;subst hl;exact g1⟩)
    refine wpIn_mono (eC (some p.b) w.heap.size m S w ⟨tmps,[]⟩ (cL w cp.refl) (by rw [aj2];exact b2) hh (yv _) (by show _<=tmps.size;rw [aj2,b3];exact g10) hh.fY (yv _) ⟨[],rfl,by simp,by simp⟩) ?_
    rintro e a1 w1 ⟨rfl,m1,S1,k1,k2,k3,k4,k5,k6,k7⟩;simp only [q9,Exit.then];have Ca:m1 l=some p:=k5.old l p (hh.lt l p hm) hm
    split at hv
    case h_2=>cases hv
    rename_i jP DU B0 Dm Ar iF;obtain ⟨r1,je,f1,f2,f3,f4,f5,f6,f7,f8,f9,f10,f11⟩:=IR k2 iF Ca;have ZU:=anZ (P:=O.P) f1 f3;obtain ⟨q1,q2⟩:=acM k2 iF Ca f1 (st':=1) (pe':=Ar) (by omega)
    have cM:({r1 with state:=Bz 1,pending:=zI Ar}:uP)={r1 with state:= .busy}:=by rw [<-f5];rfl
    rw [cM] at q1 q2;refine ⟨_,ZU,?_⟩
    cases h2:self body ⟨s1.tm,a6 s1.hp l (.lp jP DU B0 Dm 1 Ar),s1.ct,s1.ct⟩ with
    | none=>simp [h2] at hv
    | some q=>
     obtain ⟨ex,s2⟩:=q;simp only [h2] at hv;have sZ:=hS _ _ _ _ h2 r.body h cb kb g9
     have aBp:zJ (some p.b) {w1 with heap:=w1.heap.setIfInBounds p.b (.loop {r1 with state:= .busy})}:=fun l hl=>by
      grind
     have ZV:cm O m1 S1 {w1 with heap:=w1.heap.setIfInBounds p.b (.loop {r1 with state:= .busy})} s1.tm a1.tmps:=
      AU (fun _ _ h=>h) (fun _ h=>h) (fun b hb=>q2.still b hb) k1
     have aBq:(O.hint h).n<=a1.tmps.size:=by
      grind
     refine wpIn_mono (sZ (some p.b) w.heap.size m1 S1 _ a1 aBp ZV q1 (yv _) aBq hh.fY (xj k5.size q2.size) (AW k2 q2 k7)) ?_;rintro e a2 w2 ⟨rfl,m2,S2,j1,j2,j3,j4,j5,j6,j7⟩;have hm2:m2 l=some p:=j5.old l p (k2.lt l p Ca) Ca
     split at hv
     case h_2=>cases hv
     rename_i sR K4 K5 JD pe2 GN;obtain ⟨r2,Lk,d1,d2,d3,d4,d5,d6,d7,d8,d9,d10,d11⟩:=IR j2 GN hm2;have aBr:cp m S w hp m2 S2 w2 s2.hp ct:=(k5.trans (q2.sB k4)).trans (j5.sB k4);have aj3:ct<=s2.ct:=xj k4 j4;have fin:∀(jump:Option wU) (st':Nat) (pe':zY),zI pe'=jump->Bz st'=(if jump.isNone then .ready else .done)->st'<=2->
       ∃v' w',(Instr.endRound p.b jump).run O.P w2= .ok v' w'/\zt O m S w hp ct (.bool jump.isNone) (a6 s2.hp l (.lp sR K4 K5 JD st' pe')) s2.ct (.returned v') w':=by
      intro jump st' pe' e1 e2 e3;obtain ⟨z1,z2⟩:=acM j2 GN hm2 d1 (st':=st') (pe':=pe') e3;rw [e1,e2] at z1 z2;exact ⟨_,_,aoa d1 jump,_,m2,S2,rfl,z1,aj3,by simp [ai],aBr.trans (z2.sB aj3)⟩
     cases ex with
     | normal=>
      simp only [yd,yq] at hv;obtain ⟨rfl,rfl,rfl⟩:=hv;simp only [q9,roundPost];exact fin none 0 .none rfl rfl (by omega)
     | ret=>
      simp only [S8,yd,yq] at hv;obtain ⟨rfl,rfl,rfl⟩:=hv;simp only [q9,roundPost];exact fin (some .ret) 2 .ret rfl rfl (by omega)
     | exit id=>
      simp only [S8,yd,yq] at hv;obtain ⟨rfl,rfl,rfl⟩:=hv;simp only [q9,roundPost];exact fin (some (.exit id)) 2 (.exit id) rfl rfl (by omega)
end
end
section
open Go
section
variable {O:bA} {self:cD}
def MX {P:y9} {f:FuncId} {fn:Func} {args:Array yg} {w:yi} (hf:P.funcs[f]? =some fn) (hb:fn.body.isSome=true) (hn:fn.name≠ "runtime.NumGoroutine"):(callFunc f args).run P w= .ok (.enter f args) w:=by
 have h1:fn.body≠none:=fun e=>by rw [e] at hb;cases hb
 simp [callFunc,program,Sem.run,hf,h1,hn]
def Ro {P:y9} {H:Hint} {fn:Func} {F:aV} (h:E2 P H fn=some F):∃c,fn.body=some c/\F.body=(comp P H c 0 0).1/\oZ P fn.results.toList=some F.fO/\H.n<=fn.ntmps:=by
 unfold E2 at h
 split at h
 ·rename_i c rs h1 h2
  cases hb:yG H.n fn.ntmps with
  | false=>rw [hb] at h;cases h
  | true=>
   rw [hb] at h;simp only [yA,yd] at h;subst h
   simp_all
 ·cases h
def arW {m:Mp} {S:Nat->Prop} {w:yi} {hp:Hp} {ct:Nat} {tm:Env} {a:Act} {ro:Option Nat} (fn:FuncId) (ps:Array Tmp) (assign body:wU) {cQ b':VC} {h:Nat} (hh:aW O m S w hp ct) (ht:cm O m S w tm a.tmps) (cL:zJ ro w)
  (ZW:B2 O.P (O.hint h) cQ assign) (ZX:B2 O.P (O.hint h) b' body) (hn:(O.hint h).n<=a.tmps.size) (iD:zP (O.hint h).n ps.toList=true) {lo:Nat} (fu:lo<=w.heap.size) (cS:Marks lo S w a.defers):
  ∃l mark w1,(Instr.enterLoop fn a.tmps ps assign body ro).run O.P w= .ok (l,mark) w1/\aW O (fN m ct ⟨l,0,0,0⟩) S w1 ((ct,.lp tm ps.toList cQ b' 0 .none)::hp) (ct+1)/\
   cp m S w hp (fN m ct ⟨l,0,0,0⟩) S w1 ((ct,.lp tm ps.toList cQ b' 0 .none)::hp) ct/\m ct=none/\Marks lo S w1 (mark++a.defers)/\w.heap.size<=l:=by
 have bS:m ct=none:=by
  cases hq:m ct with
  | none=>rfl
  | some p=>have:=hh.lt ct p hq;omega
 have lay:∀(w':yi) (d:Nat),Calm w w'->Marks lo S w' a.defers->
   aW O (fN m ct ⟨w'.heap.size,0,0,0⟩) S (w'.alloc (.loop {state:= .ready,pending:=none,fn:=fn,tmps:=a.tmps,params:=ps,assign:=assign,body:=body,defers:=d})) ((ct,.lp tm ps.toList cQ b' 0 .none)::hp) (ct+1)/\
   cp m S w hp (fN m ct ⟨w'.heap.size,0,0,0⟩) S (w'.alloc (.loop {state:= .ready,pending:=none,fn:=fn,tmps:=a.tmps,params:=ps,assign:=assign,body:=body,defers:=d})) ((ct,.lp tm ps.toList cQ b' 0 .none)::hp) ct:=by
  intro w' d hw aj4;have je:aW O m S w' hp ct:=EJ hh hw (fun _ h=>h) (fun _ h=> .inl h) (fun b hb=>yU (hh.slt b hb) hw.size);have Qd:cp m S w hp m S w' hp ct:=CJ hh hw (fun _ h=>h) (fun _ h=> .inl h);have hg:iJ hp ct ((ct,.lp tm ps.toList cQ b' 0 .none)::hp) (ct+1):=by
   refine ⟨fun id o ho=>⟨o,?_,jD.refl o⟩,by omega,fun id o ho=>?_,fun id o ho hi=>?_⟩
   ·rw [ix,yD (by have:=hh.aZ id o ho;omega)];exact ho
   ·rw [ix] at ho;by_cases hc:ct=id
    ·omega
    ·simp only [hc,xi] at ho;have:=hh.aZ id o ho;omega
   ·rw [ix,yD (by omega)] at ho;exact ⟨o,ho⟩
  have gI:∀i q,ay ((ct,Obj.lp tm ps.toList cQ b' 0 .none)::hp) i=some q->i≠ct->ay hp i=some q:=fun i q h hi=>by
   rw [ix,yD (fun e=>hi e.symm)] at h;exact h
  have Lk:aW O m S w' ((ct,.lp tm ps.toList cQ b' 0 .none)::hp) (ct+1):=by
   have dH:∀id p,m id=some p->id≠ct:=fun id p hm e=>by have:=hh.lt id p hm;omega
   exact ⟨fun id o p ho hm=>je.obj id o p (gI id o ho (dH id p hm)) hm,fun id p hm=>by have:=hh.lt id p hm;omega,
    fun i j oi oj pi pj hi hj bS gH e=>je.inj i j oi oj pi pj (gI i oi hi (dH i pi bS)) (gI j oj hj (dH j pj gH)) bS gH e,je.slt,je.blt,je.low,je.lG,je.fY,hg.lt⟩
  have oB:fM O (fN m ct ⟨w'.heap.size,0,0,0⟩) S (w'.alloc (.loop {state:= .ready,pending:=none,fn:=fn,tmps:=a.tmps,params:=ps,assign:=assign,body:=body,defers:=d})) ct (.lp tm ps.toList cQ b' 0 .none):=by
   refine ⟨⟨w'.heap.size,0,0,0⟩,_,h,eE,heap_alloc_new w' _,?_,rfl,by omega,rfl,?_,rfl,ZW,ZX,hn,iD⟩
   ·intro hS
    have:=je.slt _ hS
    simp at this
   ·exact AU (kK bS) (fun _ h=>h) (fun b hb=>(Ij je _ b hb).trans (hw.same b (hh.slt b hb))) ht
  obtain ⟨S',k1,k2,k3⟩:=adt (i:=ct) (p:=⟨w'.heap.size,0,0,0⟩) Lk bS (by omega) rfl (fun o ho=>by
   rw [ix] at ho;simp only [xD,yd] at ho;subst ho
   exact .inl ⟨oB,by simp [js]⟩)
  have k1':aW O (fN m ct ⟨w'.heap.size,0,0,0⟩) S (w'.alloc (.loop {state:= .ready,pending:=none,fn:=fn,tmps:=a.tmps,params:=ps,assign:=assign,body:=body,defers:=d})) ((ct,.lp tm ps.toList cQ b' 0 .none)::hp) (ct+1):=by
   have La:∀id q,m id=some q->q.b≠w'.heap.size:=fun id q hq=>by have:=je.blt id q hq;omega
   refine ⟨?_,k1.lt,k1.inj,fun b hb=>k1.slt b (k2 b hb),k1.blt,k1.low,k1.lG,k1.fY,k1.aZ⟩;intro id o q ho hm;by_cases hc:id=ct
   ·subst hc;rw [ix] at ho
    grind
   ·rw [eD hc] at hm;exact rQ (kK bS) (fun _ h=>h) (Ij je _) (fun q' bI=>alloc_old (je.blt id q' bI)) (fun _ _ h=>h) (je.obj id o q (gI id o ho hc) hm)
  refine ⟨k1',Qd.trans ⟨rfl,rfl,rfl,by simp,fun b hb _=>alloc_old hb,fun _ h=>h,fun b hb=>Ij je _ b hb,fun b hb=> .inl hb,?_,fun i q _ hq=>kK bS i q hq,fun b r hb=>⟨r,(alloc_old (xy.1 hb).1).trans hb⟩⟩⟩;rintro b ⟨i,o,q,g1,g2,g3⟩;by_cases hc:i=ct
  ·subst hc;rw [eE] at g2
   grind
  ·rw [eD hc] at g2;exact .inl ⟨i,o,q,gI i o g1 hc,g2,g3⟩
 cases ro with
 | none=>
  have JG:Calm w (w.alloc (.deferred (some []))):=⟨rfl,rfl,rfl,by simp,fun b hb=>alloc_old hb⟩;obtain ⟨rs,r1,r2,r3⟩:=cS;have aBs:Marks lo S (w.alloc (.deferred (some []))) a.defers:=⟨rs,r1,r2,fun r hr=>⟨(alloc_old (xy.1 (r3 r hr).1).1).trans (r3 r hr).1,(r3 r hr).2⟩⟩;obtain ⟨k1,k2⟩:=lay (w.alloc (.deferred (some []))) w.heap.size JG aBs
  refine ⟨(w.alloc (.deferred (some []))).heap.size,[{target:= .collected w.heap.size,args:=#[]}],_,?_,k1,k2,bS,?_,by simp⟩
  ·simp [Instr.enterLoop,newObj,Sem.run]
  ·have hold:∀(b:Nat) (x:tp),(w.alloc (.deferred (some []))).heap[b]? =some x->((w.alloc (.deferred (some []))).alloc (.loop {state:= .ready,pending:=none,fn:=fn,tmps:=a.tmps,params:=ps,assign:=assign,body:=body,defers:=w.heap.size})).heap[b]? =some x:=fun b x hb=>
    (alloc_old (xy.1 hb).1).trans hb
   refine ⟨w.heap.size::rs,by rw [r1];rfl,?_,?_⟩
   ·grind
   ·intro r hr;rcases wR.1 hr with rfl | hr
    ·exact ⟨hold _ _ (heap_alloc_new w _),fun hs=>by have:=hh.slt _ hs;omega,fu⟩
    ·exact ⟨hold _ _ ((alloc_old (xy.1 (r3 r hr).1).1).trans (r3 r hr).1),(r3 r hr).2⟩
 | some l0=>
  obtain ⟨r0,eN⟩:=cL l0 rfl;obtain ⟨k1,k2⟩:=lay w r0.defers Calm.refl cS;refine ⟨w.heap.size,[],_,?_,k1,k2,bS,?_,yv _⟩
  ·simp [Instr.enterLoop,Ig eN,newObj,Sem.run]
  ·exact AW hh k2 cS
def azQ (hO:eR O) (hC:nN O self) {h:Nat} {f:xz} {ps:Array Tmp} {assign body:wU} {cQ b':VC} (ZW:B2 O.P (O.hint h) cQ assign) (ZX:B2 O.P (O.hint h) b' body) (iD:zP (O.hint h).n ps.toList=true)
  {s:St} {ex:Ex} {s':St} (hv:bO O.prog O.aE self (.rf (aS (O.hint h) f) ps.toList cQ b') s=some (ex,s')):Bp O h (.rangeFunc f ps assign body) s ex s':=by
 intro ro lo m S w a cL ht hh hb hn bk fu cS;simp only [bO] at hv
 split at hv
 case h_2=>cases hv
 rename_i n first cap hx
 split at hv
 case h_1=>cases hv
 rename_i hL
 cases he:hZ O.prog O.aE self ((s.ct,.lp s.tm ps.toList cQ b' 0 .none)::s.hp) (s.ct+1) n (first++(.fn (.y s.ct) [] []::cap)) with
 | none=>simp [he] at hv
 | some q=>
  obtain ⟨v,bl,oE⟩:=q;simp only [he] at hv
  split at hv
  case h_2=>cases hv
  rename_i sR K4 K5 JD st pe GN
  cases aO:yx st 1 with
  | true=>rw [aO] at hv;cases hv
  | false=>
   rw [aO] at hv;simp only [yV] at hv;refine wpIn_rangeFunc (fun fn _=>?_);obtain ⟨l,mark,w1,e1,e2,e3,e4,e5,e6⟩:=arW (ro:=ro) fn ps assign body hh ht cL ZW ZX hn iD fu cS;have rf:=cB (hO.hint h) ht f;rw [hx] at rf;simp only [ai] at rf;obtain ⟨fi,ca,hf,r2,r3⟩:=rf;have hle:=kK e4 (p:=⟨l,0,0,0⟩);have sC:fX S w w1:=fun b hb=>e3.still b hb
   have ic:aA O.ah (fN m s.ct ⟨l,0,0,0⟩) S w1 (first++(.fn (.y s.ct) [] []::cap)) (fi++#[Value.func (.yield l) #[] #[]]++ca).toList:=by
    have:=lX (iw hle (fun _ h=>h) sC _ _ r2) (lX (a:=[.fn (.y s.ct) [] []]) (x:=[Value.func (.yield l) #[] #[]]) (by
     simp only [aA]
     exact ⟨_,[],rfl,by simp only [ai];exact ⟨_,eE,rfl⟩,rfl⟩) (iw hle (fun _ h=>h) sC _ _ r3))
    grind
   have TL:=hC.heap _ _ _ _ _ _ _ he _ S w1 _ e2 ic;have hP:∃F,O.prog n=some F:=by
    unfold hZ at he;rw [hL] at he
    cases hq:O.prog n with
    | none=>simp [hq] at he
    | some F=>exact ⟨F,rfl⟩
   obtain ⟨F,hF⟩:=hP;obtain ⟨fn',q1,q2,q3⟩:=hO.prog n F hF;obtain ⟨cb,q4,_⟩:=Ro q2;have fT:(callFunc (O.ah n) (fi++#[Value.func (.yield l) #[] #[]]++ca)).run O.P w1= .ok (.enter (O.ah n) (fi++#[Value.func (.yield l) #[] #[]]++ca)) w1:=MX q1 (by rw [q4];rfl) q3
   refine ⟨l,mark,w1,{target:= .fn (.func (O.ah n)) ca,args:=fi++#[Value.func (.yield l) #[] #[]]},w1,O.ah n,fi++#[Value.func (.yield l) #[] #[]]++ca,w1,e1,?_,fun _ _=>trivial,?_,fun hd=>by simp [WF,Fence.wide] at hd,?_⟩
   ·show Sem.run O.P (Deferred.ofValue (a.eval f) _) w1=_
    rw [hf];simp [Deferred.ofValue,Act.eval]
   ·simp only [invoke];exact fT
   ·rcases TL with ⟨_,TL⟩ | ⟨u,w',h1,_⟩
    case inr=>rw [fT] at h1;cases h1
    have av3:CallsIn (WF ro) 0 O.P (O.ah n) (fi++#[Value.func (.yield l) #[] #[]]++ca) w1 (zt O (fN m s.ct ⟨l,0,0,0⟩) S w1 ((s.ct,.lp s.tm ps.toList cQ b' 0 .none)::s.hp) (s.ct+1) v bl oE):=TL;refine CallsIn.mono av3 ?_;rintro e w3 ⟨u,m',S',rfl,k1,k2,k3,k4⟩;have gG:m' s.ct=some ⟨l,0,0,0⟩:=k4.old s.ct _ (yaM _) eE;obtain ⟨r,Lk,d1,d2,d3,d4,d5,d6,_⟩:=IR k1 GN gG;have p0:(r.state==LoopState.busy)=false:=by
     rw [d3];rcases st with _ | _ | st
     ·rfl
     ·simp_all
     ·have:st=0:=by omega
      subst this;rfl
    have gB:=EE w3 l (.loop {r with state:= .exhausted});have hdl:=adB k1 s.ct;have oD:¬ek m' (dK bl s.ct) l:=abw k1 GN gG
    have z1:aW O m' S' {w3 with heap:=w3.heap.setIfInBounds l (.loop {r with state:= .exhausted})} (VE.dK bl s.ct) oE:=ab1 hdl gB d2 oD (by have:=hh.fY;omega)
    have z2:cp m' S' w3 bl m' S' {w3 with heap:=w3.heap.setIfInBounds l (.loop {r with state:= .exhausted})} (VE.dK bl s.ct) s.base:=by
     refine ⟨rfl,rfl,rfl,by rw [gB.size];exact yv _,fun b _ hb=>gB.other b (fun e=>hb (e▸I3 GN gG)),fun _ h=>h,fun b hb=>gB.other b (fun e=>d2 (e▸hb)),fun b hb=> .inl hb,fun b hb=> .inl (aeL hb),fun _ _ _ h=>h,fun b x hb=>?_⟩
     grind
    have Uo:cp m S w s.hp m' S' {w3 with heap:=w3.heap.setIfInBounds l (.loop {r with state:= .exhausted})} (VE.dK bl s.ct) s.base:=
     ((e3.sB hb).trans (k4.sB (by omega))).trans z2
    have Oi:(Instr.endLoop l).run O.P w3= .ok (zI pe) {w3 with heap:=w3.heap.setIfInBounds l (.loop {r with state:= .exhausted})}:=by
     simp only [Instr.endLoop,Sem.run_bind,Ig d1,Result.andThen_ok,p0,yL,xi,Sem.run_pure,Mq (P:=O.P) d1 (fun _ _ _=>by simp),d5]
    have aj4:Marks lo S' {w3 with heap:=w3.heap.setIfInBounds l (.loop {r with state:= .exhausted})} (mark++a.defers):=AW k1 z2 (AW e2 k4 e5)
    have AA:cm O m' S' {w3 with heap:=w3.heap.setIfInBounds l (.loop {r with state:= .exhausted})} s.tm a.tmps:=by
     refine AU (fun id p hp=>?_) Uo.sub (fun b hb=>Uo.still b hb) ht;have h1:=hh.lt id p hp;exact k4.old id p (by omega) (hle id p hp)
    have post:∀ZY,s'={s with hp:=VE.dK bl s.ct,ct:=oE}->ex=ZY->eT O m S w s ex s' a.tmps.size lo (q9 ZY) {a with defers:=mark++a.defers} {w3 with heap:=w3.heap.setIfInBounds l (.loop {r with state:= .exhausted})}:=by
     rintro ZY rfl rfl;exact ⟨rfl,m',S',AA,z1,rfl,by show s.base<=oE;omega,Uo,rfl,aj4⟩
    refine ⟨_,_,Oi,?_⟩
    cases pe with
    | none=>
     simp only [yd,yq] at hv;exact post .normal hv.2.symm hv.1.symm
    | ret=>
     simp only [yd,yq] at hv;exact wpIn_ret (post .ret hv.2.symm hv.1.symm)
    | exit id=>
     simp only [yd,yq] at hv;exact wpIn_exit (post (.exit id) hv.2.symm hv.1.symm)
end
end
section
def Le (f g:cD):Prop:=∀c s r,f c s=some r->g c s=some r
section
variable {P:aM} {L:Lib} {f g:cD}
def Q9 (h:Le f g) (n:Nat) (az:List AV) (r:AV) (hr:bP P L f n az=some r):bP P L g n az=some r:=by
 unfold bP at hr ⊢
 cases hL:L.pure n with
 | some sp=>simpa only [hL] using hr
 | none=>
  simp only [hL] at hr ⊢
  cases hP:P n with
  | none=>simp [hP] at hr
  | some F=>
   simp only [hP] at hr ⊢
   cases hf:f F.body ⟨dM 0 az,[],0,0⟩ with
   | none=>simp [hf] at hr
   | some q=>rw [h _ _ _ hf];simpa only [hf] using hr
def Rr (h:Le f g) (hp:Hp) (ct:Nat) (n:Nat) (az:List AV) (r:AV×Hp×Nat) (hr:hZ P L f hp ct n az=some r):hZ P L g hp ct n az=some r:=by
 unfold hZ at hr ⊢
 cases hL:L.heap n with
 | some sp=>simpa only [hL] using hr
 | none=>
  simp only [hL] at hr ⊢
  cases hP:P n with
  | none=>simp [hP] at hr
  | some F=>
   simp only [hP] at hr ⊢
   cases hf:f F.body ⟨dM 0 az,hp,ct,ct⟩ with
   | none=>simp [hf] at hr
   | some q=>rw [h _ _ _ hf];simpa only [hf] using hr
def abo (h:Le f g) (hp:Hp) (ct:Nat) (l:Nat) (xs:List AV) (r:AV×Hp×Nat) (hr:nM f hp ct l xs=some r):nM g hp ct l xs=some r:=by
 unfold nM at hr ⊢
 cases hl:ay hp l with
 | none=>simp [hl] at hr
 | some o=>
  simp only [hl] at hr ⊢
  split at hr
  ·rename_i tm ps cQ body pe mD;simp only [yd] at mD;subst mD
   (try simp only at hr ⊢)
   cases hb:r7 tm ps xs with
   | none=>simp [hb] at hr
   | some tm'=>
    simp only [hb] at hr ⊢
    cases h1:f cQ ⟨tm',hp,ct,ct⟩ with
    | none=>simp [h1] at hr
    | some q=>
     rw [h _ _ _ h1];simp only [h1] at hr ⊢
     split at hr
     ·rename_i s1 Up;simp only [yd] at Up;subst Up
      (try simp only at hr ⊢)
      split at hr
      ·rename_i jP DU B0 Dm Ar aj5
       (try simp only [aj5])
       cases h2:f body ⟨s1.tm,a6 s1.hp l (.lp jP DU B0 Dm 1 Ar),s1.ct,s1.ct⟩ with
       | none=>simp [h2] at hr
       | some q2=>rw [h _ _ _ h2];simpa only [h2] using hr
      ·simp at hr
     ·simp at hr
  ·simp at hr
def abB (h:Le f g) (hp:Hp) (ct:Nat) (m:Md) (fv:AV) (xs:List AV) (r:AV×Hp×Nat) (hr:dO P L f hp ct m fv xs=some r):dO P L g hp ct m fv xs=some r:=by
 unfold dO at hr ⊢
 split at hr
 ·rename_i n first cap
  cases m with
  | pure=>
   simp only at hr ⊢
   cases hz:cO deep hp (first++(xs++cap)) with
   | none=>simp [hz] at hr
   | some q=>
    simp only [hz] at hr ⊢
    cases hc:bP P L f n q.1 with
    | none=>simp [hc] at hr
    | some u=>rw [Q9 h n q.1 u hc];simpa only [hc] using hr
  | own=>
   simp only at hr ⊢
   cases hz:cO deep hp (first++(xs++cap)) with
   | none=>simp [hz] at hr
   | some q=>
    simp only [hz] at hr ⊢
    cases hc:bP P L f n q.1 with
    | none=>simp [hc] at hr
    | some u=>rw [Q9 h n q.1 u hc];simpa only [hc] using hr
  | heap=>exact Rr h _ _ _ _ _ hr
  | dyn=>
   simp only at hr ⊢
   cases hz:aK (first++(xs++cap)) with
   | true=>
    simp only [hz,yA] at hr ⊢
    cases hc:bP P L f n (first++(xs++cap)) with
    | none=>simp [hc] at hr
    | some u=>rw [Q9 h n _ u hc];simpa only [hc] using hr
   | false=>
    simp only [hz,yV] at hr ⊢;exact Rr h _ _ _ _ _ hr
 ·split at hr
  ·exact abo h _ _ _ _ _ hr
  ·exact abo h _ _ _ _ _ hr
  ·simp at hr
 ·simp at hr
def acO (h:Le f g) (tm:Env) (hp:Hp) (ct:Nat) (o:Op) (r:AV×Hp×Nat) (hr:bf P L f tm hp ct o=some r):bf P L g tm hp ct o=some r:=by
 unfold bf at hr ⊢
 split at hr
 ·exact abB h _ _ _ _ _ _ hr
 ·rename_i rs fv xs
  (try simp only at hr ⊢)
  cases hc:dO P L f hp ct .dyn (aF tm fv) (dD tm xs) with
  | none=>simp [hc] at hr
  | some q=>rw [abB h _ _ _ _ _ _ hc];simpa only [hc] using hr
 all_goals simpa only using hr
def Mr (h:Le f g):∀(ops:List bh) (s s':St),dP P L f ops s=some s'->dP P L g ops s=some s'
 | [],s,s',hr=>by simpa only [dP] using hr
 | ⟨d,gd,o⟩::r,s,s',hr=>by
  simp only [dP] at hr ⊢
  split at hr
  ·rename_i hw
   try simp only [hw]
   cases ho:bf P L f s.tm s.hp s.ct o with
   | none=>simp [ho] at hr
   | some q=>rw [acO h _ _ _ _ _ ho];simp only [ho] at hr ⊢;exact Mr h r _ _ hr
  ·rename_i hw
   (try simp only [hw]);exact Mr h r _ _ hr
  ·simp at hr
def qF (h:Le f g):∀(c:VC) (s:St) (r:Ex×St),bO P L f c s=some r->bO P L g c s=some r
 | .skip,s,r,hr=>by simpa only [bO] using hr
 | .aH ops,s,r,hr=>by
  simp only [bO] at hr ⊢
  cases ho:dP P L f ops s with
  | none=>simp [ho] at hr
  | some s'=>rw [Mr h _ _ _ ho];simpa only [ho] using hr
 | .seq a b,s,r,hr=>by
  simp only [bO] at hr ⊢
  cases ha:bO P L f a s with
  | none=>simp [ha] at hr
  | some q=>
   rw [qF h a s q ha];obtain ⟨ex,s1⟩:=q
   cases ex with
   | normal=>simp only [ha] at hr ⊢;exact qF h b s1 r hr
   | ret=>simpa only [ha] using hr
   | exit id=>simpa only [ha] using hr
 | .cond x a b,s,r,hr=>by
  simp only [bO] at hr ⊢
  split at hr
  ·rename_i t ht
   try simp only [ht]
   cases t with
   | true=>simp only [yA] at hr ⊢;exact qF h a s r hr
   | false=>simp only [yV] at hr ⊢;exact qF h b s r hr
  ·simp at hr
 | .aG id a,s,r,hr=>by
  simp only [bO] at hr ⊢
  cases ha:bO P L f a s with
  | none=>simp [ha] at hr
  | some q=>rw [qF h a s q ha];simpa only [ha] using hr
 | .kp live,s,r,hr=>by simpa only [bO] using hr
 | .fz ts,s,r,hr=>by simpa only [bO] using hr
 | .loop live a,s,r,hr=>by
  simp only [bO] at hr ⊢
  cases ha:bO P L f a (aJ live s) with
  | none=>simp [ha] at hr
  | some q=>
   rw [qF h a _ q ha];obtain ⟨ex,s1⟩:=q
   cases ex with
   | normal=>simp only [ha] at hr ⊢;exact h _ _ _ hr
   | ret=>simpa only [ha] using hr
   | exit id=>simpa only [ha] using hr
 | .rf fv ps cQ body,s,r,hr=>by
  simp only [bO] at hr ⊢
  split at hr
  ·rename_i n first cap hx
   try simp only [hx]
   split at hr
   ·simp at hr
   ·rename_i hL
    try simp only [hL]
    cases hc:hZ P L f ((s.ct,.lp s.tm ps cQ body 0 .none)::s.hp) (s.ct+1) n (first++(.fn (.y s.ct) [] []::cap)) with
    | none=>simp [hc] at hr
    | some q=>rw [Rr h _ _ _ _ _ hc];simpa only [hc] using hr
  ·simp at hr
 | .exit id,s,r,hr=>by simpa only [bO] using hr
 | .ret,s,r,hr=>by simpa only [bO] using hr
end
def IS (P:aM) (L:Lib) (c:VC) (s:St):ev P L 0 c s=none:=rfl
def IT (P:aM) (L:Lib) (n:Nat):ev P L (n+1)=bO P L (ev P L n):=rfl
def ai8 (P:aM) (L:Lib):∀n,Le (ev P L n) (ev P L (n+1))
 | 0=>fun c s r h=>by rw [IS] at h;cases h
 | n+1=>fun c s r h=>by
  rw [IT] at h ⊢;exact qF (ai8 P L n) c s r h
def SH (P:aM) (L:Lib) {n m:Nat} (h:n<=m):Le (ev P L n) (ev P L m):=by
 induction h with
 | refl=>exact fun _ _ _ h=>h
 | step _ ih=>exact fun c s r hr=>ai8 P L _ c s r (ih c s r hr)
end
section
open Go
section
variable {O:bA} {self:cD}
def eT.none {m:Mp} {S:Nat->Prop} {w:yi} {s s':St} {ex:Ex} {n lo:Nat} {a:Act} {w':yi} (l:Nat):¬eT O m S w s ex s' n lo (.goto l) a w':=by
 rintro ⟨h,_⟩;cases ex<;>cases h
def eT.then {m m1:Mp} {S S1:Nat->Prop} {w w1:yi} {s s1 s2:St} {ex:Ex} {n lo:Nat} {a':Act} {w':yi} {e:um} {ex1:Ex} (h1:s1.base=s.base)
  (hf:cp m S w s.hp m1 S1 w1 s1.hp s.base) (h:eT O m1 S1 w1 s1 ex s2 n lo e a' w'):eT O m S w s ex s2 n lo e a' w':=by
 obtain ⟨h2,m',S',k1,k2,k3,k4,k5,k6,k7⟩:=h;rw [h1] at k3 k4 k5;exact ⟨h2,m',S',k1,k2,k3,k4,hf.trans k5,k6,k7⟩
def eT.cC {m:Mp} {S:Nat->Prop} {w:yi} {s s1:St} {n lo:Nat} {a':Act} {w':yi} {e:um} {ex:Ex} (live:List Nat) (h:eT O m S w s ex s1 n lo e a' w'):eT O m S w s ex (aJ live s1) n lo e a' w':=by
 obtain ⟨h2,m',S',k1,k2,k3,k4,k5,k6,k7⟩:=h;obtain ⟨m2,g1,g2,g3,g4,g5⟩:=RB (live:=live) k1 k2 (by rw [k3];exact k4)
 rw [k3] at g3 g4 g5;exact ⟨h2,m2,S',g1,g2,g3,g4,k5.trans g5,k6,AW k2 g5 k7⟩
def ai9 {m:Mp} {w:yi} {tmps:Array yg}:∀{ts:List Nat} {s s1:St} {S:Nat->Prop},cm O m S w s.tm tmps->aW O m S w s.hp s.ct->pw ts s=some s1->
  ∃S1,cm O m S1 w s1.tm tmps/\aW O m S1 w s1.hp s1.ct/\s1.base=s.base/\s1.ct=s.ct/\∀base,cp m S w s.hp m S1 w s1.hp base
 | [],s,s1,S,ht,hh,h=>by
  simp only [pw,yd] at h;subst h;exact ⟨S,ht,hh,rfl,rfl,fun _=>cp.refl⟩
 | t::r,s,s1,S,ht,hh,h=>by
  simp only [pw] at h
  cases hz:freeze deep s.hp (af s.tm t) with
  | none=>simp [hz] at h
  | some q=>
   obtain ⟨v,hp⟩:=q;simp only [hz] at h;obtain ⟨h1,h2,h3⟩:=RP (O:=O) hz;have hg:iJ s.hp s.ct hp s.ct:=⟨h1,yv _,fun id o ho=>(by
     have:=h2 id
     rw [ho] at this
     cases hq:ay s.hp id with
     | none=>rw [hq] at this;simp at this
     | some o'=>exact hh.aZ id o' hq),fun id o ho _=>(by
     have:=h2 id
     rw [ho] at this
     cases hq:ay s.hp id with
     | none=>rw [hq] at this;simp at this
     | some o'=>exact ⟨o',rfl⟩)⟩
   obtain ⟨S',k1,k2,k3,k4⟩:=MU hh hg;have AA:cm O m S' w ((t,v)::s.tm) tmps:=by
    intro i;simp only [af]
    cases hb:yx t i with
    | true=>
     have:=yt hb
     subst this;exact (h3 hp m S' w s.ct di.refl k1).1 _ (lY (fun _ _ h=>h) k2 (fun _ _=>rfl) _ _ (ht t))
    | false=>
     exact lY (fun _ _ h=>h) k2 (fun _ _=>rfl) _ _ (ht i)
   obtain ⟨S1,g1,g2,g3,g4,g5⟩:=ai9 (s:={s with tm:=(t,v)::s.tm,hp:=hp}) AA k1 h;exact ⟨S1,g1,g2,g3,g4,fun base=>(k4 base).trans (g5 base)⟩
def aeR (hO:eR O) (n:Nat) (hC:∀k,k<=n->nN O (ev O.prog O.aE k)) (h:Nat):∀(c:wU) (l k:Nat) (j:Nat),j<=n->∀(s:St) (ex:Ex) (s':St),
  bO O.prog O.aE (ev O.prog O.aE j) (comp O.P (O.hint h) c l k).1 s=some (ex,s')->Bp O h c s ex s':=by
 have refl:∀{s:St} {ex:Ex} {m:Mp} {S:Nat->Prop} {w:yi} {a:Act} {lo:Nat},cm O m S w s.tm a.tmps->aW O m S w s.hp s.ct->s.base<=s.ct->Marks lo S w a.defers->eT O m S w s ex s a.tmps.size lo (q9 ex) a w:=
  fun h1 h2 h3 h4=>⟨rfl,_,_,h1,h2,rfl,h3,cp.refl,rfl,h4⟩
 have Uq:∀{self:cD} {s:St} {r:Ex×St},bO O.prog O.aE self (.aH [⟨none,none,bad⟩]) s=some r->False:=by
  intro self s r hv;simp [bO,dP,bad,bf,dO,aF] at hv
 intro c
 induction c with
 | skip=>
  intro l k j hj s ex s' hv ro lo m S w a cL ht hh hb hn bk fu cS;simp only [comp,bO,yd,yq] at hv;obtain ⟨rfl,rfl⟩:=hv;exact wpIn_skip (refl ht hh hb cS)
 | label x=>
  intro l k j hj s ex s' hv ro lo m S w a cL ht hh hb hn bk fu cS;simp only [comp,bO,yd,yq] at hv;obtain ⟨rfl,rfl⟩:=hv;exact wpIn_label (refl ht hh hb cS)
 | exit id=>
  intro l k j hj s ex s' hv ro lo m S w a cL ht hh hb hn bk fu cS;simp only [comp,bO,yd,yq] at hv;obtain ⟨rfl,rfl⟩:=hv
  exact wpIn_exit (refl (ex:= .exit id) ht hh hb cS)
 | ret=>
  intro l k j hj s ex s' hv ro lo m S w a cL ht hh hb hn bk fu cS;simp only [comp,bO,yd,yq] at hv;obtain ⟨rfl,rfl⟩:=hv
  exact wpIn_ret (refl (ex:= .ret) ht hh hb cS)
 | goto x=>intro l k j hj s ex s' hv;exact (Uq (by simpa only [comp] using hv)).elim
 | refuse x=>intro l k j hj s ex s' hv;exact (Uq (by simpa only [comp] using hv)).elim
 | region id ops d=>
  intro l k j hj s ex s' hv;simp only [comp] at hv;generalize hq:Nb O.P (O.hint h) ops d k=q at hv;obtain ⟨r,k'⟩:=q;have main:∀{s s':St} {ex:Ex},bO O.prog O.aE (ev O.prog O.aE j) (.aH r) s=some (ex,s')->Bp O h (.region id ops d) s ex s':=by
   intro s s' ex hv;simp only [bO] at hv
   cases ho:dP O.prog O.aE (ev O.prog O.aE j) r s with
   | none=>simp [ho] at hv
   | some s1=>
    simp only [ho,yd,yq] at hv;obtain ⟨rfl,rfl⟩:=hv;exact av2 hO (hC j hj) h id ops d k (by rw [hq];exact ho)
  simp only at hv
  split at hv
  ·exact main hv
  ·rename_i t ts _;simp only [bO] at hv
   cases hf:pw (t::ts) s with
   | none=>simp [hf] at hv
   | some s1=>
    simp only [hf] at hv;intro ro lo m S w a cL ht hh hb hn bk fu cS;obtain ⟨S1,g1,g2,g3,g4,g5⟩:=ai9 ht hh hf;have h1:=main (s:=s1) (by simpa only [bO] using hv) ro lo m S1 w a cL g1 g2 (by rw [g3,g4];exact hb) hn bk fu (AW hh (g5 s.base) cS)
    refine wpIn_mono h1 (fun e a' w' hp=>?_)
    exact eT.then (ex1:= .normal) g3 (g5 s.base) hp
 | seq x y ihx ihy=>
  intro l k j hj s ex s' hv ro lo m S w a cL ht hh hb hn bk fu cS;simp only [comp] at hv;generalize za:comp O.P (O.hint h) x l k=qx at hv;obtain ⟨x',l1,k1⟩:=qx;simp only at hv;generalize Ll:comp O.P (O.hint h) y l1 k1=qy at hv;obtain ⟨y',l2,k2⟩:=qy;simp only [bO] at hv
  cases hx:bO O.prog O.aE (ev O.prog O.aE j) x' s with
  | none=>simp [hx] at hv
  | some r=>
   obtain ⟨ex1,s1⟩:=r;have h1:=ihx l k j hj s ex1 s1 (by rw [za];exact hx) ro lo m S w a cL ht hh hb hn bk fu cS
   refine wpIn_seq (wpIn_mono h1 ?_);rintro e a1 w1 ⟨rfl,m1,S1,g1,g2,g3,g4,g5,g6,g7⟩;have stop:ex1≠.normal->ex=ex1/\s'=s1:=by
    intro dH;rw [hx] at hv
    cases ex1 with
    | normal=>exact absurd rfl dH
    | ret=>simp only [yd,yq] at hv;exact ⟨hv.1.symm,hv.2.symm⟩
    | exit id=>simp only [yd,yq] at hv;exact ⟨hv.1.symm,hv.2.symm⟩
   cases ex1 with
   | normal=>
    simp only [hx] at hv;simp only [q9,Exit.then];have h2:=ihy l1 k1 j hj s1 ex s' (by rw [Ll];exact hv) ro lo m1 S1 w1 a1 (MF g5 cL) g1 g2 (by rw [g3];exact g4) (by rw [g6];exact hn) bk (xj fu g5.size) g7
    rw [g6] at h2
    exact wpIn_mono h2 (fun e a' w' hp=>eT.then (ex1:= .normal) g3 g5 hp)
   | ret=>
    obtain ⟨rfl,rfl⟩:=stop (by simp);exact ⟨rfl,m1,S1,g1,g2,g3,g4,g5,g6,g7⟩
   | exit id=>
    obtain ⟨rfl,rfl⟩:=stop (by simp);exact ⟨rfl,m1,S1,g1,g2,g3,g4,g5,g6,g7⟩
 | cond x p q ihp ihq=>
  intro l k j hj s ex s' hv ro lo m S w a cL ht hh hb hn bk fu cS;simp only [comp] at hv;generalize za:comp O.P (O.hint h) p (l+1) k=qx at hv;obtain ⟨p',l1,k1⟩:=qx;simp only at hv;generalize Ll:comp O.P (O.hint h) q l1 k1=qy at hv;obtain ⟨q',l2,k2⟩:=qy;simp only at hv;have main:∀(ex:Ex) (s':St),bO O.prog O.aE (ev O.prog O.aE j) (.cond (aS (O.hint h) x) p' q') s=some (ex,s')->(Code.cond x p q).wpIn (WF ro) 0 O.P (eT O m S w s ex s' a.tmps.size lo) a w:=by
   intro ex s' hv;simp only [bO] at hv;have rx:=cB (hO.hint h) ht x
   split at hv
   ·rename_i t hx;rw [hx] at rx;simp only [ai] at rx
    cases t with
    | true=>
     simp only [yA] at hv;exact wpIn_cond_true rx (ihp (l+1) k j hj s ex s' (by rw [za];exact hv) ro lo m S w a cL ht hh hb hn bk fu cS)
    | false=>
     simp only [yV] at hv;exact wpIn_cond_false rx (ihq l1 k1 j hj s ex s' (by rw [Ll];exact hv) ro lo m S w a cL ht hh hb hn bk fu cS)
   ·cases hv
  cases FJ:(O.hint h).out l with
  | none=>rw [FJ] at hv;exact main ex s' hv
  | some live=>
   rw [FJ] at hv;simp only at hv;rw [show bO O.prog O.aE (ev O.prog O.aE j) (.seq (.cond (aS (O.hint h) x) p' q') (.kp live)) s=match bO O.prog O.aE (ev O.prog O.aE j) (.cond (aS (O.hint h) x) p' q') s with | some (.normal,s1)=>some (.normal,aJ live s1) | r=>r from rfl] at hv
   cases hx:bO O.prog O.aE (ev O.prog O.aE j) (.cond (aS (O.hint h) x) p' q') s with
   | none=>simp [hx] at hv
   | some r=>
    obtain ⟨ex1,s1⟩:=r;have h1:=main ex1 s1 hx;rw [hx] at hv
    cases ex1 with
    | normal=>
     simp only [yd,yq] at hv;obtain ⟨rfl,rfl⟩:=hv;exact wpIn_mono h1 (fun e a' w' hp=>eT.cC live hp)
    | ret=>simp only [yd,yq] at hv;obtain ⟨rfl,rfl⟩:=hv;exact h1
    | exit id=>simp only [yd,yq] at hv;obtain ⟨rfl,rfl⟩:=hv;exact h1
 | block id x ih=>
  intro l k j hj s ex s' hv ro lo m S w a cL ht hh hb hn bk fu cS;simp only [comp] at hv;generalize za:comp O.P (O.hint h) x l k=qx at hv;obtain ⟨x',r⟩:=qx;simp only at hv;have main:∀(ex:Ex) (s':St),bO O.prog O.aE (ev O.prog O.aE j) (.aG id x') s=some (ex,s')->(Code.block id x).wpIn (WF ro) 0 O.P (eT O m S w s ex s' a.tmps.size lo) a w:=by
   intro ex s' hv;simp only [bO] at hv
   cases hx:bO O.prog O.aE (ev O.prog O.aE j) x' s with
   | none=>simp [hx] at hv
   | some q=>
    obtain ⟨ex1,s1⟩:=q;have h1:=ih l k j hj s ex1 s1 (by rw [za];exact hx) ro lo m S w a cL ht hh hb hn bk fu cS
    refine wpIn_block (wpIn_mono h1 ?_);rintro e a1 w1 ⟨rfl,g⟩
    cases ex1 with
    | normal=>
     simp only [hx,yd,yq] at hv;obtain ⟨rfl,rfl⟩:=hv;exact ⟨rfl,g⟩
    | ret=>
     simp only [hx,yd,yq] at hv;obtain ⟨rfl,rfl⟩:=hv;exact ⟨rfl,g⟩
    | exit i=>
     simp only [hx] at hv
     cases Qi:yx i id with
     | true=>
      rw [Qi] at hv;simp only [yA,yd,yq] at hv;obtain ⟨rfl,rfl⟩:=hv
      have:=yt Qi
      subst this;simp only [q9,Exit.inBlock,xD];exact ⟨rfl,g⟩
     | false=>
      rw [Qi] at hv;simp only [yV,yd,yq] at hv;obtain ⟨rfl,rfl⟩:=hv;have dH:i≠id:=fun e=>by subst e;simp at Qi
      simp only [q9,Exit.inBlock,dH,xi];exact ⟨rfl,g⟩
  have azR:∀live:List Nat,bO O.prog O.aE (ev O.prog O.aE j) (.seq (.aG id x') (.kp live)) s=some (ex,s')->(Code.block id x).wpIn (WF ro) 0 O.P (eT O m S w s ex s' a.tmps.size lo) a w:=by
   intro live hv;rw [show bO O.prog O.aE (ev O.prog O.aE j) (.seq (.aG id x') (.kp live)) s=match bO O.prog O.aE (ev O.prog O.aE j) (.aG id x') s with | some (.normal,s1)=>some (.normal,aJ live s1) | r=>r from rfl] at hv
   cases hx:bO O.prog O.aE (ev O.prog O.aE j) (.aG id x') s with
   | none=>simp [hx] at hv
   | some r=>
    obtain ⟨ex1,s1⟩:=r;have h1:=main ex1 s1 hx;rw [hx] at hv
    cases ex1 with
    | normal=>
     simp only [yd,yq] at hv;obtain ⟨rfl,rfl⟩:=hv;exact wpIn_mono h1 (fun e a' w' hp=>eT.cC live hp)
    | ret=>simp only [yd,yq] at hv;obtain ⟨rfl,rfl⟩:=hv;exact h1
    | exit id=>simp only [yd,yq] at hv;obtain ⟨rfl,rfl⟩:=hv;exact h1
  split at hv
  ·exact azR _ hv
  ·exact main ex s' hv
 | loop x ih=>
  intro l k j hj s ex s' hv;simp only [comp] at hv;generalize za:comp O.P (O.hint h) x (l+1) k=qx at hv;obtain ⟨x',r⟩:=qx;simp only at hv;have rounds:∀(j:Nat),j<=n->∀(s:St) (ex:Ex) (s':St),bO O.prog O.aE (ev O.prog O.aE j) (.loop ((O.hint h).live l) x') s=some (ex,s')->∃K,∀(ro:Option Nat) (lo:Nat) (m:Mp) (S:Nat->Prop) (w:yi) (a:Act),zJ ro w->cm O m S w s.tm a.tmps->aW O m S w s.hp s.ct->s.base<=s.ct->(O.hint h).n<=a.tmps.size->O.w0.heap.size<=lo->lo<=w.heap.size->Marks lo S w a.defers->
    Code.roundsIn (WF ro) 0 O.P x (eT O m S w s ex s' a.tmps.size lo) K a w:=by
   intro j
   induction j with
   | zero=>
    intro hj s ex s' hv;simp only [bO] at hv
    cases hx:bO O.prog O.aE (ev O.prog O.aE 0) x' (aJ ((O.hint h).live l) s) with
    | none=>simp [hx] at hv
    | some q=>
     obtain ⟨ex1,s1⟩:=q;have stop:ex1≠.normal->ex=ex1/\s'=s1:=by
      intro dH;rw [hx] at hv
      cases ex1 with
      | normal=>exact absurd rfl dH
      | ret=>simp only [yd,yq] at hv;exact ⟨hv.1.symm,hv.2.symm⟩
      | exit id=>simp only [yd,yq] at hv;exact ⟨hv.1.symm,hv.2.symm⟩
     refine ⟨1,fun ro lo m S w a cL ht hh hb hn bk fu cS=>?_⟩;rw [roundsIn_succ];obtain ⟨m1,c1,c2,c3,c4,c5⟩:=RB (live:=(O.hint h).live l) ht hh hb;have h1:=ih (l+1) k 0 hj _ ex1 s1 (by rw [za];exact hx) ro lo m1 S w a cL c1 c2 (by rw [c3];exact c4) hn bk fu cS
     refine wpIn_mono h1 ?_;rintro e a1 w1 hp;have ak:=eT.then (O:=O) (m:=m) (S:=S) (w:=w) (s:=s) (ex1:= .normal) c3 c5 hp;obtain ⟨rfl,_⟩:=hp
     cases ex1 with
     | normal=>simp only [hx,IS] at hv;cases hv
     | ret=>obtain ⟨rfl,rfl⟩:=stop (by simp);exact ak
     | exit id=>obtain ⟨rfl,rfl⟩:=stop (by simp);exact ak
   | succ j ihj=>
    intro hj s ex s' hv;simp only [bO] at hv
    cases hx:bO O.prog O.aE (ev O.prog O.aE (j+1)) x' (aJ ((O.hint h).live l) s) with
    | none=>simp [hx] at hv
    | some q=>
     obtain ⟨ex1,s1⟩:=q;have stop:ex1≠.normal->ex=ex1/\s'=s1:=by
      intro dH;rw [hx] at hv
      cases ex1 with
      | normal=>exact absurd rfl dH
      | ret=>simp only [yd,yq] at hv;exact ⟨hv.1.symm,hv.2.symm⟩
      | exit id=>simp only [yd,yq] at hv;exact ⟨hv.1.symm,hv.2.symm⟩
     have more:∃K,ex1= .normal->∀(ro:Option Nat) (lo:Nat) (m:Mp) (S:Nat->Prop) (w:yi) (a:Act),zJ ro w->cm O m S w s1.tm a.tmps->aW O m S w s1.hp s1.ct->s1.base<=s1.ct->(O.hint h).n<=a.tmps.size->O.w0.heap.size<=lo->lo<=w.heap.size->Marks lo S w a.defers->
       Code.roundsIn (WF ro) 0 O.P x (eT O m S w s1 ex s' a.tmps.size lo) K a w:=by
      cases ex1 with
      | normal=>
       rw [hx] at hv;have eI:ev O.prog O.aE (j+1) (.loop ((O.hint h).live l) x') s1=some (ex,s'):=hv;rw [IT] at eI;obtain ⟨K,hK⟩:=ihj (by omega) s1 ex s' eI;exact ⟨K,fun _=>hK⟩
      | ret=>exact ⟨0,fun h=>by cases h⟩
      | exit id=>exact ⟨0,fun h=>by cases h⟩
     obtain ⟨K,hK⟩:=more;refine ⟨K+1,fun ro lo m S w a cL ht hh hb hn bk fu cS=>?_⟩;rw [roundsIn_succ];obtain ⟨m1,c1,c2,c3,c4,c5⟩:=RB (live:=(O.hint h).live l) ht hh hb;have h1:=ih (l+1) k (j+1) hj _ ex1 s1 (by rw [za];exact hx) ro lo m1 S w a cL c1 c2 (by rw [c3];exact c4) hn bk fu cS
     refine wpIn_mono h1 ?_;rintro e a1 w1 hp;have ak:=eT.then (O:=O) (m:=m) (S:=S) (w:=w) (s:=s) (ex1:= .normal) c3 c5 hp;obtain ⟨rfl,_⟩:=hp
     cases ex1 with
     | normal=>
      simp only [q9,Exit.then];obtain ⟨_,m2,S2,g1,g2,g3,g4,g5,g6,g7⟩:=ak;have h2:=hK rfl ro lo m2 S2 w1 a1 (MF g5 cL) g1 g2 (by rw [g3];exact g4) (by rw [g6];exact hn) bk (xj fu g5.size) g7
      rw [g6] at h2;revert h2;generalize hA:a.tmps.size=sz;intro h2;have step:∀(K:Nat) (a':Act) (w':yi),Code.roundsIn (WF ro) 0 O.P x (eT O m2 S2 w1 s1 ex s' sz lo) K a' w'->Code.roundsIn (WF ro) 0 O.P x (eT O m S w s ex s' sz lo) K a' w':=by
       intro K
       induction K with
       | zero=>intro a' w' B8;exact B8
       | succ K ihK=>
        intro a' w' B8;rw [roundsIn_succ] at B8 ⊢;refine wpIn_mono B8 (fun e a'' P5 hq=>?_)
        cases e with
        | normal=>exact ihK a'' P5 hq
        | exit id=>exact eT.then (ex1:= .normal) g3 g5 hq
        | goto x=>exact eT.then (ex1:= .normal) g3 g5 hq
        | ret=>exact eT.then (ex1:= .normal) g3 g5 hq
        | panic x=>exact eT.then (ex1:= .normal) g3 g5 hq
        | outgrown=>exact eT.then (ex1:= .normal) g3 g5 hq
      exact step K a1 w1 h2
     | ret=>obtain ⟨rfl,rfl⟩:=stop (by simp);exact ak
     | exit id=>obtain ⟨rfl,rfl⟩:=stop (by simp);exact ak
  obtain ⟨K,hK⟩:=rounds j hj s ex s' hv;intro ro lo m S w a cL ht hh hb hn bk fu cS;exact wpIn_loop_rounds K (hK ro lo m S w a cL ht hh hb hn bk fu cS)
 | scope x ih=>
  intro l k j hj s ex s' hv ro lo m S w a cL ht hh hb hn bk fu cS;simp only [comp] at hv;exact ao3 (ih l k j hj s ex s' hv ro lo m S w a cL ht hh hb hn bk fu cS) (fun l a w=>eT.none l)
 | rangeFunc f ps cQ body iha ihb=>
  intro l k j hj s ex s' hv;simp only [comp] at hv;generalize za:comp O.P (O.hint h) cQ l k=qx at hv;obtain ⟨x',l1,k1⟩:=qx;simp only at hv;generalize Ll:comp O.P (O.hint h) body l1 k1=qy at hv;obtain ⟨y',l2,k2⟩:=qy;simp only at hv
  cases ha:zP (O.hint h).n ps.toList with
  | false=>rw [ha] at hv;exact (Uq hv).elim
  | true=>
   rw [ha] at hv;exact azQ hO (hC j hj) ⟨l,k,by rw [za]⟩ ⟨l1,k1,by rw [Ll]⟩ ha hv
end
end
end VE
