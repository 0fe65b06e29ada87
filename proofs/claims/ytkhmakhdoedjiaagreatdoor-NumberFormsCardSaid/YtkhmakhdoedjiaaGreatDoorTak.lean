import Derived.Test.YtkhmakhdoedjiaaGreatDoorTaj
set_option linter.all false
set_option maxRecDepth 100000
section
namespace VE
open Go
section
variable {Λ:Link} {H:zbH} {m:Mp} {S:Nat→Prop} {w:World} {tm:Env} {a:Act} {hp hp' Hq:Hp} {ct ct' cH:Nat} {self:Run} {ro:Option Nat} {next:Act→World→Prop} {Q:Exit→Act→World→Prop}
theorem ztx {g:Go.Obj} {p:Pl} {S':Nat→Prop} {base:Nat} (hh:zR Λ m S w Hq cH) (hi:m ct=none) (hb:p.b=w.heap.size) (h1:∀b,S b→S' b) (h2:∀b,S' b→S b∨b=w.heap.size):
  Fwd m S w Hq (zcw m ct p) S' (w.alloc g) Hq base where
 os:=rfl
 tape:=rfl
 output:=rfl
 size:=by simp
 same b hb _:=za4 hb
 sub:=h1
 still b hb:=za4 (hh.slt b hb)
 new b hb:=(h2 b hb).imp (fun h=>h) (fun h=> .inr (by omega))
 own b hb:=by
  obtain ⟨i,o,q,g1,g2,g3⟩:=hb;by_cases hc:i=ct
  ·subst hc;rw [zQ] at g2;injection g2 with g2
   subst g2;exact .inr (by omega)
  ·rw [zJ hc] at g2;exact .inl ⟨i,o,q,g1,g2,g3⟩
 old i q _ h:=zbf hi i q h
 loops b r hb:=⟨r,(za4 (Array.getElem?_eq_some_iff.1 hb).1).trans hb⟩
theorem zis {vals0 vals:List AV} {us:List Value} {hp1:Hp} (hz:zT zcJ hp vals0=some (vals,hp1)) (hl:HLe hp1 Hq) (hh:zR Λ m S w Hq cH) (hr:zi Λ.fid m S w vals0 us):zi Λ.fid noM S w vals us∧zn vals=true:=by
 obtain ⟨_,_,h3⟩:=zgG (Λ:=Λ) hz;obtain ⟨k1,k2⟩:=h3 Hq m S w cH hl hh;exact ⟨zb4 (fun _ h=>h) (fun _ _=>rfl) _ _ k2 (k1 us hr),k2⟩
theorem zmO (hh:zR Λ m S w Hq cH):ziP Λ w:=⟨hh.good,hh.goodS⟩
theorem zg4 (hH:zaM Λ H) (ht:zaB Λ m S w tm a.tmps) {f:Operand} {g:Nat} {first cap:List AV} {args:Array Operand} (hf:zp tm (opX H f)= .fn (.f g) first cap):
  ∃fi ca:Array Value,a.eval f= .func (.func (Λ.fid g)) fi ca∧zi Λ.fid m S w (first++(zaz tm (zdB H args.toList)++cap)) (fi++args.map a.eval++ca).toList:=by
 have rf:=zad hH ht f;rw [hf] at rf;simp only [zm] at rf;obtain ⟨fi,ca,h1,h2,h3⟩:=rf;refine ⟨fi,ca,h1,?_⟩
 have:=zar h2 (zar (zgK hH ht args.toList) h3)
 simpa using this
theorem zoX (hC:zb0 Λ self) (hH:zaM Λ H) {o:Oper} {c:Call} {f:Operand} (ho:o.op= .call c) (hcf:c.callee= .value f) {g:Nat} {first cap vals:List AV} {hp1:Hp} {r:AV}
  (hf:zp tm (opX H f)= .fn (.f g) first cap) (hz:zT zcJ hp (first++(zaz tm (zdB H c.args.toList)++cap))=some (vals,hp1)) (hr:zk Λ.prog Λ.lib self g vals=some r)
  (hl:HLe hp1 Hq) (ht:zaB Λ m S w tm a.tmps) (hh:zR Λ m S w Hq cH)
  (hn:∀u S' w',zR Λ m S' w' Hq cH→zm Λ.fid m S' w' (shut r) u→Fwd m S w Hq m S' w' Hq cH→next (a.put o.dst u) w'):o.wpIn (WF ro) 0 Λ.P a w next Q:=by
 obtain ⟨fi,ca,h1,h2⟩:=zg4 hH ht (args:=c.args) hf;obtain ⟨h3,h4⟩:=zis hz hl hh h2;refine ze4 ho hcf h1 (hC.pure g vals r hr w S _ (zmO hh) hh.slt h3 h4) ?_;rintro e w' ⟨u,S',rfl,hw,g1,g2,g3,g4⟩;refine ⟨u,rfl,?_⟩;obtain ⟨S2,k1,k2,k3⟩:=zlH g4 m;have hS:∀b,S b→S2 b:=fun b hb=>k1 b (g1 b hb)
 have hS':∀b,S2 b→S b∨w.heap.size≤b:=fun b hb=>(k2 b hb).elim (g2 b) (fun h=> .inr h.1)
 have hl:∀b,S2 b→b<w'.heap.size:=fun b hb=>(k2 b hb).elim (g3 b) (fun h=>h.2)
 exact hn u S2 w' (zdM hh hw hS hS' hl) k3 (zd2 hh hw hS hS')
theorem zu8 (hC:zb0 Λ self) (hH:zaM Λ H) {o:Oper} {c:Call} {f:Operand} (ho:o.op= .call c) (hcf:c.callee= .value f) {g:Nat} {first cap vals:List AV} {hp1:Hp} {r:AV}
  (hf:zp tm (opX H f)= .fn (.f g) first cap) (hz:zT zcJ hp (first++(zaz tm (zdB H c.args.toList)++cap))=some (vals,hp1)) (hr:zk Λ.prog Λ.lib self g vals=some r)
  (hl:HLe (own hp1 ct r).2.1 Hq) (hct:(own hp1 ct r).2.2≤cH) (hlt:∀id o,zq hp id=some o→id<ct) (hnn:∀id,ct≤id→id<(own hp1 ct r).2.2→m id=none)
  (ht:zaB Λ m S w tm a.tmps) (hh:zR Λ m S w Hq cH)
  (hn:∀u m' S' w',zR Λ m' S' w' Hq cH→MLe m m'→(∀id p,m' id=some p→m id=some p∨(ct≤id∧id<(own hp1 ct r).2.2))→zm Λ.fid m' S' w' (own hp1 ct r).1 u→Fwd m S w Hq m' S' w' Hq cH→next (a.put o.dst u) w'):
  o.wpIn (WF ro) 0 Λ.P a w next Q:=by
 obtain ⟨fi,ca,h1,h2⟩:=zg4 hH ht (args:=c.args) hf;obtain ⟨z1,z2,z3⟩:=zgG (Λ:=Λ) hz;have hlt1:∀id o,zq hp1 id=some o→id<ct:=fun id o h=>by
  have:=z2 id
  rw [h] at this
  cases hq:zq hp id with
  | none=>rw [hq] at this;cases this
  | some q=>exact hlt id q hq
 have hp1own:∀id o,zq hp1 id=some o→zq (own hp1 ct r).2.1 id=some o:=fun id o h=>by
  cases r with
  | tup vs=>exact zi3 hlt1 id o h
  | _=>exact zmY hlt1 id o h
 have hl1:HLe hp1 Hq:=fun id o h=>hl id o (hp1own id o h)
 obtain ⟨h3,h4⟩:=zis hz hl1 hh h2;refine ze4 ho hcf h1 (hC.pure g vals r hr w S _ (zmO hh) hh.slt h3 h4) ?_;rintro e w' ⟨u,S',rfl,hw,g1,g2,g3,g4⟩;refine ⟨u,rfl,?_⟩;have hh':=zdM hh hw g1 g2 g3;have hf':=zd2 (base:=cH) hh hw g1 g2;obtain ⟨m',S2,k1,k2,k3,k4,k5,k6⟩:=zHF (lo:=w.heap.size) hh' hl hct hlt1 hnn g4 hh.goodS (fun j q hq=>hh.blt j q hq);refine hn u m' S2 w' k1 k2 (fun id p h=>(k3 id p h).imp (fun h=>h) (fun h=>⟨h.1,h.2.1⟩)) k4 ⟨hw.os,hw.tape,hw.output,hw.size,fun b hb _=>hw.same b hb,fun b hb=>k5 b (g1 b hb),fun b hb=>hw.same b (hh.slt b hb),?_,?_,fun i q _ h=>k2 i q h,hf'.loops⟩
 ·intro b hb;rcases k6 b hb with h | h
  ·exact (g2 b h).imp (fun h=>h) .inr
  ·exact .inr (.inr h)
 ·rintro b ⟨i,ob,q,q1,q2,q3⟩;rcases k3 i q q2 with h | h
  ·exact .inl ⟨i,ob,q,q1,h,q3⟩
  ·exact .inr (by have:=h.2.2;omega)
theorem zjo (hC:zb0 Λ self) (hH:zaM Λ H) {o:Oper} {q:Op} {v:AV} (hk:zD q≤1) (hq:zmV Λ.P H q o) (hd:∀c,o.op≠.defer c) (hv:zZ Λ.prog Λ.lib self tm hp ct q=some (v,hp',ct')) (hl:HLe hp' Hq) (hct:ct'≤cH)
  (hlt:∀id o,zq hp id=some o→id<ct) (hnn:∀id,ct≤id→id<ct'→m id=none) (ht:zaB Λ m S w tm a.tmps) (hh:zR Λ m S w Hq cH)
  (hn:∀u m' S' w',zR Λ m' S' w' Hq cH→MLe m m'→(∀id p,m' id=some p→m id=some p∨(ct≤id∧id<ct'))→zm Λ.fid m' S' w' v u→Fwd m S w Hq m' S' w' Hq cH→next (a.put o.dst u) w'):
  o.wpIn (WF ro) 0 Λ.P a w next Q:=by
 have hop:∃k,q=zt Λ.P H k o:=by
  rcases hq with h | ⟨c,f,rs,_,_,rfl⟩ | ⟨_,_,_,_,_,_,_,rfl⟩
  ·exact h
  ·simp [zD] at hk
  ·simp [zD] at hk
 obtain ⟨k,hq⟩:=hop;have read:∀{v:AV},zB tm hp q=some v→HLe hp Hq→(∀u m' S' w',zR Λ m' S' w' Hq cH→MLe m m'→(∀id p,m' id=some p→m id=some p∨(ct≤id∧id<ct'))→zm Λ.fid m' S' w' v u→Fwd m S w Hq m' S' w' Hq cH→next (a.put o.dst u) w')→o.wpIn (WF ro) 0 Λ.P a w next Q:=by
  intro v hr hl hn;have hr':=zuF hl hr;rw [hq] at hr';obtain ⟨u,h1,h2⟩:=zqJ hH ht hh hr';exact zmn hd h1 (.inl rfl) (hn u m S w hh MLe.refl (fun _ _ h=> .inl h) h2 Fwd.refl)
 have makes:∀{v:AV} {b:Obj},z5 tm hp ct q=some (v,b)→HLe ((ct,b)::hp) Hq→ct+1≤cH→m ct=none→(∀u m' S' w',zR Λ m' S' w' Hq cH→MLe m m'→(∀id p,m' id=some p→m id=some p∨(ct≤id∧id<ct+1))→zm Λ.fid m' S' w' v u→Fwd m S w Hq m' S' w' Hq cH→next (a.put o.dst u) w')→o.wpIn (WF ro) 0 Λ.P a w next Q:=by
  intro v b hr hl hc hi hn;rw [hq] at hr;have hr':z5 tm Hq ct (zt Λ.P H k o)=some (v,b):=by rw [←hr];exact zdi (fun _ _=>rfl)
  obtain ⟨u,g,p,h1,h2,h3,h4⟩:=zz3 hH ht hh hr';obtain ⟨S',k1,k2,k3⟩:=znj (i:=ct) (g:=g) (p:=p) hh hi hc h2 (fun o' ho'=>by
   obtain ⟨o'',g1,g2⟩:=hl ct b (by rw [zag];simp)
   rw [ho'] at g1;injection g1 with g1
   subst g1
   have:=ziF g2 zQ (h4 _ (zbf hi) zQ).1 h3
   rwa [h2] at this)
  refine zmn hd h1 (.inl rfl) (hn u _ S' _ k1 (zbf hi) (fun id q hq=>?_) (za9 (fun _ _ h=>h) k2 (fun _ _=>rfl) _ _ (h4 _ (zbf hi) zQ).2) (ztx hh hi h2 k2 k3));by_cases hc:id=ct
  ·exact .inr (by omega)
  ·rw [zJ hc] at hq;exact .inl hq
 have hmk:∀{q:Op},(match z5 tm hp ct q with | some (v,b)=>some (v,(ct,b)::hp,ct+1) | none=>(none:Res))=some (v,hp',ct')→∃b,z5 tm hp ct q=some (v,b)∧hp'=(ct,b)::hp∧ct'=ct+1:=by
  intro q h
  cases hm:z5 tm hp ct q with
  | none=>simp [hm] at h
  | some r=>
   obtain ⟨v1,b⟩:=r;simp only [hm,Option.some.injEq,Prod.mk.injEq] at h;obtain ⟨rfl,rfl,rfl⟩:=h;exact ⟨b,rfl,rfl,rfl⟩
 have hrd:∀{q:Op},(match zB tm hp q with | some v=>some (v,hp,ct) | none=>(none:Res))=some (v,hp',ct')→zB tm hp q=some v∧hp'=hp∧ct'=ct:=by
  intro q h
  cases hm:zB tm hp q with
  | none=>simp [hm] at h
  | some r=>
   simp only [hm,Option.some.injEq,Prod.mk.injEq] at h;obtain ⟨rfl,rfl,rfl⟩:=h;exact ⟨rfl,rfl,rfl⟩
 have doMake:(∃b,z5 tm hp ct q=some (v,b)∧hp'=(ct,b)::hp∧ct'=ct+1)→o.wpIn (WF ro) 0 Λ.P a w next Q:=by
  rintro ⟨b,h1,rfl,rfl⟩;exact makes h1 hl hct (hnn ct (Nat.le_refl _) (Nat.lt_succ_self _)) hn
 have doRead:(zB tm hp q=some v∧hp'=hp∧ct'=ct)→o.wpIn (WF ro) 0 Λ.P a w next Q:=by
  rintro ⟨h1,rfl,rfl⟩;exact read h1 hl hn
 cases q with
 | st _ _ _=>simp [zD] at hk
 | mup _ _ _ _=>simp [zD] at hk
 | nxt _=>simp [zD] at hk
 | app _ _ _ _=>simp [zD] at hk
 | cpy _ _ _=>simp [zD] at hk
 | calld _ _ _=>simp [zD] at hk
 | std _ _ _ _=>simp [zD] at hk
 | box s x=>exact doMake (hmk (by simp only [zZ] at hv;exact hv))
 | mksl n s z ps=>exact doMake (hmk (by simp only [zZ] at hv;exact hv))
 | mks s b z x y=>exact doMake (hmk (by simp only [zZ] at hv;exact hv))
 | mkm=>exact doMake (hmk (by simp only [zZ] at hv;exact hv))
 | rng x=>exact doMake (hmk (by simp only [zZ] at hv;exact hv))
 | call md x xs=>
  cases md with
  | heap=>simp [zD] at hk
  | dyn=>simp [zD] at hk
  | pure=>
   simp only [zZ,zaw] at hv
   split at hv
   ·rename_i g first cap hx
    (try simp only at hv)
    cases hz:zT zcJ hp (first++(zaz tm xs++cap)) with
    | none=>simp [hz] at hv
    | some z=>
     obtain ⟨vals,hp1⟩:=z;simp only [hz] at hv
     cases hr:zk Λ.prog Λ.lib self g vals with
     | none=>simp [hr] at hv
     | some r=>
      simp only [hr,Option.some.injEq,Prod.mk.injEq] at hv;obtain ⟨rfl,rfl,rfl⟩:=hv;obtain ⟨c,f,ho,hcf,rfl,rfl⟩:=zi8 hq.symm (by rintro rfl;simp [zp] at hx);exact zoX hC hH ho hcf hx hz hr hl ht hh (fun u S' w' h1 h2 h3=>hn u m S' w' h1 MLe.refl (fun _ _ h=> .inl h) h2 h3)
   ·simp at hv
   ·cases hv
  | own=>
   simp only [zZ,zaw] at hv
   split at hv
   ·rename_i g first cap hx
    (try simp only at hv)
    cases hz:zT zcJ hp (first++(zaz tm xs++cap)) with
    | none=>simp [hz] at hv
    | some z=>
     obtain ⟨vals,hp1⟩:=z;simp only [hz] at hv
     cases hr:zk Λ.prog Λ.lib self g vals with
     | none=>simp [hr] at hv
     | some r=>
      simp only [hr,Option.some.injEq] at hv;obtain ⟨c,f,ho,hcf,rfl,rfl⟩:=zi8 hq.symm (by rintro rfl;simp [zp] at hx);have e1:v=(own hp1 ct r).1:=by rw [hv]
      have e2:hp'=(own hp1 ct r).2.1:=by rw [hv]
      have e3:ct'=(own hp1 ct r).2.2:=by rw [hv]
      subst e1;subst e2;subst e3;exact zu8 hC hH ho hcf hx hz hr hl hct hlt hnn ht hh hn
   ·simp at hv
   ·cases hv
 | _=>exact doRead (hrd (by simp only [zZ] at hv;exact hv))
end
end VE
end
section
namespace VE
open Go
section
variable {Λ:Link} {H:zbH} {m:Mp} {S:Nat→Prop} {w:World} {tm:Env} {a:Act} {hp hp':Hp} {ct ct':Nat} {self:Run} {ro:Option Nat} {next:Act→World→Prop} {Q:Exit→Act→World→Prop}
theorem Fwd.weak {m':Mp} {S':Nat→Prop} {w':World} {b b':Nat} (h:Fwd m S w hp m' S' w' hp' b) (hb:b'≤b):Fwd m S w hp m' S' w' hp' b':=
 ⟨h.os,h.tape,h.output,h.size,h.same,h.sub,h.still,h.new,h.own,fun i q hi hq=>h.old i q (by omega) hq,h.loops⟩
theorem zF2 {hp:Hp} {ct:Nat} {r:AV} (hlt:∀id o,zq hp id=some o→id<ct):∀id o,zq (own hp ct r).2.1 id=some o→id<(own hp ct r).2.2:=by
 have hL:∀(vs:List AV) (hp:Hp) (ct:Nat),(∀id o,zq hp id=some o→id<ct)→∀id o,zq (zdC hp ct vs).2.1 id=some o→id<(zdC hp ct vs).2.2:=by
  intro vs
  induction vs with
  | nil=>intro hp ct h id o ho;simp only [zdC] at ho ⊢;exact h id o ho
  | cons v r ih=>intro hp ct h id o ho;simp only [zdC] at ho ⊢;exact ih _ _ (zhB h) id o ho
 cases r with
 | tup vs=>exact hL vs hp ct hlt
 | _=>exact zhB hlt
theorem zLy {hp:Hp} {ct:Nat} {r:AV} (hlt:∀id o,zq hp id=some o→id<ct):∀id o,zq hp id=some o→zq (own hp ct r).2.1 id=some o:=by
 cases r with
 | tup vs=>exact zi3 hlt
 | _=>exact zmY hlt
theorem zJb {hp:Hp} {ct:Nat} {r:AV}:ct≤(own hp ct r).2.2:=by
 cases r with
 | tup vs=>exact zi2
 | _=>exact zi9
theorem zzC {hp:Hp} {ct:Nat} {r:AV}:∀id o,zq (own hp ct r).2.1 id=some o→id<ct→zq hp id=some o:=by
 have h1:∀(hp:Hp) (ct:Nat) (r:AV) id o,zq (zcv hp ct r).2.1 id=some o→id<ct→zq hp id=some o:=by
  intro hp ct r id o h hc;cases r<;>simp only [zcv] at h<;>try exact h
  rw [zag,if_neg (by omega)] at h;exact h
 have hL:∀(vs:List AV) (hp:Hp) (ct:Nat) id o,zq (zdC hp ct vs).2.1 id=some o→id<ct→zq hp id=some o:=by
  intro vs
  induction vs with
  | nil=>intro hp ct id o ho _;simp only [zdC] at ho;exact ho
  | cons v r ih=>intro hp ct id o ho hc;simp only [zdC] at ho;exact h1 hp ct v id o (ih _ _ id o ho (by have:=zi9 (hp:=hp) (ct:=ct) (r:=v);omega)) hc
 cases r with
 | tup vs=>exact hL vs hp ct
 | _=>exact h1 hp ct _
structure Grows (hp:Hp) (ct:Nat) (hp':Hp) (ct':Nat):Prop where
 le:HLe hp hp'
 cle:ct≤ct'
 lt:∀id o,zq hp' id=some o→id<ct'
 back:∀id o,zq hp' id=some o→id<ct→∃o',zq hp id=some o'
theorem Grows.refl (hlt:∀id o,zq hp id=some o→id<ct):Grows hp ct hp ct:=⟨HLe.refl,Nat.le_refl _,hlt,fun _ o h _=>⟨o,h⟩⟩
theorem Grows.trans {hp'':Hp} {ct'':Nat} (h:Grows hp ct hp' ct') (k:Grows hp' ct' hp'' ct''):Grows hp ct hp'' ct'':=
 ⟨h.le.trans k.le,Nat.le_trans h.cle k.cle,k.lt,fun id o ho hi=>let ⟨o1,h1⟩:=k.back id o ho (Nat.lt_of_lt_of_le hi h.cle);h.back id o1 h1 hi⟩
theorem zlL {vals0 vals:List AV} {hp1:Hp} (hz:zT zcJ hp vals0=some (vals,hp1)) (hlt:∀id o,zq hp id=some o→id<ct):Grows hp ct hp1 ct:=by
 obtain ⟨z1,z2,_⟩:=zgG (Λ:=⟨default,⟨fun _=>none,fun _=>none⟩,fun _=>0,fun _=>none,fun _=>⟨0,fun _=>none,fun _=>[],fun _=>none,fun _=> .pure,fun _=>[]⟩,default⟩) hz;have hb:∀id o,zq hp1 id=some o→∃o',zq hp id=some o':=fun id o h=>by
  have:=z2 id
  rw [h] at this
  cases hq:zq hp id with
  | none=>rw [hq] at this;cases this
  | some q=>exact ⟨q,rfl⟩
 exact ⟨z1,Nat.le_refl _,fun id o h=>let ⟨o',h'⟩:=hb id o h;hlt id o' h',fun id o h _=>hb id o h⟩
theorem zvb {r:AV} (hlt:∀id o,zq hp id=some o→id<ct):Grows hp ct (own hp ct r).2.1 (own hp ct r).2.2:=
 ⟨fun id o h=>⟨o,zLy hlt id o h,oLe.refl o⟩,zJb,zF2 hlt,fun id o h hi=>⟨o,zzC id o h hi⟩⟩
theorem ziy {P:zN} {L:Lib} {q:Op} {v:AV} (hk:zD q≤1) (hv:zZ P L self tm hp ct q=some (v,hp',ct')) (hlt:∀id o,zq hp id=some o→id<ct):Grows hp ct hp' ct':=by
 have hmk:∀{q:Op},(match z5 tm hp ct q with | some (v,b)=>some (v,(ct,b)::hp,ct+1) | none=>(none:Res))=some (v,hp',ct')→Grows hp ct hp' ct':=by
  intro q h
  cases hm:z5 tm hp ct q with
  | none=>simp [hm] at h
  | some r=>
   obtain ⟨v1,b⟩:=r;simp only [hm,Option.some.injEq,Prod.mk.injEq] at h;obtain ⟨rfl,rfl,rfl⟩:=h;refine ⟨fun id o ho=>⟨o,?_,oLe.refl o⟩,by omega,fun id o ho=>?_,fun id o ho hi=>?_⟩
   ·rw [zag,if_neg (by have:=hlt id o ho;omega)];exact ho
   ·rw [zag] at ho;by_cases hc:ct=id
    ·omega
    ·simp only [hc,if_false] at ho;have:=hlt id o ho;omega
   ·rw [zag,if_neg (by omega)] at ho;exact ⟨o,ho⟩
 have hrd:∀{q:Op},(match zB tm hp q with | some v=>some (v,hp,ct) | none=>(none:Res))=some (v,hp',ct')→Grows hp ct hp' ct':=by
  intro q h
  cases hm:zB tm hp q with
  | none=>simp [hm] at h
  | some r=>
   simp only [hm,Option.some.injEq,Prod.mk.injEq] at h;obtain ⟨rfl,rfl,rfl⟩:=h;exact Grows.refl hlt
 cases hq':q with
 | st _ _ _=>simp [hq',zD] at hk
 | mup _ _ _ _=>simp [hq',zD] at hk
 | nxt _=>simp [hq',zD] at hk
 | app _ _ _ _=>simp [hq',zD] at hk
 | cpy _ _ _=>simp [hq',zD] at hk
 | calld _ _ _=>simp [hq',zD] at hk
 | std _ _ _ _=>simp [hq',zD] at hk
 | box s x=>exact hmk (q:=q) (by rw [hq'] at hv ⊢;simp only [zZ] at hv;exact hv)
 | mksl n s z ps=>exact hmk (q:=q) (by rw [hq'] at hv ⊢;simp only [zZ] at hv;exact hv)
 | mks s b z x y=>exact hmk (q:=q) (by rw [hq'] at hv ⊢;simp only [zZ] at hv;exact hv)
 | mkm=>exact hmk (q:=q) (by rw [hq'] at hv ⊢;simp only [zZ] at hv;exact hv)
 | rng x=>exact hmk (q:=q) (by rw [hq'] at hv ⊢;simp only [zZ] at hv;exact hv)
 | call md x xs=>
  subst hq';simp only [zZ,zaw] at hv
  split at hv
  ·rename_i g first cap hx
   cases md with
   | heap=>simp [zD] at hk
   | dyn=>simp [zD] at hk
   | pure=>
    simp only at hv
    cases hz:zT zcJ hp (first++(zaz tm xs++cap)) with
    | none=>simp [hz] at hv
    | some z=>
     obtain ⟨vals,hp1⟩:=z;simp only [hz] at hv
     cases hr:zk P L self g vals with
     | none=>simp [hr] at hv
     | some r=>
      simp only [hr,Option.some.injEq,Prod.mk.injEq] at hv;obtain ⟨rfl,rfl,rfl⟩:=hv;exact zlL hz hlt
   | own=>
    simp only at hv
    cases hz:zT zcJ hp (first++(zaz tm xs++cap)) with
    | none=>simp [hz] at hv
    | some z=>
     obtain ⟨vals,hp1⟩:=z;simp only [hz] at hv
     cases hr:zk P L self g vals with
     | none=>simp [hr] at hv
     | some r=>
      simp only [hr,Option.some.injEq] at hv;have e2:hp'=(own hp1 ct r).2.1:=by rw [hv]
      have e3:ct'=(own hp1 ct r).2.2:=by rw [hv]
      subst e2;subst e3;have g1:=zlL hz hlt;exact g1.trans (zvb g1.lt)
  ·cases md with
   | heap=>simp [zD] at hk
   | dyn=>simp [zD] at hk
   | _=>simp at hv
  ·cases hv
 | _=>exact hrd (q:=q) (by rw [hq'] at hv ⊢;simp only [zZ] at hv;exact hv)
theorem zg3 (hh:zR Λ m S w hp ct) (hg:Grows hp ct hp' ct'):∃S',zR Λ m S' w hp' ct'∧(∀b,S b→S' b)∧(∀b,S' b→S b∨Own m hp b)∧∀base,Fwd m S w hp m S' w hp' base:=by
 have hd:∀id o p,zq hp' id=some o→m id=some p→∃o',zq hp id=some o':=fun id o p h hm=>hg.back id o h (hh.lt id p hm)
 obtain ⟨S',g1,g2,g3⟩:=zrm hh hg.le hd hg.cle hg.lt;refine ⟨S',g1,g2,g3,fun base=>⟨rfl,rfl,rfl,Nat.le_refl _,fun _ _ _=>rfl,g2,fun _ _=>rfl,fun b hb=>(g3 b hb).imp (fun h=>h) .inl,?_,fun _ _ _ h=>h,fun _ r h=>⟨r,h⟩⟩⟩;rintro b ⟨i,o,p,h1,h2,h3⟩;obtain ⟨o',h4⟩:=hd i o p h1 h2;exact .inl ⟨i,o',p,h4,h2,h3⟩
theorem zl0 {b:Bool} {x y:Res} {r:AV×Hp×Nat} (h:(bif b then x else y)=some r):x=some r∨y=some r:=by
 cases b
 ·exact .inr h
 ·exact .inl h
theorem zv3 {q:Op} {v:AV} (hv:zV tm hp ct q=some (v,hp',ct')):ct≤ct':=by
 have fin:∀{x:AV} {y:Hp} {z:Nat},ct≤z→some (x,y,z)=some (v,hp',ct')→ct≤ct':=by
  intro x y z h1 h2;simp only [Option.some.injEq,Prod.mk.injEq] at h2;omega
 cases q<;>simp only [zV,reduceCtorEq] at hv
 all_goals
  repeat' split at hv
  all_goals first
   | (cases hv;done)
   | exact fin (Nat.le_refl _) hv
   | exact fin (Nat.le_succ _) hv
   | (rcases zl0 hv with hv | hv<;>first
     | (cases hv;done)
     | exact fin (Nat.le_refl _) hv
     | exact fin (Nat.le_succ _) hv
     | (rcases zl0 hv with hv | hv<;>first
       | (cases hv;done)
       | exact fin (Nat.le_refl _) hv
       | exact fin (Nat.le_succ _) hv)
     | (split at hv<;>first
       | (cases hv;done)
       | exact fin (Nat.le_refl _) hv
       | exact fin (Nat.le_succ _) hv))
theorem zkU {P:Program} {H:zbH} {o:Oper} {rs:List (Nat×Bool×Nat)} {x:X} {xs:List X} (hq:zmV P H (.calld rs x xs) o):∃c f,o.op= .call c∧c.callee= .value f∧x=opX H f∧xs=zdB H c.args.toList:=by
 rcases hq with ⟨k,hk⟩ | ⟨c,f,rs',h1,h2,h3⟩ | ⟨_,_,_,_,_,_,_,h3⟩
 ·cases ho:o.op with
  | call c=>
   obtain ⟨callee,args,ts⟩:=c;simp only [zt,ho] at hk
   split at hk
   ·rename_i f;cases hm:H.mode k<;>simp only [hm,Op.calld.injEq,reduceCtorEq] at hk
    exact ⟨_,f,rfl,rfl,hk.2.1,hk.2.2⟩
   ·repeat' split at hk
    all_goals first
     | (cases hk;done)
     | (simp only [bad] at hk;cases hk;done)
     | (revert hk;generalize Nat.beq _ _=bb;intro hk;cases bb<;>simp [bad] at hk)
   ·simp only [bad] at hk;cases hk
  | binOp op t x' y ty=>
   cases op<;>simp only [zt,ho,zeu,zdI] at hk
   case eql=>
         repeat' split at hk
         all_goals first
          | (cases hk;done)
          | (simp only [bad] at hk;cases hk;done)
          | (cases hb':(P.stoodInHeld t||P.eqGuardType P.depth t)<;>rw [hb'] at hk<;>simp [bad] at hk)
   case neq=>
         repeat' split at hk
         all_goals first
          | (cases hk;done)
          | (simp only [bad] at hk;cases hk;done)
          | (cases hb':(P.stoodInHeld t||P.eqGuardType P.depth t)<;>rw [hb'] at hk<;>simp [bad] at hk)
   all_goals cases hk
  | buildSlice t n parts=>
   simp only [zt,ho] at hk
   repeat' split at hk
   all_goals first
    | (cases hk;done)
    | (simp only [bad] at hk;cases hk;done)
    | (revert hk;generalize Nat.ble _ _=bb;intro hk;cases bb<;>simp [bad] at hk)
  | makeMap t r=>
   cases r<;>simp only [zt,ho] at hk
   ·repeat' split at hk
    all_goals first
     | (cases hk;done)
     | (simp only [bad] at hk;cases hk;done)
   ·simp only [bad] at hk;cases hk
  | next x' b=>
   cases b<;>simp only [zt,ho] at hk
   ·simp only [bad] at hk;cases hk
   ·cases hk
  | _=>
   simp only [zt,ho] at hk
   (repeat' split at hk)
   all_goals first
    | contradiction
    | (cases hk;done)
    | (simp only [bad] at hk;cases hk;done)
 ·simp only [Op.calld.injEq] at h3;exact ⟨c,f,h1,h2,h3.2.1,h3.2.2⟩
 ·cases h3
theorem zpb {P:Program} {H:zbH} {o:Oper} {k:Nat} {rs:List (Nat×Bool×Nat)} {sz:Nat} {x y:X} (hk:Op.std rs sz x y=zt P H k o):False:=by
 cases ho:o.op with
 | call c=>
  obtain ⟨callee,args,ts⟩:=c;simp only [zt,ho] at hk
  split at hk
  ·rename_i f;cases hm:H.mode k<;>simp only [hm,reduceCtorEq] at hk
  ·repeat' split at hk
   all_goals first
    | (cases hk;done)
    | (simp only [bad] at hk;cases hk;done)
    | (revert hk;generalize Nat.beq _ _=bb;intro hk;cases bb<;>simp [bad] at hk)
  ·simp only [bad] at hk;cases hk
 | binOp op t x' y ty=>
  cases op<;>simp only [zt,ho,zeu,zdI] at hk
  case eql=>
        repeat' split at hk
        all_goals first
         | (cases hk;done)
         | (simp only [bad] at hk;cases hk;done)
         | (cases hb':(P.stoodInHeld t||P.eqGuardType P.depth t)<;>rw [hb'] at hk<;>simp [bad] at hk)
  case neq=>
        repeat' split at hk
        all_goals first
         | (cases hk;done)
         | (simp only [bad] at hk;cases hk;done)
         | (cases hb':(P.stoodInHeld t||P.eqGuardType P.depth t)<;>rw [hb'] at hk<;>simp [bad] at hk)
  all_goals cases hk
 | buildSlice t n parts=>
  simp only [zt,ho] at hk
  repeat' split at hk
  all_goals first
   | (cases hk;done)
   | (simp only [bad] at hk;cases hk;done)
   | (revert hk;generalize Nat.ble _ _=bb;intro hk;cases bb<;>simp [bad] at hk)
 | makeMap t r=>
  cases r<;>simp only [zt,ho] at hk
  ·repeat' split at hk
   all_goals first
    | (cases hk;done)
    | (simp only [bad] at hk;cases hk;done)
  ·simp only [bad] at hk;cases hk
 | next x' b=>
  cases b<;>simp only [zt,ho] at hk
  ·simp only [bad] at hk;cases hk
  ·cases hk
 | _=>
  simp only [zt,ho] at hk
  (repeat' split at hk)
  all_goals first
   | contradiction
   | (cases hk;done)
   | (simp only [bad] at hk;cases hk;done)
theorem zOs {P:Program} {H:zbH} {o:Oper} {sz:Nat} {x y:X} (hq:zmV P H (.st sz x y) o):∃t x' y',o.op= .store t x' y'∧szT P t=some sz∧x=opX H x'∧y=opX H y':=by
 obtain ⟨k,hk⟩:∃k,Op.st sz x y=zt P H k o:=by
  rcases hq with h | ⟨_,_,_,_,_,h⟩ | ⟨_,_,_,_,_,_,_,h⟩
  ·exact h
  ·cases h
  ·cases h
 cases ho:o.op with
 | call c=>
  obtain ⟨callee,args,ts⟩:=c;simp only [zt,ho] at hk
  split at hk
  ·rename_i f;cases hm:H.mode k<;>simp only [hm,reduceCtorEq] at hk
  ·repeat' split at hk
   all_goals first
    | (cases hk;done)
    | (simp only [bad] at hk;cases hk;done)
    | (revert hk;generalize Nat.beq _ _=bb;intro hk;cases bb<;>simp [bad] at hk)
  ·simp only [bad] at hk;cases hk
 | binOp op t x' y ty=>
  cases op<;>simp only [zt,ho,zeu,zdI] at hk
  case eql=>
        repeat' split at hk
        all_goals first
         | (cases hk;done)
         | (simp only [bad] at hk;cases hk;done)
         | (cases hb':(P.stoodInHeld t||P.eqGuardType P.depth t)<;>rw [hb'] at hk<;>simp [bad] at hk)
  case neq=>
        repeat' split at hk
        all_goals first
         | (cases hk;done)
         | (simp only [bad] at hk;cases hk;done)
         | (cases hb':(P.stoodInHeld t||P.eqGuardType P.depth t)<;>rw [hb'] at hk<;>simp [bad] at hk)
  all_goals cases hk
 | buildSlice t n parts=>
  simp only [zt,ho] at hk
  repeat' split at hk
  all_goals first
   | (cases hk;done)
   | (simp only [bad] at hk;cases hk;done)
   | (revert hk;generalize Nat.ble _ _=bb;intro hk;cases bb<;>simp [bad] at hk)
 | makeMap t r=>
  cases r<;>simp only [zt,ho] at hk
  ·repeat' split at hk
   all_goals first
    | (cases hk;done)
    | (simp only [bad] at hk;cases hk;done)
  ·simp only [bad] at hk;cases hk
 | next x' b=>
  cases b<;>simp only [zt,ho] at hk
  ·simp only [bad] at hk;cases hk
  ·cases hk
 | store t x' y'=>
  simp only [zt,ho] at hk
  split at hk
  ·rename_i s hs;simp only [Op.st.injEq] at hk;obtain ⟨rfl,rfl,rfl⟩:=hk;exact ⟨t,x',y',rfl,hs,rfl,rfl⟩
  ·simp only [bad] at hk;cases hk
 | _=>
  simp only [zt,ho] at hk
  (repeat' split at hk)
  all_goals first
   | contradiction
   | (cases hk;done)
   | (simp only [bad] at hk;cases hk;done)
theorem zvJ {P:Program} {H:zbH} {o:Oper} {rs:List (Nat×Bool×Nat)} {sz:Nat} {x y:X} (hq:zmV P H (.std rs sz x y) o):∃t x' y',o.op= .store t x' y'∧szT P t=some sz∧x=opX H x'∧y=opX H y':=by
 rcases hq with ⟨k,hk⟩ | ⟨_,_,_,_,_,h3⟩ | ⟨t,x',y',sz',rs',h1,h2,h3⟩
 ·exact (zpb hk).elim
 ·cases h3
 ·simp only [Op.std.injEq] at h3;obtain ⟨_,rfl,rfl,rfl⟩:=h3;exact ⟨t,x',y',h1,h2,rfl,rfl⟩
theorem zpS {P:Program} {H:zbH} {q:Op} {o:Oper} (hq:zmV P H q o):zmV P H (zcy q) o:=by
 cases h:q with
 | calld rs f xs=>
  subst h;obtain ⟨c,f',g1,g2,g3,g4⟩:=zkU hq;exact .inr (.inl ⟨c,f',[],g1,g2,by rw [g3,g4];rfl⟩)
 | std rs sz x y=>
  subst h;obtain ⟨t,x',y',g1,g2,g3,g4⟩:=zvJ hq;refine .inl ⟨0,?_⟩;simp only [zcy,zt,g1,g2,g3,g4]
 | _=>subst h;exact hq
theorem znr (hC:zb0 Λ self) (hH:zaM Λ H) {o:Oper} {q:Op} {v:AV} (hq:zmV Λ.P H q o) (hd:∀c,o.op≠.defer c) (hv:zZ Λ.prog Λ.lib self tm hp ct q=some (v,hp',ct'))
  (ht:zaB Λ m S w tm a.tmps) (hh:zR Λ m S w hp ct)
  (hn:∀u m' S' w',zR Λ m' S' w' hp' ct'→ct≤ct'→zm Λ.fid m' S' w' v u→Fwd m S w hp m' S' w' hp' ct→next (a.put o.dst u) w'):o.wpIn (WF ro) 0 Λ.P a w next Q:=by
 have quiet:zD q≤1→o.wpIn (WF ro) 0 Λ.P a w next Q:=by
  intro hk;have hg:=ziy hk hv hh.hlt;obtain ⟨S1,g1,g2,g3,g4⟩:=zg3 hh hg;refine zjo hC hH hk hq hd hv HLe.refl (Nat.le_refl _) hh.hlt (fun id h1 h2=>?_) (zcq (fun _ _ h=>h) g2 (fun _ _=>rfl) ht) g1 (fun u m' S' w' k1 k2 k3 k4 k5=>hn u m' S' w' k1 hg.cle k4 ((g4 ct).trans (k5.weak hg.cle)))
  cases hm:m id with
  | none=>rfl
  | some p=>have:=hh.lt id p hm;omega
 have write1:∀{q':Op},(∃k,q'=zt Λ.P H k o)→zV tm hp ct q'=some (v,hp',ct')→o.wpIn (WF ro) 0 Λ.P a w next Q:=by
  intro q' hop hw;obtain ⟨k,rfl⟩:=hop;obtain ⟨n,u,w',m',S',h1,h2,h3,h4,h5,h6⟩:=zBy hH ht hh hw;exact zmn hd h1 h2 (hn u m' S' w' h3 (zv3 hw) h4 h6)
 have write:zV tm hp ct q=some (v,hp',ct')→o.wpIn (WF ro) 0 Λ.P a w next Q:=by
  intro hw;refine write1 ?_ hw;rcases hq with h | ⟨c,f,rs,_,_,rfl⟩ | ⟨_,_,_,_,_,_,_,rfl⟩
  ·exact h
  ·simp [zV] at hw
  ·simp [zV] at hw
 have heap:∀{c:Call} {f:Operand} {g:Nat} {first cap:List AV},o.op= .call c→c.callee= .value f→zp tm (opX H f)= .fn (.f g) first cap→
   zbj Λ.prog Λ.lib self hp ct g (first++(zaz tm (zdB H c.args.toList)++cap))=some (v,hp',ct')→o.wpIn (WF ro) 0 Λ.P a w next Q:=by
  intro c f g first cap ho hcf hx he;obtain ⟨fi,ca,h1,h2⟩:=zg4 hH ht (args:=c.args) hx;refine ze4 ho hcf h1 (hC.heap _ _ _ _ _ _ _ he m S w _ hh h2) ?_;rintro e w' ⟨u,m',S',rfl,k1,k2,k3,k4⟩;exact ⟨u,rfl,hn u m' S' w' k1 k2 k3 k4⟩
 have round:∀{c:Call} {f:Operand} {l:Nat} {x y:List AV},o.op= .call c→c.callee= .value f→zp tm (opX H f)= .fn (.y l) x y→
   zb3 self hp ct l (zaz tm (zdB H c.args.toList))=some (v,hp',ct')→o.wpIn (WF ro) 0 Λ.P a w next Q:=by
  intro c f l x y ho hcf hx he;have rf:=zad hH ht f;rw [hx] at rf;simp only [zm] at rf;obtain ⟨p,hm,hf⟩:=rf;have hargs:=zgK hH ht c.args.toList;obtain ⟨g,tmps,as_,body,h1,h2⟩:=hC.round _ _ _ _ _ _ _ he m S w (c.args.map a.eval) p hh hm (by simpa using hargs);refine zx4 ho hcf hf h1 h2 ?_;rintro e w' ⟨u,m',S',rfl,k1,k2,k3,k4⟩;exact ⟨u,rfl,hn u m' S' w' k1 k2 k3 k4⟩
 have dyn:∀{c:Call} {f:Operand},o.op= .call c→c.callee= .value f→zaw Λ.prog Λ.lib self hp ct .dyn (zp tm (opX H f)) (zaz tm (zdB H c.args.toList))=some (v,hp',ct')→o.wpIn (WF ro) 0 Λ.P a w next Q:=by
  intro c f ho hcf he;unfold zaw at he
  split at he
  ·rename_i g first cap hx
   (try simp only at he)
   cases hp0:zn (first++(zaz tm (zdB H c.args.toList)++cap)) with
   | true=>
    rw [hp0] at he;simp only [cond_true] at he
    cases hr:zk Λ.prog Λ.lib self g (first++(zaz tm (zdB H c.args.toList)++cap)) with
    | none=>simp [hr] at he
    | some r=>
     simp only [hr,Option.some.injEq,Prod.mk.injEq] at he;obtain ⟨rfl,rfl,rfl⟩:=he;obtain ⟨fi,ca,h1,h2⟩:=zg4 hH ht (args:=c.args) hx;refine ze4 ho hcf h1 (hC.pure g _ r hr w S _ (zmO hh) hh.slt (zb4 (fun _ h=>h) (fun _ _=>rfl) _ _ hp0 h2) hp0) ?_;rintro e w' ⟨u,S',rfl,hw,g1,g2,g3,g4⟩;obtain ⟨S2,k1,k2,k3⟩:=zlH g4 m;have hS:∀b,S b→S2 b:=fun b hb=>k1 b (g1 b hb)
     have hS':∀b,S2 b→S b∨w.heap.size≤b:=fun b hb=>(k2 b hb).elim (g2 b) (fun h=> .inr h.1)
     have hl:∀b,S2 b→b<w'.heap.size:=fun b hb=>(k2 b hb).elim (g3 b) (fun h=>h.2)
     exact ⟨u,rfl,hn u m S2 w' (zdM hh hw hS hS' hl) (Nat.le_refl _) k3 (zd2 hh hw hS hS')⟩
   | false=>
    rw [hp0] at he;simp only [cond_false] at he;exact heap ho hcf hx he
  ·rename_i l x y hx;exact round ho hcf hx he
  ·cases he
 cases hq':q with
 | calld rs x xs=>
  subst hq';simp only [zZ] at hv;have key:=zkU hq;obtain ⟨c,f,ho,hcf,rfl,rfl⟩:=key
  cases hc:zaw Λ.prog Λ.lib self hp ct .dyn (zp tm (opX H f)) (zaz tm (zdB H c.args.toList)) with
  | none=>simp [hc] at hv
  | some r=>
   obtain ⟨v1,hp1,ct1⟩:=r;simp only [hc] at hv
   cases hs:zec tm hp hp1 rs with
   | false=>rw [hs] at hv;cases hv
   | true=>
    rw [hs] at hv;simp only [cond_true,Option.some.injEq,Prod.mk.injEq] at hv;obtain ⟨rfl,rfl,rfl⟩:=hv;exact dyn ho hcf hc
 | call md x xs=>
  subst hq';have hop:∃k,Op.call md x xs=zt Λ.P H k o:=by
   rcases hq with h | ⟨c,f,rs,_,_,h⟩ | ⟨_,_,_,_,_,_,_,h⟩
   ·exact h
   ·cases h
   ·cases h
  obtain ⟨k,hk⟩:=hop
  cases md with
  | pure=>exact quiet (by simp [zD])
  | own=>exact quiet (by simp [zD])
  | heap=>
   simp only [zZ] at hv;obtain ⟨c,f,ho,hcf,rfl,rfl⟩:=zi8 hk.symm (by rintro rfl;simp [zp,zaw] at hv);unfold zaw at hv
   split at hv
   ·rename_i g first cap hx;exact heap ho hcf hx hv
   ·rename_i l x y hx;exact round ho hcf hx hv
   ·cases hv
  | dyn=>
   simp only [zZ] at hv;obtain ⟨c,f,ho,hcf,rfl,rfl⟩:=zi8 hk.symm (by rintro rfl;simp [zp,zaw] at hv);exact dyn ho hcf hv
 | std rs s x y=>
  subst hq';obtain ⟨t,x',y',g1,g2,g3,g4⟩:=zvJ hq;simp only [zZ] at hv
  split at hv
  ·rename_i id off hx
   cases hf:zc4 tm id rs with
   | false=>rw [hf] at hv;cases hv
   | true=>
    rw [hf] at hv;simp only [cond_true] at hv
    exact write1 (q':= .st s x y) ⟨0,by simp only [zt,g1,g2,g3,g4]⟩ hv
  ·cases hv
 | st s x y=>subst hq';exact write (by simpa only [zZ] using hv)
 | mup kk x y z=>subst hq';exact write (by simpa only [zZ] using hv)
 | nxt x=>subst hq';exact write (by simpa only [zZ] using hv)
 | app s b x y=>subst hq';exact write (by simpa only [zZ] using hv)
 | cpy s x y=>subst hq';exact write (by simpa only [zZ] using hv)
 | sli k x lo hi=>subst hq';exact quiet (by cases k<;>simp [zD])
 | len k x=>subst hq';exact quiet (by rcases k with _ | _ | k<;>simp [zD])
 | _=>subst hq';exact quiet (by simp [zD])
end
end VE
end
