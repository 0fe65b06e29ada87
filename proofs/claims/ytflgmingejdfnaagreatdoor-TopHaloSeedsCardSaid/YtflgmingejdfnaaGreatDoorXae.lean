import Derived.RangeFuncLeaves
import Derived.Test.YtflgmingejdfnaaGreatDoorXad
set_option linter.all false
set_option maxRecDepth 100000
open Array renaming getElem?_eq_some_iff→y8
open Bool renaming and_eq_true→yf
open Go renaming Call→tq,Ending→vX,Exit→vT,FuncId→uM,Oper→yL,Operand→xh,Program→yM,RoundIn→tI,Value→ye,World→yg
open Nat renaming beq→yq,blt→yB,eq_of_beq_eq_true→yk,le_refl→yC,le_trans→xz,lt_of_lt_of_le→yX
open Option.some renaming injEq→yb
open Prod.mk renaming injEq→yi
namespace VE
section
open Go
structure Calm (w w':yg):Prop where
 os:w'.os=w.os
 tape:w'.tape=w.tape
 output:w'.output=w.output
 size:w.heap.size<=w'.heap.size
 same:∀b,b<w.heap.size->w'.heap[b]? =w.heap[b]?
def Calm.refl {w:yg}:Calm w w:=⟨rfl,rfl,rfl,yC _,fun _ _=>rfl⟩
def Calm.trans {w w' rU:yg} (h:Calm w w') (k:Calm w' rU):Calm w rU:=
 ⟨k.os.trans h.os,k.tape.trans h.tape,k.output.trans h.output,xz h.size k.size,fun b hb=>(k.same b (yX hb h.size)).trans (h.same b hb)⟩
def o9 (O:aZ) (w:yg):Prop:=(∀b,b<O.w0.heap.size->w.heap[b]? =O.w0.heap[b]?)/\O.w0.heap.size<=w.heap.size
def dD:Mp:=fun _=>none
def fb (ae:Nat->Nat) (S:Nat->Prop) (w:yg) (lo:Nat):AV->ye->List Nat->Prop
 | .bS ex sz n cs,u,bs=>∃b o c arr t,bs=[b]/\u= .slice (some ⟨b,o,none⟩) n c/\n<=c/\(ex=true->c=n)/\lo<=b/\¬S b/\w.heap[b]? =some (.cells arr t (0,0))/\cs.length=n*sz/\
   o+c*sz<=arr.size/\bt ae dD S w cs b o/\ax cs=true
 | r,u,bs=>bs=[]/\af ae dD S w r u/\aG r=true
def ia (ae:Nat->Nat) (S:Nat->Prop) (w:yg) (lo:Nat):List AV->List ye->List Nat->Prop
 | [],us,bs=>us=[]/\bs=[]
 | v::r,us,bs=>∃u t b1 b2,us=u::t/\bs=b1++b2/\fb ae S w lo v u b1/\ia ae S w lo r t b2
def jJ (ae:Nat->Nat) (S:Nat->Prop) (w:yg) (lo:Nat) (r:AV) (u:ye):Prop:=
 match r with
 | .ay vs=>∃(us:Array ye) (bs:List Nat),u= .tuple us/\ia ae S w lo vs us.toList bs/\bs.Nodup
 | r=>∃bs,fb ae S w lo r u bs
def oS (P:yM) (f:uM) (args:Array ye) (w:yg) (R:vX->yg->Prop):Prop:=
 ((callFunc f args).run P w= .ok (.enter f args) w/\CallsIn Fence.wide 0 P f args w R)\/∃u w',(callFunc f args).run P w= .ok (.value u) w'/\R (.returned u) w'
def NS (O:aZ) (w:yg) (S:Nat->Prop) (r:AV) (e:vX) (w':yg):Prop:=
 ∃u S',e= .returned u/\Calm w w'/\(∀b,S b->S' b)/\(∀b,S' b->S b\/w.heap.size<=b)/\(∀b,S' b->b<w'.heap.size)/\jJ O.ae S' w' w.heap.size r u
def dO (O:aZ) (n:Nat) (vals:List AV) (r:AV):Prop:=
 ∀(w:yg) (S:Nat->Prop) (args:Array ye),o9 O w->(∀b,S b->b<w.heap.size)->ak O.ae dD S w vals args.toList->ax vals=true->
  oS O.P (O.ae n) args w (NS O w S r)
def oN (O:aZ) (m:Mp) (S:Nat->Prop) (w:yg) (hp:Hp) (ct:Nat) (v:AV) (ai:Hp) (aK:Nat) (e:vX) (w':yg):Prop:=
 ∃u m' S',e= .returned u/\aH O m' S' w' ai aK/\ct<=aK/\af O.ae m' S' w' v u/\bH m S w hp m' S' w' ai ct
def rk (O:aZ) (n:Nat) (hp:Hp) (ct:Nat) (vals:List AV) (v:AV) (ai:Hp) (aK:Nat):Prop:=
 ∀(m:Mp) (S:Nat->Prop) (w:yg) (args:Array ye),aH O m S w hp ct->ak O.ae m S w vals args.toList->oS O.P (O.ae n) args w (oN O m S w hp ct v ai aK)
section
variable {ae:Nat->Nat} {m m':Mp} {S S':Nat->Prop} {w w':yg}
mutual
def lz (hS:∀b,S b->S' b) (hw:eh S w w'):∀(v:AV) (u:ye),aG v=true->af ae m S w v u->af ae m' S' w' v u
 | .int _ _,_,_,h | .bool _,_,_,h | .cu _ _,_,_,h | .str _,_,_,h | .gM,_,_,h | .ab,_,_,h | .eZ,_,_,h | .gm,_,_,h | .undef,_,_,h=>by
  simpa only [af] using h
 | .ptr id o,u,hp,h=>by simp [aG] at hp
 | .aO cs,u,hp,h=>by
  simp only [af] at h ⊢;obtain ⟨b,o,h1,h2,h3,h4⟩:=h;refine ⟨b,o,h1,h2.imp id (hS b),h3,?_⟩;rcases h2 with rfl | h2
  ·simp only [bt]
  ·exact G8 hS hw cs b o h3 h2 h4
 | .aC ex n cs,u,hp,h=>by
  simp only [af] at h ⊢;rcases h with ⟨b,o,c,h1,h2,h3,h4,h5,h6⟩ | h
  ·refine .inl ⟨b,o,c,h1,h2,h3,h4.imp id (hS b),h5,?_⟩;rcases h4 with rfl | h4
   ·simp only [bt]
   ·exact G8 hS hw cs b o h5 h4 h6
  ·exact .inr h
 | .bS _ _ _ _,u,hp,h=>by simp [aG] at hp
 | .aq id o n,u,hp,h=>by simp [aG] at hp
 | .fn (.f g) first cap,u,hp,h=>by
  simp only [af] at h ⊢;simp only [aG,yf] at hp;obtain ⟨fi,ca,h1,h2,h3⟩:=h;exact ⟨fi,ca,h1,nh hS hw first _ hp.1 h2,nh hS hw cap _ hp.2 h3⟩
 | .fn (.y l) _ _,u,hp,h=>by simp [aG] at hp
 | .map id,u,hp,h=>by simp [aG] at hp
 | .fS ks vs,u,hp,h=>by
  simp only [af] at h ⊢;obtain ⟨b,es,clock,h1,h2,h3,h4,h5,h6,h7⟩:=h;exact ⟨b,es,clock,h1,hS b h2,h3,h4,(hw b h2).trans h5,nh hS hw ks _ h3 h6,nh hS hw vs _ h4 h7⟩
 | .it id,u,hp,h=>by simp [aG] at hp
 | .agg cs,u,hp,h=>by
  simp only [af] at h ⊢;simp only [aG] at hp;obtain ⟨xs,h1,h2⟩:=h;exact ⟨xs,h1,nh hS hw cs _ hp h2⟩
 | .ay cs,u,hp,h=>by
  simp only [af] at h ⊢;simp only [aG] at hp;obtain ⟨xs,h1,h2⟩:=h;exact ⟨xs,h1,nh hS hw cs _ hp h2⟩
def nh (hS:∀b,S b->S' b) (hw:eh S w w'):∀(vs:List AV) (us:List ye),ax vs=true->ak ae m S w vs us->ak ae m' S' w' vs us
 | [],us,_,h=>by simpa only [ak] using h
 | v::r,us,hp,h=>by
  simp only [ak] at h ⊢;simp only [ax,yf] at hp;obtain ⟨u,t,h1,h2,h3⟩:=h;exact ⟨u,t,h1,lz hS hw v u hp.1 h2,nh hS hw r t hp.2 h3⟩
def G8 (hS:∀b,S b->S' b) (hw:eh S w w'):∀(cs:List AV) (b o:Nat),ax cs=true->S b->bt ae m S w cs b o->bt ae m' S' w' cs b o
 | [],_,_,_,_,_=>by simp only [bt]
 | c::cs,b,o,hp,hb,h=>by
  simp only [bt] at h ⊢;simp only [ax,yf] at hp;obtain ⟨⟨u,h1,h2⟩,h3⟩:=h;exact ⟨⟨u,(Dk (hw b hb)).trans h1,lz hS hw c u hp.1 h2⟩,G8 hS hw cs b (o+1) hp.2 hb h3⟩
end
def qj (hS:∀b,S b->S' b) (hw:eh S w w'):∀(cs:List AV) (b o:Nat),ax cs=true->w'.heap[b]? =w.heap[b]? ->bt ae m S w cs b o->bt ae m' S' w' cs b o
 | [],_,_,_,_,_=>by simp only [bt]
 | c::cs,b,o,hp,hb,h=>by
  simp only [ax,yf] at hp;obtain ⟨⟨u,h1,h2⟩,h3⟩:=h;exact ⟨⟨u,(Dk hb).trans h1,lz hS hw c u hp.1 h2⟩,qj hS hw cs b (o+1) hp.2 hb h3⟩
end
section
variable {O:aZ} {m:Mp} {S S':Nat->Prop} {w w':yg} {hp:Hp} {ct:Nat}
def YD (hh:aH O m S w hp ct) (hw:Calm w w'):eh S w w':=fun b hb=>hw.same b (hh.slt b hb)
def AQ (hh:aH O m S w hp ct) (hw:Calm w w') (hS:∀b,S b->S' b) (hn:∀b,S' b->S b\/w.heap.size<=b) (hl:∀b,S' b->b<w'.heap.size):aH O m S' w' hp ct where
 obj id o p ho hm:=ml (fun _ _ h=>h) hS (YD hh hw) (fun q hq=>hw.same _ (hh.blt id q hq)) (fun q hq hs=>(hn _ hs).resolve_right (by have:=hh.blt id q hq;omega)) (hh.obj id o p ho hm)
 lt:=hh.lt
 inj:=hh.inj
 slt:=hl
 blt id p h:=yX (hh.blt id p h) hw.size
 low:=hh.low
 iB b hb:=(hw.same b (yX hb hh.eG)).trans (hh.iB b hb)
 eG:=xz hh.eG hw.size
 aU:=hh.aU
def AZ {base:Nat} (hh:aH O m S w hp ct) (hw:Calm w w') (hS:∀b,S b->S' b) (hn:∀b,S' b->S b\/w.heap.size<=b):bH m S w hp m S' w' hp base where
 os:=hw.os
 tape:=hw.tape
 output:=hw.output
 size:=hw.size
 same b hb _:=hw.same b hb
 sub:=hS
 still b hb:=hw.same b (hh.slt b hb)
 new b hb:=(hn b hb).imp id .inr
 own b hb:= .inl hb
 old _ _ _ h:=h
 loops b r hb:=⟨r,(hw.same b (y8.1 hb).1).trans hb⟩
def aak {i:Nat} (hh:aH O m S w hp ct) (hi:m i=none) (Cz:i<ct) {p:Pl} (hb:p.b<w.heap.size) (b5:O.w0.heap.size<=p.b) (J7:¬S p.b) (jS:∀j q,m j=some q->q.b≠p.b)
  (hf:∀o,aj hp i=some o->(dQ O (dS m i p) S w i o/\¬fK o)\/(fK o/\dQ O (dS m i p) (fun b=>S b\/b=p.b) w i o)):
  ∃S',aH O (dS m i p) S' w hp ct/\(∀b,S b->S' b)/\∀b,S' b->S b\/b=p.b:=by
 have aQ:eh S w w:=fun _ _=>rfl
 have gen:∀S':Nat->Prop,(∀b,S b->S' b)->(∀b,S' b->S b\/b=p.b)->(∀o,aj hp i=some o->dQ O (dS m i p) S' w i o)->aH O (dS m i p) S' w hp ct:=by
  intro S' h1 h2 h3;refine ⟨?_,?_,?_,?_,?_,?_,hh.iB,hh.eG,hh.aU⟩
  ·intro id o q ho hm;by_cases hc:id=i
   ·grind
   ·rw [da hc] at hm;refine ml (gX hi) h1 aQ (fun _ _=>rfl) (fun q' bI hs=>?_) (hh.obj id o q ho hm)
    grind
  ·intro id q hm;by_cases hc:id=i
   ·grind
   ·rw [da hc] at hm;exact hh.lt id q hm
  ·intro a b oa ob pa pb ha dn rX nO e;by_cases ca:a=i
   ·by_cases cb:b=i
    ·grind
    ·subst ca;rw [dc] at rX;rw [da cb] at nO
     grind
   ·rw [da ca] at rX;by_cases cb:b=i
    ·subst cb;rw [dc] at nO
     grind
    ·rw [da cb] at nO;exact hh.inj a b oa ob pa pb ha dn rX nO e
  ·intro b hs;rcases h2 b hs with h | h
   ·exact hh.slt b h
   ·grind
  ·intro id q hm;by_cases hc:id=i
   ·subst hc;rw [dc] at hm
    grind
   ·rw [da hc] at hm;exact hh.blt id q hm
  ·intro id q hm;by_cases hc:id=i
   ·subst hc;rw [dc] at hm
    grind
   ·rw [da hc] at hm;exact hh.low id q hm
 cases ho:aj hp i with
 | none=>exact ⟨S,gen S (fun _ h=>h) (fun _ h=> .inl h) (fun o h=>by rw [ho] at h;cases h),fun _ h=>h,fun _ h=> .inl h⟩
 | some o=>
  rcases hf o ho with ⟨h1,_⟩ | ⟨_,h1⟩
  ·exact ⟨S,gen S (fun _ h=>h) (fun _ h=> .inl h) (fun o' h=>by rw [ho] at h;injection h with h;subst h;exact h1),fun _ h=>h,fun _ h=> .inl h⟩
  ·exact ⟨_,gen (fun b=>S b\/b=p.b) (fun _ h=> .inl h) (fun _ h=>h) (fun o' h=>by rw [ho] at h;injection h with h;subst h;exact h1),fun _ h=> .inl h,fun _ h=>h⟩
def MU {ae:Nat->Nat} {lo:Nat} {r:AV} {u:ye} {bs:List Nat} (h:fb ae S w lo r u bs) (m:Mp) (hS:∀b,S b->S' b) (hbs:∀b,b∈bs->S' b):af ae m S' w (bg r) u:=by
 have aQ:eh S w w:=fun _ _=>rfl
 cases r with
 | bS ex sz n cs=>
  obtain ⟨b,o,c,arr,t,rfl,rfl,h1,h2,h3,h4,h5,h6,h7,h8,h9⟩:=h;exact .inl ⟨b,o,c,rfl,h1,h2,.inr (hbs b (by simp)),h9,qj hS aQ cs b o h9 rfl h8⟩
 | _=>simp only [fb] at h;exact lz hS aQ _ _ h.2.2 h.2.1
def MV {ae:Nat->Nat} {lo:Nat} (m:Mp) (hS:∀b,S b->S' b):∀{vs:List AV} {us:List ye} {bs:List Nat},ia ae S w lo vs us bs->(∀b,b∈bs->S' b)->ak ae m S' w (q9 vs) us
 | [],us,bs,h,_=>by simp only [ia] at h;exact h.1
 | v::r,us,bs,h,hb=>by
  obtain ⟨u,t,b1,b2,rfl,rfl,h1,h2⟩:=h;exact ⟨u,t,rfl,MU h1 m hS (fun b dn=>hb b (by simp [dn])),MV m hS h2 (fun b dn=>hb b (by simp [dn]))⟩
def Iv {ae:Nat->Nat} {lo:Nat} {r:AV} {u:ye} {bs:List Nat} (h:fb ae S w lo r u bs):∀b,b∈bs->lo<=b/\b<w.heap.size:=by
 intro b hb
 cases r with
 | bS ex sz n cs=>
  simp only [fb] at h
  grind
 | _=>simp only [fb] at h;rw [h.1] at hb;cases hb
def Iw {ae:Nat->Nat} {lo:Nat}:∀{vs:List AV} {us:List ye} {bs:List Nat},ia ae S w lo vs us bs->∀b,b∈bs->lo<=b/\b<w.heap.size
 | [],us,bs,h,b,hb=>by simp only [ia] at h;rw [h.2] at hb;cases hb
 | v::r,us,bs,h,b,hb=>by
  obtain ⟨u,t,b1,b2,rfl,rfl,h1,h2⟩:=h;rcases List.mem_append.1 hb with hb | hb
  ·exact Iv h1 b hb
  ·exact Iw h2 b hb
def MW {ae:Nat->Nat} {lo:Nat} {r:AV} {u:ye} (h:jJ ae S w lo r u) (m:Mp):∃S',(∀b,S b->S' b)/\(∀b,S' b->S b\/(lo<=b/\b<w.heap.size))/\af ae m S' w (shut r) u:=by
 have one:∀(r:AV) (bs:List Nat),shut r=bg r->fb ae S w lo r u bs->∃S',(∀b,S b->S' b)/\(∀b,S' b->S b\/(lo<=b/\b<w.heap.size))/\af ae m S' w (shut r) u:=by
  intro r bs hs h;refine ⟨fun b=>S b\/b∈bs,fun _ h=> .inl h,fun b hb=>hb.imp (fun x=>x) (fun hb=>Iv h b hb),?_⟩;rw [hs];exact MU h m (fun _ h=> .inl h) (fun _ h=> .inr h)
 cases r with
 | ay vs=>
  obtain ⟨us,bs,rfl,h1,h2⟩:=h;refine ⟨fun b=>S b\/b∈bs,fun _ h=> .inl h,fun b hb=>hb.imp (fun x=>x) (fun hb=>Iw h1 b hb),?_⟩;exact ⟨us,rfl,MV m (fun _ h=> .inl h) h1 (fun _ h=> .inr h)⟩
 | _=>
  obtain ⟨bs,h⟩:=h;exact one _ bs rfl h
end
end
section
open Go
section
variable {O:aZ} {m:Mp} {S:Nat->Prop} {w:yg} {H:Hp} {cH:Nat}
def Ed {hp:Hp} {ct:Nat} {r:AV}:ct<=(dL hp ct r).2.2:=by
 cases r<;>simp only [dL]<;>omega
def Ee:∀{vs:List AV} {hp:Hp} {ct:Nat},ct<=(gn hp ct vs).2.2
 | [],hp,ct=>by simp [gn]
 | v::r,hp,ct=>by
  simp only [gn];have h1:=Ed (hp:=hp) (ct:=ct) (r:=v);have h2:=Ee (vs:=r) (hp:=(dL hp ct v).2.1) (ct:=(dL hp ct v).2.2);omega
def Ix {hp:Hp} {ct:Nat} {r:AV} (hf:∀id o,aj hp id=some o->id<ct):∀id o,aj hp id=some o->aj (dL hp ct r).2.1 id=some o:=by
 intro id o h;cases r<;>simp only [dL]<;>try exact h
 rw [eW,yD (by have:=hf id o h;omega)];exact h
def OX {hp:Hp} {ct lo:Nat} {r:AV} {u:ye} {bs:List Nat} (hh:aH O m S w H cH) (hl:cr (dL hp ct r).2.1 H) (dU:(dL hp ct r).2.2<=cH) (hn:∀id,ct<=id->id<(dL hp ct r).2.2->m id=none)
  (hr:fb O.ae S w lo r u bs) (b5:O.w0.heap.size<=lo) (jS:∀j q,m j=some q->q.b∉bs):
  ∃m' S',aH O m' S' w H cH/\cE m m'/\(∀id p,m' id=some p->m id=some p\/(ct<=id/\id<(dL hp ct r).2.2/\p.b∈bs))/\af O.ae m' S' w (dL hp ct r).1 u/\(∀b,S b->S' b)/\(∀b,S' b->S b\/b∈bs):=by
 have aQ:eh S w w:=fun _ _=>rfl
 cases r with
 | bS ex sz n cs=>
  simp only [dL] at hl dU hn;obtain ⟨b,o,c,arr,t,rfl,rfl,h1,h2,h3,h4,h5,h6,h7,h8,h9⟩:=hr;have bn:m ct=none:=hn ct (yC _) (Nat.lt_succ_self _);have aiB:b<w.heap.size:=(y8.1 h5).1;have lV:dQ O (dS m ct ⟨b,o,c*sz,sz⟩) S w ct (.cells true true ex sz cs):=by
   refine ⟨_,arr,t,dc,h5,rfl,?_,h7,fun hx=>?_,qj (fun _ h=>h) aQ cs b o h9 rfl h8,fun _=>h9,fun _=>h4,by simp⟩
   ·show cs.length<=c*sz
    rw [h6];exact Nat.mul_le_mul_right _ h1
   ·grind
  obtain ⟨S',k1,k2,k3⟩:=aak (p:=⟨b,o,c*sz,sz⟩) hh bn (by omega) aiB (by show _<=b;omega) h4 (fun j q hq e=>jS j q hq (by rw [e];simp)) (fun o' js=>by
   obtain ⟨U3,g1,g2⟩:=hl ct (.cells true true ex sz cs) (by rw [eW];simp)
   rw [js] at g1;injection g1 with g1
   subst g1
   exact LG (p:=⟨b,o,c*sz,sz⟩) g2 dc lV (by simp [fK]))
  refine ⟨_,S',k1,gX bn,fun id p ai=>?_,?_,k2,fun b' dn=>(k3 b' dn).imp (fun h=>h) (fun h=>by rw [h];simp)⟩
  ·by_cases hc:id=ct
   ·subst hc;rw [dc] at ai;injection ai with ai
    subst ai;exact .inr ⟨yC _,by simp [dL],by simp⟩
   ·rw [da hc] at ai;exact .inl ai
  ·simp only [dL,af];exact ⟨_,c,dc,by simp,h1,by simp⟩
 | _=>
  exact ⟨m,S,hh,cE.refl,fun _ _ h=> .inl h,lz (fun _ h=>h) aQ _ _ hr.2.2 hr.2.1,fun _ h=>h,fun _ h=> .inl h⟩
def A3 {hp:Hp} {ct:Nat} {r:AV} (hf:∀id o,aj hp id=some o->id<ct):∀id o,aj (dL hp ct r).2.1 id=some o->id<(dL hp ct r).2.2:=by
 intro id o h;cases r<;>simp only [dL] at h ⊢<;>try exact hf id o h
 rw [eW] at h
 grind
def Ef:∀{vs:List AV} {hp:Hp} {ct:Nat},(∀id o,aj hp id=some o->id<ct)->∀id o,aj hp id=some o->aj (gn hp ct vs).2.1 id=some o
 | [],hp,ct,_,id,o,h=>by simpa [gn] using h
 | v::r,hp,ct,hf,id,o,h=>by
  exact Ef (A3 hf) id o (Ix hf id o h)
def OY {lo:Nat} (b5:O.w0.heap.size<=lo):∀{vs:List AV} {us:List ye} {bs:List Nat} {hp:Hp} {ct:Nat} {m:Mp} {S:Nat->Prop},aH O m S w H cH->cr (gn hp ct vs).2.1 H->(gn hp ct vs).2.2<=cH->
  (∀id o,aj hp id=some o->id<ct)->(∀id,ct<=id->id<(gn hp ct vs).2.2->m id=none)->
  ia O.ae S w lo vs us bs->bs.Nodup->(∀j q,m j=some q->q.b∉bs)->
  ∃m' S',aH O m' S' w H cH/\cE m m'/\(∀id p,m' id=some p->m id=some p\/(ct<=id/\id<(gn hp ct vs).2.2/\p.b∈bs))/\ak O.ae m' S' w (gn hp ct vs).1 us/\(∀b,S b->S' b)/\(∀b,S' b->S b\/b∈bs)
 | [],us,bs,hp,ct,m,S,hh,hl,dU,hf,hn,hr,iF,jS=>by
  simp only [ia] at hr;exact ⟨m,S,hh,cE.refl,fun _ _ h=> .inl h,by simp only [gn,ak];exact hr.1,fun _ h=>h,fun _ h=> .inl h⟩
 | v::r,us,bs,hp,ct,m,S,hh,hl,dU,hf,hn,hr,iF,jS=>by
  simp only [ia] at hr;obtain ⟨u,t,b1,b2,rfl,rfl,h1,h2⟩:=hr;simp only [gn] at hl dU hn ⊢;have gS:=Ed (hp:=hp) (ct:=ct) (r:=v);have rZ:=Ee (vs:=r) (hp:=(dL hp ct v).2.1) (ct:=(dL hp ct v).2.2);rw [List.nodup_append] at iF;obtain ⟨m1,S1,k1,k2,k3,k4,k5,k6⟩:=OX (hp:=hp) (ct:=ct) (lo:=lo) hh ((fun id o h=>hl id o (Ef (A3 hf) id o h))) (by omega) (fun id g1 g2=>hn id g1 (by omega)) h1 b5
   (fun j q hq hb=>jS j q hq (by simp [hb]))
  have h2':ia O.ae S1 w lo r t b2:=by
   clear k4;have Js:∀b,S1 b->S b\/b∈b1:=k6;have hd:∀b,b∈b2->b∉b1:=fun b hb pV=>iF.2.2 b pV b hb rfl
   have one:∀{v:AV} {u:ye} {bb:List Nat},(∀b,b∈bb->b∉b1)->fb O.ae S w lo v u bb->fb O.ae S1 w lo v u bb:=by
    intro v u bb pQ h
    cases v with
    | bS ex sz n cs=>
     simp only [fb] at h ⊢;obtain ⟨b,o,c,arr,tt,rfl,rfl,g1,g2,g3,g4,g5,g6,g7,g8,g9⟩:=h;exact ⟨b,o,c,arr,tt,rfl,rfl,g1,g2,g3,fun hs=>(Js b hs).elim g4 (pQ b (by simp)),g5,g6,g7,qj k5 (fun _ _=>rfl) cs b o g9 rfl g8,g9⟩
    | _=>simp only [fb] at h ⊢;exact ⟨h.1,lz k5 (fun _ _=>rfl) _ _ h.2.2 h.2.1,h.2.2⟩
   clear k1 k2 k3 hl dU hn jS iF;revert hd h2;generalize b2=bb
   induction r generalizing t bb with
   | nil=>intro h2 hd;simpa only [ia] using h2
   | cons v' r ih=>
    intro h2 hd;simp only [ia] at h2 ⊢;obtain ⟨u',t',c1,c2,rfl,rfl,g1,g2⟩:=h2
    exact ⟨u',t',c1,c2,rfl,rfl,one (fun b hb=>hd b (by simp [hb])) g1,ih _ (by
     have:=Ee (vs:=r) (hp:=(dL hp ct v).2.1) (ct:=(dL hp ct v).2.2)
     exact this) _ g2 (fun b hb=>hd b (by simp [hb]))⟩
  obtain ⟨m2,S2,g1,g2,g3,g4,g5,g6⟩:=OY b5 (vs:=r) (us:=t) (bs:=b2) (m:=m1) (S:=S1) k1 hl dU (A3 hf) (fun id q1 q2=>by
   cases hq:m1 id with
   | none=>rfl
   | some p=>
    rcases k3 id p hq with h | ⟨_,h,_⟩
    ·rw [hn id (by omega) q2] at h;cases h
    ·omega) h2' iF.2.1 (fun j q hq hb=>by
     rcases k3 j q hq with h | ⟨_,_,h⟩
     ·exact jS j q h (by simp [hb])
     ·exact iF.2.2 q.b h q.b hb rfl)
  refine ⟨m2,S2,g1,k2.trans g2,fun id p ai=>?_,?_,fun b hb=>g5 b (k5 b hb),fun b hb=>?_⟩
  ·rcases g3 id p ai with h | ⟨a1,a2,a3⟩
   ·rcases k3 id p h with h | ⟨a1,a2,a3⟩
    ·exact .inl h
    ·exact .inr ⟨a1,by omega,by simp [a3]⟩
   ·exact .inr ⟨by omega,a2,by simp [a3]⟩
  ·simp only [ak];exact ⟨u,t,rfl,iN g2 g5 (fun _ _=>rfl) _ _ k4,g4⟩
  ·rcases g6 b hb with h | h
   ·exact (k6 b h).imp (fun h=>h) (fun h=>by simp [h])
   ·exact .inr (by simp [h])
def aes {hp:Hp} {ct lo:Nat} {r:AV} {u:ye} (hh:aH O m S w H cH) (hl:cr (own hp ct r).2.1 H) (dU:(own hp ct r).2.2<=cH) (hf:∀id o,aj hp id=some o->id<ct)
  (hn:∀id,ct<=id->id<(own hp ct r).2.2->m id=none) (hr:jJ O.ae S w lo r u) (b5:O.w0.heap.size<=lo) (CA:∀j q,m j=some q->q.b<lo):
  ∃m' S',aH O m' S' w H cH/\cE m m'/\(∀id p,m' id=some p->m id=some p\/(ct<=id/\id<(own hp ct r).2.2/\lo<=p.b))/\af O.ae m' S' w (own hp ct r).1 u/\(∀b,S b->S' b)/\(∀b,S' b->S b\/lo<=b):=by
 have one:∀(r:AV) (bs:List Nat),own hp ct r=dL hp ct r->fb O.ae S w lo r u bs->cr (own hp ct r).2.1 H->(own hp ct r).2.2<=cH->(∀id,ct<=id->id<(own hp ct r).2.2->m id=none)->
   ∃m' S',aH O m' S' w H cH/\cE m m'/\(∀id p,m' id=some p->m id=some p\/(ct<=id/\id<(own hp ct r).2.2/\lo<=p.b))/\af O.ae m' S' w (own hp ct r).1 u/\(∀b,S b->S' b)/\(∀b,S' b->S b\/lo<=b):=by
  intro r bs he hr hl dU hn;rw [he] at hl dU hn ⊢;have rD:=Iv hr;obtain ⟨m',S',k1,k2,k3,k4,k5,k6⟩:=OX hh hl dU hn hr b5 (fun j q hq hb=>by have:=CA j q hq;have:=(rD _ hb).1;omega)
  exact ⟨m',S',k1,k2,fun id p h=>(k3 id p h).imp (fun h=>h) (fun h=>⟨h.1,h.2.1,(rD _ h.2.2).1⟩),k4,k5,fun b hb=>(k6 b hb).imp (fun h=>h) (fun h=>(rD _ h).1)⟩
 cases r with
 | ay vs=>
  simp only [own] at hl dU hn ⊢;simp only [jJ] at hr;obtain ⟨us,bs,rfl,h1,h2⟩:=hr;have rD:=Iw h1;obtain ⟨m',S',k1,k2,k3,k4,k5,k6⟩:=OY b5 hh hl dU hf hn h1 h2 (fun j q hq hb=>by have:=CA j q hq;have:=(rD _ hb).1;omega)
  exact ⟨m',S',k1,k2,fun id p h=>(k3 id p h).imp (fun h=>h) (fun h=>⟨h.1,h.2.1,(rD _ h.2.2).1⟩),by simp only [af];exact ⟨us,rfl,k4⟩,k5,fun b hb=>(k6 b hb).imp (fun h=>h) (fun h=>(rD _ h).1)⟩
 | _=>
  simp only [jJ] at hr;obtain ⟨bs,hr⟩:=hr;exact one _ bs rfl hr hl dU hn
end
end
section
open Go
section
variable {O:aZ} {m m':Mp} {S:Nat->Prop} {w:yg} {f:Nat->Option Nat}
def zm (f:Nat->Option Nat) (m m':Mp):Prop:=∀id j,f id=some j->m' j=m id
mutual
def OZ {ae:Nat->Nat} (hf:zm f m m'):∀(v:AV) (u:ye),af ae m S w v u->af ae m' S w (bE f v) u
 | .int _ _,_,h | .bool _,_,h | .cu _ _,_,h | .str _,_,h | .gM,_,h | .ab,_,h | .eZ,_,h | .gm,_,h | .undef,_,h=>by
  simpa only [bE,af] using h
 | .ptr id o,u,h=>by
  simp only [bE]
  cases hi:f id with
  | none=>simp only [af]
  | some j=>
   simp only [af] at h ⊢;rw [hf id j hi];exact h
 | .aO cs,u,h=>by
  simp only [bE];exact lz (fun _ h=>h) (fun _ _=>rfl) _ _ (by simp [aG]) h
 | .aC ex n cs,u,h=>by
  simp only [bE];exact lz (fun _ h=>h) (fun _ _=>rfl) _ _ (by simp [aG]) h
 | .bS _ _ _ _,u,h=>by simp only [af] at h
 | .aq id o n,u,h=>by
  simp only [bE]
  cases hi:f id with
  | none=>simp only [af]
  | some j=>
   simp only [af] at h ⊢;rw [hf id j hi];exact h
 | .fn (.f g) first cap,u,h=>by
  simp only [bE,af] at h ⊢;obtain ⟨fi,ca,h1,h2,h3⟩:=h;exact ⟨fi,ca,h1,oO hf first _ h2,oO hf cap _ h3⟩
 | .fn (.y l) first cap,u,h=>by
  simp only [bE]
  cases hi:f l with
  | none=>simp only [af]
  | some j=>
   simp only [af] at h ⊢;rw [hf l j hi];exact h
 | .map id,u,h=>by
  simp only [bE]
  cases hi:f id with
  | none=>simp only [af]
  | some j=>
   simp only [af] at h ⊢;rw [hf id j hi];exact h
 | .fS ks vs,u,h=>by
  simp only [bE];exact lz (fun _ h=>h) (fun _ _=>rfl) _ _ (by simp [aG]) h
 | .it id,u,h=>by
  simp only [bE]
  cases hi:f id with
  | none=>simp only [af]
  | some j=>
   simp only [af] at h ⊢;rw [hf id j hi];exact h
 | .agg cs,u,h=>by
  simp only [bE,af] at h ⊢;obtain ⟨xs,h1,h2⟩:=h;exact ⟨xs,h1,oO hf cs _ h2⟩
 | .ay cs,u,h=>by
  simp only [bE,af] at h ⊢;obtain ⟨xs,h1,h2⟩:=h;exact ⟨xs,h1,oO hf cs _ h2⟩
def oO {ae:Nat->Nat} (hf:zm f m m'):∀(vs:List AV) (us:List ye),ak ae m S w vs us->ak ae m' S w (dY f vs) us
 | [],us,h=>by simpa only [dY,ak] using h
 | v::r,us,h=>by
  simp only [dY,ak] at h ⊢;obtain ⟨u,t,h1,h2,h3⟩:=h;exact ⟨u,t,h1,OZ hf v u h2,oO hf r t h3⟩
end
def YE {ae:Nat->Nat} (hf:zm f m m') {cs:List AV} {b o:Nat} (h:bt ae m S w cs b o):bt ae m' S w (dY f cs) b o:=by
 obtain ⟨us,h1,_,h3⟩:=nf cs b o h;exact sP _ us o (oO hf cs us h1) h3
def HW:∀cs:List AV,(dY f cs).length=cs.length
 | []=>rfl
 | c::r=>by simp [dY,HW r]
def NT:∀(tm:Env) (i:Nat),ah (hZ f tm) i=bE f (ah tm i)
 | [],i=>by simp [hZ,ah,bE]
 | (j,v)::r,i=>by
  simp only [hZ,ah]
  cases yq j i with
  | true=>rfl
  | false=>exact NT r i
def MX (tm:Env) (i:Nat):∀live:List Nat,ah (cz tm live) i=ah tm i\/ah (cz tm live) i= .undef
 | []=> .inr rfl
 | j::r=>by
  simp only [cz,ah]
  cases hb:yq j i with
  | true=>rw [yk hb];exact .inl rfl
  | false=>exact MX tm i r
def NU {tm:Env} {tmps:Array ye} (hf:zm f m m') (h:bJ O m S w tm tmps):bJ O m' S w (hZ f tm) tmps:=fun i=>by
 rw [NT];exact OZ hf _ _ (h i)
def aal {id j:Nat} {o:Obj} {p:Pl} (hf:zm f m m') (hm:m id=some p) (hj:m' j=some p) (h:dQ O m S w id o):dQ O m' S w j (iz f o):=by
 cases o with
 | cells rw pu ex sz cs=>
  obtain ⟨q,arr,t,h1,h2,h3,h4,h5,h6,h7,h8,h9,n8⟩:=h;rw [hm] at h1;injection h1 with h1;subst h1
  cases pu with
  | true=>exact ⟨p,arr,t,hj,h2,h3,h4,h5,h6,qj (fun _ h=>h) (fun _ _=>rfl) _ _ _ (h8 rfl) rfl h7,h8,h9,n8⟩
  | false=>exact ⟨p,arr,t,hj,h2,h3,by rw [yu,HW];exact h4,h5,by rw [yu,HW];exact h6,YE hf h7,by simp,h9,n8⟩
 | mp rw ks vs=>
  obtain ⟨q,es,clock,h1,h2,h3,h4,h5,h6⟩:=h;rw [hm] at h1;injection h1 with h1;subst h1
  exact ⟨p,es,clock,hj,h2,oO hf _ _ h3,oO hf _ _ h4,h5,h6⟩
 | si s pos=>
  obtain ⟨q,t,h1,h2,h3,h4⟩:=h;rw [hm] at h1;injection h1 with h1;subst h1
  exact ⟨p,t,hj,h2,h3,h4⟩
 | lp tm ps as_ body st pe=>
  obtain ⟨q,l,hi,h1,h2,h3,h4,h5,h6,h7,h8⟩:=h;rw [hm] at h1;injection h1 with h1;subst h1
  exact ⟨p,l,hi,hj,h2,h3,h4,h5,h6,NU hf h7,h8⟩
def MY {i:Nat}:∀{l:List Nat} {k j:Nat},iS i l k=some j->k<=j/\l[j-k]? =some i
 | [],k,j,h=>by simp [iS] at h
 | x::r,k,j,h=>by
  simp only [iS] at h
  cases hb:yq x i with
  | true=>
   simp_all
  | false=>
   rw [hb] at h;obtain ⟨h1,h2⟩:=MY h
   grind
def nn {a b:Nat}:yB a b=true↔a<b:=by simp_all
def Dt {hp:Hp} {j:Nat} {o':Obj}:∀{l:List Nat} {k:Nat} {acc:Hp},aj (hX hp f l k acc) j=some o'->
  (∃i id o,l[i]? =some id/\j=k+i/\aj hp id=some o/\o'=iz f o)\/aj acc j=some o'
 | [],k,acc,h=> .inr h
 | x::r,k,acc,h=>by
  simp only [hX] at h
  cases hx:aj hp x with
  | none=>
   simp only [hx] at h;rcases Dt h with ⟨i,id,o,h1,h2,h3,h4⟩ | h
   ·exact .inl ⟨i+1,id,o,by simpa using h1,by omega,h3,h4⟩
   ·grind
  | some o=>
   simp only [hx] at h;rcases Dt h with ⟨i,id,o,h1,h2,h3,h4⟩ | h
   ·exact .inl ⟨i+1,id,o,by simpa using h1,by omega,h3,h4⟩
   ·rw [eW] at h;by_cases hc:k=j
    ·simp only [hc,yQ,yb] at h;exact .inl ⟨0,x,o,by simp,by omega,hx,h.symm⟩
    ·grind
def Du {base:Nat} {j:Nat} {o':Obj}:∀{hp:Hp},aj (iQ base f hp) j=some o'->j<base/\∃o,aj hp j=some o/\o'=iz f o
 | [],h=>by simp [iQ,aj] at h
 | (i,q)::r,h=>by
  simp only [iQ] at h
  cases hb:yB i base with
  | true=>
   rw [hb] at h;simp only [ym] at h;rw [eW] at h;by_cases hc:i=j
   ·simp only [hc,yQ,yb] at h;exact ⟨by rw [<-hc];exact nn.1 hb,q,by rw [eW];simp [hc],h.symm⟩
   ·simp only [hc,yG] at h;obtain ⟨h1,o,h2,h3⟩:=Du h;exact ⟨h1,o,by rw [eW];simp [hc,h2],h3⟩
  | false=>
   rw [hb] at h;obtain ⟨h1,o,h2,h3⟩:=Du h;have hc:¬i=j:=fun e=>by
    have:=nn.2 h1
    grind
   exact ⟨h1,o,by rw [eW];simp [hc,h2],h3⟩
def kG (m:Mp) (base:Nat) (seen:List Nat):Mp:=fun j=>
 if j<base then m j else match seen[j-base]? with
  | some id=>if hJ base seen id=some j then m id else none
  | none=>none
def Hw {base:Nat} {seen:List Nat} {j:Nat} {p:Pl} (h:kG m base seen j=some p):∃id,hJ base seen id=some j/\m id=some p/\(j<base->id=j):=by
 unfold kG at h
 split at h
 ·rename_i hj;exact ⟨j,by simp [hJ,nn.2 hj],h,fun _=>rfl⟩
 ·grind
def aam {base:Nat} {seen:List Nat}:zm (hJ base seen) m (kG m base seen):=by
 intro id j h;have h0:=h;unfold hJ at h
 cases hb:yB id base with
 | true=>
  rw [hb] at h;simp only [ym,yb] at h;subst h;simp [kG,nn.1 hb]
 | false=>
  rw [hb] at h;obtain ⟨h1,h2⟩:=MY h
  have:¬j<base:=by omega
  simp only [kG,this,yG,h2,h0,yQ]
def G9 {s:St} {tmps:Array ye} {live:List Nat} (ht:bJ O m S w s.tm tmps) (hh:aH O m S w s.hp s.ct) (hb:s.base<=s.ct):
  ∃m',bJ O m' S w (bw live s).tm tmps/\aH O m' S w (bw live s).hp (bw live s).ct/\(bw live s).base=s.base/\s.base<=(bw live s).ct/\bH m S w s.hp m' S w (bw live s).hp s.base:=by
 simp only [bw];generalize RU:reach s.hp s.base 100000 (dB (cz s.tm live)++b7 s.base s.hp) []=seen;have hr:=aam (m:=m) (base:=s.base) (seen:=seen);have aU:∀j p,kG m s.base seen j=some p->j<s.base+seen.length:=by
  intro j p h;unfold kG at h
  grind
 have back:∀j o' p,aj (hX s.hp (hJ s.base seen) seen s.base (iQ s.base (hJ s.base seen) s.hp)) j=some o'->kG m s.base seen j=some p->
   ∃id o,hJ s.base seen id=some j/\aj s.hp id=some o/\m id=some p/\o'=iz (hJ s.base seen) o:=by
  intro j o' p ho hm;obtain ⟨id,h1,h2,h3⟩:=Hw hm;rcases Dt ho with ⟨i,Kg,o,g1,g2,g3,g4⟩ | ho
  ·have hj:¬j<s.base:=by omega
   have:kG m s.base seen j=if hJ s.base seen Kg=some j then m Kg else none:=by
    simp only [kG,hj,yG,show j-s.base=i by omega,g1]
   grind
  ·obtain ⟨g1,o,g2,g3⟩:=Du ho
   grind
 refine ⟨kG m s.base seen,?_,⟨?_,aU,?_,hh.slt,?_,?_,hh.iB,hh.eG,fun j o' ho=>(by
  rcases Dt ho with ⟨i,Kg,o,g1,g2,g3,g4⟩ | ho
  ·grind
  ·have:=(Du ho).1;omega)⟩,by trivial,by omega,⟨rfl,rfl,rfl,yC _,fun _ _ _=>rfl,fun _ h=>h,fun _ _=>rfl,fun _ h=> .inl h,?_,?_,fun _ r h=>⟨r,h⟩⟩⟩
 ·refine NU hr (fun i=>?_);rcases MX s.tm i live with h | h
  ·rw [h];exact ht i
  ·rw [h];simp only [af]
 ·intro j o' p ho hm;obtain ⟨id,o,h1,h2,h3,rfl⟩:=back j o' p ho hm;exact aal hr h3 hm (hh.obj id o p h2 h3)
 ·intro i j oi oj pi pj hi hj bn eA e;obtain ⟨idi,o1,a1,a2,a3,_⟩:=back i oi pi hi bn;obtain ⟨idj,o2,b1,b2,b3,_⟩:=back j oj pj hj eA
  have:=hh.inj idi idj o1 o2 pi pj a2 b2 a3 b3 e
  grind
 ·intro j p hm;obtain ⟨id,_,h2,_⟩:=Hw hm;exact hh.blt id p h2
 ·intro j p hm;obtain ⟨id,_,h2,_⟩:=Hw hm;exact hh.low id p h2
 ·rintro b ⟨j,o',p,h1,h2,h3⟩;obtain ⟨id,o,_,g2,g3,_⟩:=back j o' p h1 h2;exact .inl ⟨id,o,p,g2,g3,h3⟩
 ·intro id p hid hm;simp [kG,hid,hm]
end
end
section
open Go
section
variable {O:aZ} {m:Mp} {S:Nat->Prop} {w:yg} {hp:Hp} {ct:Nat}
def NV (hh:aH O m S w hp ct) (id:Nat):aH O m S w (cp hp id) ct:=by
 have sub:∀i o,aj (cp hp id) i=some o->aj hp i=some o:=fun i o h=>by
  rw [AO] at h
  grind
 exact ⟨fun i o p h hm=>hh.obj i o p (sub i o h) hm,hh.lt,fun i j oi oj pi pj hi hj=>hh.inj i j oi oj pi pj (sub i oi hi) (sub j oj hj),hh.slt,hh.blt,hh.low,hh.iB,hh.eG,fun i o h=>hh.aU i o (sub i o h)⟩
def O0 {id b:Nat} (h:cX m (cp hp id) b):cX m hp b:=by
 obtain ⟨i,o,p,h1,h2,h3⟩:=h;rw [AO] at h1;by_cases hc:id=i
 ·grind
 ·simp only [hc,yG] at h1;exact ⟨i,o,p,h1,h2,h3⟩
def LI (hh:aH O m S w hp ct) {id:Nat} {o:Obj} {p:Pl} (hg:aj hp id=some o) (hm:m id=some p):¬cX m (cp hp id) p.b:=by
 rintro ⟨i,o',q,h1,h2,h3⟩;rw [AO] at h1;by_cases hc:id=i
 ·grind
 ·simp only [hc,yG] at h1;exact hc (hh.inj i id o' o q p h1 hg h2 hm h3).symm
def acm {ai:Hp} (hd:gH hp ai) {b:Nat} (h:cX m ai b):cX m hp b:=by
 obtain ⟨i,o,p,h1,h2,h3⟩:=h
 have:=hd i
 rw [h1] at this
 cases hq:aj hp i with
 | none=>rw [hq] at this;cases this
 | some q=>exact ⟨i,q,p,hq,h2,h3⟩
def Mb {lo:Nat} {v v':AV} {ai:Hp} {n:Nat} (hh:aH O m S w hp ct) (hf:freeze n hp v=some (v',ai)) {u:ye} (hv:af O.ae m S w v u):
  ∃S',aH O m S' w ai ct/\(∀b,S b->S' b)/\(∀b,S' b->S b\/cX m hp b)/\aG v'=true/\af O.ae dD S' w v' u/\fb O.ae S' w lo v' u []:=by
 obtain ⟨h1,h2,h3⟩:=Hr (O:=O) hf;obtain ⟨S',g1,g2,g3⟩:=OR hh h1 (fun id o p ho hm=>by
  have:=h2 id
  rw [ho] at this
  cases hq:aj hp id with
  | none=>rw [hq] at this;cases this
  | some q=>exact ⟨q,rfl⟩) (yC _) (fun id o ho=>(by
  have:=h2 id
  rw [ho] at this
  cases hq:aj hp id with
  | none=>rw [hq] at this;cases this
  | some q=>exact hh.aU id q hq))
 obtain ⟨k1,k2⟩:=h3 ai m S' w ct cr.refl g1;have hr:=k1 u (iN (fun _ _ h=>h) g2 (fun _ _=>rfl) v u hv);have dj:af O.ae dD S' w v' u:=lz (fun _ h=>h) (fun _ _=>rfl) v' u k2 hr;refine ⟨S',g1,g2,g3,k2,dj,?_⟩
 cases v' with
 | bS _ _ _ _=>simp [aG] at k2
 | _=>exact ⟨rfl,dj,k2⟩
def YF {S':Nat->Prop} {lo:Nat} {v:AV} {u:ye} {bs:List Nat} (hS:∀b,S b->S' b) (hn:∀b,b∈bs->¬S' b) (h:fb O.ae S w lo v u bs):fb O.ae S' w lo v u bs:=by
 cases v with
 | bS ex sz n cs=>
  obtain ⟨b,o,c,arr,t,rfl,rfl,g1,g2,g3,g4,g5,g6,g7,g8,g9⟩:=h;exact ⟨b,o,c,arr,t,rfl,rfl,g1,g2,g3,hn b (by simp),g5,g6,g7,qj hS (fun _ _=>rfl) cs b o g9 rfl g8,g9⟩
 | _=>simp only [fb] at h ⊢;exact ⟨h.1,lz hS (fun _ _=>rfl) _ _ h.2.2 h.2.1,h.2.2⟩
def MZ {lo:Nat} {v v':AV} {ai:Hp} {n:Nat} (hh:aH O m S w hp ct) (hf:nt n hp v=some (v',ai)) {u:ye} (hv:af O.ae m S w v u) (b5:∀b,cX m hp b->lo<=b):
  ∃S' bs,aH O m S' w ai ct/\(∀b,S b->S' b)/\(∀b,S' b->S b\/cX m hp b)/\fb O.ae S' w lo v' u bs/\bs.Nodup/\(∀b,b∈bs->cX m hp b/\¬cX m ai b)/\(∀b,cX m ai b->cX m hp b):=by
 have frozen:freeze n hp v=some (v',ai)->∃S' bs,aH O m S' w ai ct/\(∀b,S b->S' b)/\(∀b,S' b->S b\/cX m hp b)/\fb O.ae S' w lo v' u bs/\bs.Nodup/\(∀b,b∈bs->cX m hp b/\¬cX m ai b)/\(∀b,cX m ai b->cX m hp b):=by
  intro hz;obtain ⟨S',g1,g2,g3,g4,g5,g6⟩:=Mb (lo:=lo) hh hz hv
  exact ⟨S',[],g1,g2,g3,g6,by simp,by simp,fun b hb=>acm (Hr (O:=O) hz).2.1 hb⟩
 unfold nt at hf
 split at hf
 ·rename_i id o k
  split at hf
  ·rename_i ex sz cs hg
   cases hc:Nat.ble (o+k*sz) cs.length with
   | false=>rw [hc] at hf;cases hf
   | true=>
    rw [hc] at hf;obtain ⟨rfl,rfl⟩:=hf;have hle:=Nat.le_of_ble_eq_true hc;obtain ⟨p,c,hm,rfl,h1,h2⟩:=hv;obtain ⟨p',arr,t,g1,g2,g3,g4,g5,g6,g7,g8,g9,g10⟩:=hh.obj id _ _ hg hm;rw [hm] at g1;injection g1 with g1
    subst g1;rw [g3] at h2;refine ⟨S,[p.b],NV hh id,fun _ h=>h,fun _ h=> .inl h,?_,by simp,?_,fun b hb=>O0 hb⟩
    ·refine ⟨p.b,p.o+o,c,arr,t,rfl,rfl,h1,?_,b5 _ (Be hg hm),g9 rfl,g2,?_,by omega,?_,qh _ (oH _ _ (g8 rfl))⟩
     ·intro hx;simp only [yf] at hx;have e1:=yk hx.2;have e2:=nn.1 hx.1.2;have e3:=g6 hx.1.1
      have:c*sz=k*sz:=by omega
      exact Nat.eq_of_mul_eq_mul_right e2 this
     ·simp only [slice,List.length_take,List.length_drop];omega
     ·exact qj (fun _ h=>h) (fun _ _=>rfl) _ _ _ (qh _ (oH _ _ (g8 rfl))) rfl (qt _ _ _ _ (mh _ _ _ _ g7))
    ·intro b hb;simp only [List.mem_singleton] at hb;subst hb;exact ⟨Be hg hm,LI hh hg hm⟩
  ·grind
 ·grind
def Mc {lo n:Nat}:∀{vs cW:List AV} {us:List ye} {hp ai:Hp} {S:Nat->Prop},aH O m S w hp ct->qJ n hp vs=some (cW,ai)->ak O.ae m S w vs us->(∀b,cX m hp b->lo<=b)->
  ∃S' bs,(∀b,S b->S' b)/\(∀b,S' b->S b\/cX m hp b)/\ia O.ae S' w lo cW us bs/\bs.Nodup/\(∀b,b∈bs->cX m hp b)/\(∀b,S' b->b<w.heap.size)
 | [],cW,us,hp,ai,S,hh,hf,hv,b5=>by
  obtain ⟨rfl,rfl⟩:=hf;exact ⟨S,[],fun _ h=>h,fun _ h=> .inl h,by simp only [ia];exact ⟨hv,by trivial⟩,by simp,by simp,hh.slt⟩
 | v::r,cW,us,hp,ai,S,hh,hf,hv,b5=>by
  simp only [qJ] at hf
  cases h1:nt n hp v with
  | none=>simp [h1] at hf
  | some q=>
   obtain ⟨v1,bl⟩:=q;simp only [h1] at hf
   cases h2:qJ n bl r with
   | none=>simp [h2] at hf
   | some q2=>
    simp only [h2,yb,yi] at hf;obtain ⟨rfl,rfl⟩:=hf;obtain ⟨u,t,rfl,eI,cR⟩:=hv;obtain ⟨S1,b1,k1,k2,k3,k4,k5,k6,k7⟩:=MZ (lo:=lo) hh h1 eI b5;obtain ⟨S2,b2,g1,g2,g3,g4,g5,g6⟩:=Mc (us:=t) k1 h2 (eV (fun _ _ h=>h) k2 (fun _ _=>rfl) _ _ cR) (fun b hb=>b5 b (k7 b hb));have Js:∀b,b∈b1->¬S2 b:=by
     intro b hb hs;rcases g2 b hs with h | h
     ·cases v1 with
      | bS ex sz n cs=>
       simp only [fb] at k4
       grind
      | _=>simp only [fb] at k4;rw [k4.1] at hb;cases hb
     ·grind
    refine ⟨S2,b1++b2,fun b hb=>g1 b (k2 b hb),fun b hb=>?_,?_,?_,?_,g6⟩
    ·grind
    ·simp only [ia];exact ⟨u,t,b1,b2,rfl,rfl,YF g1 Js k4,g3⟩
    ·grind
    ·grind
def Hx {lo:Nat}:∀{cs:List AV} {us:List ye},ax cs=true->ak O.ae dD S w cs us->ia O.ae S w lo cs us []
 | [],us,_,h=>by simp only [ak] at h;exact ⟨h,by trivial⟩
 | c::r,us,hp,h=>by
  obtain ⟨u,t,rfl,h1,h2⟩:=h;simp only [ax,yf] at hp;refine ⟨u,t,[],[],rfl,rfl,?_,Hx hp.2 h2⟩
  cases c with
  | bS _ _ _ _=>simp [aG] at hp
  | _=>exact ⟨rfl,h1,hp.1⟩
def YG {lo:Nat} {v r:AV} {u:ye} (hh:aH O m S w hp ct) (hr:result hp v=some r) (hv:af O.ae m S w v u) (b5:∀b,cX m hp b->lo<=b):
  ∃S',(∀b,S b->S' b)/\(∀b,S' b->S b\/cX m hp b)/\(∀b,S' b->b<w.heap.size)/\jJ O.ae S' w lo r u:=by
 unfold result at hr
 split at hr
 ·rename_i vs
  split at hr
  ·cases h1:qJ deep hp vs with
   | none=>simp [h1] at hr
   | some q=>
    simp only [h1,yb] at hr;subst hr;obtain ⟨us,rfl,hv⟩:=hv;obtain ⟨S',bs,g1,g2,g3,g4,g5,g6⟩:=Mc (lo:=lo) hh h1 hv b5;exact ⟨S',g1,g2,g6,us,bs,rfl,g3,g4⟩
  ·cases h1:freeze deep hp (.ay vs) with
   | none=>simp [h1] at hr
   | some q=>
    obtain ⟨v',ai⟩:=q;simp only [h1,yb] at hr;subst hr;obtain ⟨S',g1,g2,g3,g4,g5,g6⟩:=Mb (lo:=lo) hh h1 hv;refine ⟨S',g2,g3,g1.slt,?_⟩
    cases v' with
    | ay cs=>
     obtain ⟨xs,rfl,g5⟩:=g5;exact ⟨xs,[],rfl,Hx (by simpa [aG] using g4) g5,by simp⟩
    | _=>exact ⟨[],g6⟩
 ·rename_i hnt
  cases h1:nt deep hp v with
  | none=>simp [h1] at hr
  | some q=>
   obtain ⟨v',ai⟩:=q;simp only [h1,yb] at hr;subst hr;obtain ⟨S',bs,g1,g2,g3,g4,_⟩:=MZ (lo:=lo) hh h1 hv b5;refine ⟨S',g2,g3,g1.slt,?_⟩
   cases v' with
   | ay cs=>
    obtain ⟨rfl,h2,h3⟩:=g4;obtain ⟨xs,rfl,h2⟩:=h2;exact ⟨xs,[],rfl,Hx (by simpa [aG] using h3) h2,by simp⟩
   | _=>exact ⟨bs,g4⟩
end
end
section
open Go
def WF (ro:Option Nat):Fence:={Fence.wide with round:=ro}
section
variable {O:aZ}
def P4 (O:aZ) (hp:Hp) (ct:Nat) (l:Nat) (xs:List AV) (v:AV) (ai:Hp) (aK:Nat):Prop:=
 ∀(m:Mp) (S:Nat->Prop) (w:yg) (args:Array ye) (p:Pl),aH O m S w hp ct->m l=some p->ak O.ae m S w xs args.toList->
  ∃f tmps assign body,(Instr.yield p.b args).run O.P w= .ok (.round p.b f tmps assign body) w/\tI Fence.wide 0 O.P p.b f tmps assign body w (oN O m S w hp ct v ai aK)
structure jA (O:aZ) (run:bZ):Prop where
 pure:∀n vals r,cf O.prog O.aI run n vals=some r->dO O n vals r
 heap:∀hp ct n vals v ai aK,fA O.prog O.aI run hp ct n vals=some (v,ai,aK)->rk O n hp ct vals v ai aK
 round:∀hp ct l xs v ai aK,fy run hp ct l xs=some (v,ai,aK)->P4 O hp ct l xs v ai aK
end
section
variable {P:yM} {o:yL} {a:Act} {w:yg} {ro:Option Nat} {next:Act->yg->Prop} {Q:vT->Act->yg->Prop}
def Dv {c:tq} {f:xh} (ho:o.op= .call c) (hc:c.callee= .value f) {g:uM} {fi ca:Array ye} (hf:a.eval f= .func (.func g) fi ca) {R:vX->yg->Prop}
  (h:oS P g (fi++c.args.map a.eval++ca) w R) (hn:∀e w',R e w'->∃u,e= .returned u/\next (a.put o.dst u) w'):o.wpIn (WF ro) 0 P a w next Q:=by
 have dR:(o.semAt ro a.eval).run P w=(callFunc g (fi++c.args.map a.eval++ca)).run P w:=by
  rw [Oper.semAt_eq _ _ _ (fun c' h'=>by rw [ho] at h';cases h')];simp only [execOp,ho,resolve,hc,Deferred.ofValue,hf,Sem.run_bind,Sem.run_pure,Result.andThen_ok,invoke]
 refine ⟨fun _ _=>trivial,?_⟩;show o.uponIn (WF ro) 0 P a next Q ((o.semAt ro a.eval).run P w)
 rw [dR];rcases h with ⟨h1,h2⟩ | ⟨u,w',h1,h2⟩
 ·rw [h1,Oper.uponIn_enter];refine ⟨fun h=>by simp [WF,Fence.wide] at h,?_⟩;have h3:CallsIn (WF ro) 0 P g (fi++c.args.map a.eval++ca) w R:=h2;refine CallsIn.mono h3 (fun e w' he=>?_);obtain ⟨u,rfl,hq⟩:=hn e w' he;exact hq
 ·rw [h1];obtain ⟨u',e,hq⟩:=hn _ _ h2;injection e with e
  subst e;exact hq
def aan {c:tq} {f:xh} (ho:o.op= .call c) (hc:c.callee= .value f) {l:Nat} (hf:a.eval f= .func (.yield l) #[] #[]) {R:vX->yg->Prop} {g:uM} {tmps:Array ye} {assign body:Code}
  (hy:(Instr.yield l (c.args.map a.eval)).run P w= .ok (.round l g tmps assign body) w) (h:tI Fence.wide 0 P l g tmps assign body w R) (hn:∀e w',R e w'->∃u,e= .returned u/\next (a.put o.dst u) w'):o.wpIn (WF ro) 0 P a w next Q:=by
 have dR:(o.semAt ro a.eval).run P w= .ok (.round l g tmps assign body) w:=by
  rw [Oper.semAt_eq _ _ _ (fun c' h'=>by rw [ho] at h';cases h')];simp only [execOp,ho,resolve,hc,Deferred.ofValue,hf,Sem.run_bind,Sem.run_pure,Result.andThen_ok,invoke,Array.empty_append];exact hy
 refine ⟨fun _ _=>trivial,?_⟩;show o.uponIn (WF ro) 0 P a next Q ((o.semAt ro a.eval).run P w)
 rw [dR,Oper.uponIn_round];refine ⟨fun h=>by simp [WF,Fence.wide] at h,?_⟩;have h3:tI (WF ro) 0 P l g tmps assign body w R:=h;refine RoundIn.mono h3 (fun e w' he=>?_);obtain ⟨u,rfl,hq⟩:=hn e w' he;exact hq
def Er {n:Next} {u:ye} {w':yg} (hd:∀c,o.op≠.defer c) (h:(execOp a.eval o).run P w= .ok n w') (hn:n= .value u\/(n= .skip/\u=undef)) (hq:next (a.put o.dst u) w'):o.wpIn (WF ro) 0 P a w next Q:=by
 refine ⟨fun _ _=>trivial,?_⟩;show o.uponIn (WF ro) 0 P a next Q ((o.semAt ro a.eval).run P w)
 rw [Oper.semAt_eq _ _ _ hd,h];rcases hn with rfl | ⟨rfl,rfl⟩
 ·exact hq
 ·exact hq
end
def nP (P:yM) (H:Hint) (q:Op) (o:yL):Prop:=
 (∃k,q=aV P H k o)\/(∃c f rs,o.op= .call c/\c.callee= .value f/\q= .eX rs (aF H f) (eQ H c.args.toList))\/
  ∃t x y sz rs,o.op= .store t x y/\bQ P t=some sz/\q= .gP rs sz (aF H x) (aF H y)
def ji:Op->Op
 | .eX _ f xs=> .eX [] f xs
 | .gP _ s x v=> .st s x v
 | o=>o
section
variable {O:aZ} {H:Hint} {m:Mp} {S:Nat->Prop} {w:yg} {tm:Env} {a:Act} {hp:Hp} {ct:Nat} {self:bZ} {ro:Option Nat} {next:Act->yg->Prop} {Q:vT->Act->yg->Prop}
def Eg {o:yL} {k:Nat} {md:Md} {x:X} {xs:List X} (h:aV O.P H k o= .call md x xs) (hb:x≠.c .undef):∃c f,o.op= .call c/\c.callee= .value f/\x=aF H f/\xs=eQ H c.args.toList:=by
 have nb:bad= .call md x xs->False:=fun h=>by simp only [bad,Op.call.injEq] at h;exact hb h.2.1.symm
 cases ho:o.op with
 | call c=>
  obtain ⟨callee,args,ts⟩:=c;simp only [aV,ho] at h
  split at h
  ·rename_i f;cases hm:H.mode k<;>simp only [hm,Op.call.injEq,reduceCtorEq] at h
   all_goals exact ⟨_,f,rfl,rfl,h.2.1.symm,h.2.2.symm⟩
  ·repeat' split at h
   all_goals first
    | exact (nb h).elim
    | (cases h;done)
    | (revert h;generalize yq _ _=bb;intro h;cases bb<;>first | exact (nb h).elim | (cases h;done))
  ·exact (nb h).elim
 | binOp op t x' y ty=>
  cases op<;>simp only [aV,ho,mv,nl] at h
  case eql=>
        repeat' split at h
        all_goals first
         | exact (nb h).elim
         | (cases h;done)
         | (cases dn:(O.P.stoodInHeld t||O.P.eqGuardType O.P.depth t)<;>rw [dn] at h<;>first | exact (nb h).elim | (cases h;done))
  case neq=>
        repeat' split at h
        all_goals first
         | exact (nb h).elim
         | (cases h;done)
         | (cases dn:(O.P.stoodInHeld t||O.P.eqGuardType O.P.depth t)<;>rw [dn] at h<;>first | exact (nb h).elim | (cases h;done))
  all_goals cases h
 | buildSlice t n parts=>
  simp only [aV,ho] at h
  repeat' split at h
  all_goals first
   | exact (nb h).elim
   | (cases h;done)
   | (revert h;generalize Nat.ble _ _=bb;intro h;cases bb<;>first | exact (nb h).elim | (simp only [ym] at h;cases h;done))
 | makeMap t r=>
  cases r<;>simp only [aV,ho] at h
  ·repeat' split at h
   all_goals first
    | exact (nb h).elim
    | (cases h;done)
  ·exact (nb h).elim
 | next x' b=>
  cases b<;>simp only [aV,ho] at h
  ·exact (nb h).elim
  ·cases h
 | _=>
  simp only [aV,ho] at h
  (repeat' split at h)
  all_goals first
   | contradiction
   | exact (nb h).elim
   | (cases h;done)
def XG {o:yL} {k:Nat} {r:AV×Hp×Nat} (hv:aY O.prog O.aI self tm hp ct (aV O.P H k o)=some r):∀c,o.op≠.defer c:=by
 intro c ho;simp [aV,ho,bad,aY,cw,ao] at hv
end
end
section
open Go
section
variable {O:aZ} {H:Hint} {m:Mp} {S:Nat->Prop} {w:yg} {tm:Env} {a:Act} {hp ai Hq:Hp} {ct aK cH:Nat} {self:bZ} {ro:Option Nat} {next:Act->yg->Prop} {Q:vT->Act->yg->Prop}
def YH {g:Go.Obj} {p:Pl} {S':Nat->Prop} {base:Nat} (hh:aH O m S w Hq cH) (hi:m ct=none) (hb:p.b=w.heap.size) (h1:∀b,S b->S' b) (h2:∀b,S' b->S b\/b=w.heap.size):
  bH m S w Hq (dS m ct p) S' (w.alloc g) Hq base where
 os:=rfl
 tape:=rfl
 output:=rfl
 size:=by simp
 same b hb _:=alloc_old hb
 sub:=h1
 still b hb:=alloc_old (hh.slt b hb)
 new b hb:=(h2 b hb).imp (fun h=>h) (fun h=> .inr (by omega))
 own b hb:=by
  obtain ⟨i,o,q,g1,g2,g3⟩:=hb;by_cases hc:i=ct
  ·subst hc;rw [dc] at g2
   grind
  ·rw [da hc] at g2;exact .inl ⟨i,o,q,g1,g2,g3⟩
 old i q _ h:=gX hi i q h
 loops b r hb:=⟨r,(alloc_old (y8.1 hb).1).trans hb⟩
def LJ {EG vals:List AV} {us:List ye} {bl:Hp} (hz:bO deep hp EG=some (vals,bl)) (hl:cr bl Hq) (hh:aH O m S w Hq cH) (hr:ak O.ae m S w EG us):ak O.ae dD S w vals us/\ax vals=true:=by
 obtain ⟨_,_,h3⟩:=G6 (O:=O) hz;obtain ⟨k1,k2⟩:=h3 Hq m S w cH hl hh;exact ⟨nh (fun _ h=>h) (fun _ _=>rfl) _ _ k2 (k1 us hr),k2⟩
def Iy (hh:aH O m S w Hq cH):o9 O w:=⟨hh.iB,hh.eG⟩
def DX (hH:dW O H) (ht:bJ O m S w tm a.tmps) {f:xh} {g:Nat} {first cap:List AV} {args:Array xh} (hf:ao tm (aF H f)= .fn (.f g) first cap):
  ∃fi ca:Array ye,a.eval f= .func (.func (O.ae g)) fi ca/\ak O.ae m S w (first++(cx tm (eQ H args.toList)++cap)) (fi++args.map a.eval++ca).toList:=by
 have rf:=bN hH ht f;rw [hf] at rf;obtain ⟨fi,ca,h1,h2,h3⟩:=rf;refine ⟨fi,ca,h1,?_⟩
 have:=iM h2 (iM (qP hH ht args.toList) h3)
 simp_all
def XH (hC:jA O self) (hH:dW O H) {o:yL} {c:tq} {f:xh} (ho:o.op= .call c) (fu:c.callee= .value f) {g:Nat} {first cap vals:List AV} {bl:Hp} {r:AV}
  (hf:ao tm (aF H f)= .fn (.f g) first cap) (hz:bO deep hp (first++(cx tm (eQ H c.args.toList)++cap))=some (vals,bl)) (hr:cf O.prog O.aI self g vals=some r)
  (hl:cr bl Hq) (ht:bJ O m S w tm a.tmps) (hh:aH O m S w Hq cH)
  (hn:∀u S' w',aH O m S' w' Hq cH->af O.ae m S' w' (shut r) u->bH m S w Hq m S' w' Hq cH->next (a.put o.dst u) w'):o.wpIn (WF ro) 0 O.P a w next Q:=by
 obtain ⟨fi,ca,h1,h2⟩:=DX hH ht (args:=c.args) hf;obtain ⟨h3,h4⟩:=LJ hz hl hh h2;refine Dv ho fu h1 (hC.pure g vals r hr w S _ (Iy hh) hh.slt h3 h4) ?_;rintro e w' ⟨u,S',rfl,hw,g1,g2,g3,g4⟩;refine ⟨u,rfl,?_⟩;obtain ⟨S2,k1,k2,k3⟩:=MW g4 m;have hS:∀b,S b->S2 b:=fun b hb=>k1 b (g1 b hb)
 have CC:∀b,S2 b->S b\/w.heap.size<=b:=fun b hb=>(k2 b hb).elim (g2 b) (fun h=> .inr h.1)
 have hl:∀b,S2 b->b<w'.heap.size:=fun b hb=>(k2 b hb).elim (g3 b) (fun h=>h.2)
 exact hn u S2 w' (AQ hh hw hS CC hl) k3 (AZ hh hw hS CC)
def YI (hC:jA O self) (hH:dW O H) {o:yL} {c:tq} {f:xh} (ho:o.op= .call c) (fu:c.callee= .value f) {g:Nat} {first cap vals:List AV} {bl:Hp} {r:AV}
  (hf:ao tm (aF H f)= .fn (.f g) first cap) (hz:bO deep hp (first++(cx tm (eQ H c.args.toList)++cap))=some (vals,bl)) (hr:cf O.prog O.aI self g vals=some r)
  (hl:cr (own bl ct r).2.1 Hq) (dU:(own bl ct r).2.2<=cH) (aU:∀id o,aj hp id=some o->id<ct) (z7:∀id,ct<=id->id<(own bl ct r).2.2->m id=none)
  (ht:bJ O m S w tm a.tmps) (hh:aH O m S w Hq cH)
  (hn:∀u m' S' w',aH O m' S' w' Hq cH->cE m m'->(∀id p,m' id=some p->m id=some p\/(ct<=id/\id<(own bl ct r).2.2))->af O.ae m' S' w' (own bl ct r).1 u->bH m S w Hq m' S' w' Hq cH->next (a.put o.dst u) w'):
  o.wpIn (WF ro) 0 O.P a w next Q:=by
 obtain ⟨fi,ca,h1,h2⟩:=DX hH ht (args:=c.args) hf;obtain ⟨z1,z2,z3⟩:=G6 (O:=O) hz;have Jt:∀id o,aj bl id=some o->id<ct:=fun id o h=>by
  have:=z2 id
  rw [h] at this
  cases hq:aj hp id with
  | none=>rw [hq] at this;cases this
  | some q=>exact aU id q hq
 have aet:∀id o,aj bl id=some o->aj (own bl ct r).2.1 id=some o:=fun id o h=>by
  cases r with
  | ay vs=>exact Ef Jt id o h
  | _=>exact Ix Jt id o h
 have kU:cr bl Hq:=fun id o h=>hl id o (aet id o h)
 obtain ⟨h3,h4⟩:=LJ hz kU hh h2;refine Dv ho fu h1 (hC.pure g vals r hr w S _ (Iy hh) hh.slt h3 h4) ?_;rintro e w' ⟨u,S',rfl,hw,g1,g2,g3,g4⟩;refine ⟨u,rfl,?_⟩;have pW:=AQ hh hw g1 g2 g3;have pN:=AZ (base:=cH) hh hw g1 g2;obtain ⟨m',S2,k1,k2,k3,k4,k5,k6⟩:=aes (lo:=w.heap.size) pW hl dU Jt z7 g4 hh.eG (fun j q hq=>hh.blt j q hq);refine hn u m' S2 w' k1 k2 (fun id p h=>(k3 id p h).imp (fun h=>h) (fun h=>⟨h.1,h.2.1⟩)) k4 ⟨hw.os,hw.tape,hw.output,hw.size,fun b hb _=>hw.same b hb,fun b hb=>k5 b (g1 b hb),fun b hb=>hw.same b (hh.slt b hb),?_,?_,fun i q _ h=>k2 i q h,pN.loops⟩
 ·grind
 ·rintro b ⟨i,ob,q,q1,q2,q3⟩;rcases k3 i q q2 with h | h
  ·exact .inl ⟨i,ob,q,q1,h,q3⟩
  ·grind
def quiet_step (hC:jA O self) (hH:dW O H) {o:yL} {q:Op} {v:AV} (hk:bf q<=1) (hq:nP O.P H q o) (hd:∀c,o.op≠.defer c) (hv:aY O.prog O.aI self tm hp ct q=some (v,ai,aK)) (hl:cr ai Hq) (dU:aK<=cH)
  (aU:∀id o,aj hp id=some o->id<ct) (z7:∀id,ct<=id->id<aK->m id=none) (ht:bJ O m S w tm a.tmps) (hh:aH O m S w Hq cH)
  (hn:∀u m' S' w',aH O m' S' w' Hq cH->cE m m'->(∀id p,m' id=some p->m id=some p\/(ct<=id/\id<aK))->af O.ae m' S' w' v u->bH m S w Hq m' S' w' Hq cH->next (a.put o.dst u) w'):
  o.wpIn (WF ro) 0 O.P a w next Q:=by
 have gC:∃k,q=aV O.P H k o:=by
  rcases hq with h | ⟨c,f,rs,_,_,rfl⟩ | ⟨_,_,_,_,_,_,_,rfl⟩
  ·grind
  ·simp [bf] at hk
  ·simp [bf] at hk
 obtain ⟨k,hq⟩:=gC;have read:∀{v:AV},bc tm hp q=some v->cr hp Hq->(∀u m' S' w',aH O m' S' w' Hq cH->cE m m'->(∀id p,m' id=some p->m id=some p\/(ct<=id/\id<aK))->af O.ae m' S' w' v u->bH m S w Hq m' S' w' Hq cH->next (a.put o.dst u) w')->o.wpIn (WF ro) 0 O.P a w next Q:=by
  intro v hr hl hn;have dj:=YB hl hr;rw [hq] at dj;obtain ⟨u,h1,h2⟩:=OQ hH ht hh dj;exact Er hd h1 (.inl rfl) (hn u m S w hh cE.refl (fun _ _ h=> .inl h) h2 bH.refl)
 have makes:∀{v:AV} {b:Obj},bV tm hp ct q=some (v,b)->cr ((ct,b)::hp) Hq->ct+1<=cH->m ct=none->(∀u m' S' w',aH O m' S' w' Hq cH->cE m m'->(∀id p,m' id=some p->m id=some p\/(ct<=id/\id<ct+1))->af O.ae m' S' w' v u->bH m S w Hq m' S' w' Hq cH->next (a.put o.dst u) w')->o.wpIn (WF ro) 0 O.P a w next Q:=by
  intro v b hr hl hc hi hn;rw [hq] at hr;have dj:bV tm Hq ct (aV O.P H k o)=some (v,b):=by rw [<-hr];exact AB (fun _ _=>rfl)
  obtain ⟨u,g,p,h1,h2,h3,h4⟩:=acf hH ht hh dj;obtain ⟨S',k1,k2,k3⟩:=NN (i:=ct) (g:=g) (p:=p) hh hi hc h2 (fun o' js=>by
   obtain ⟨U3,g1,g2⟩:=hl ct b (by rw [eW];simp)
   rw [js] at g1;injection g1 with g1
   subst g1
   have:=LG g2 dc (h4 _ (gX hi) dc).1 h3
   rwa [h2] at this)
  refine Er hd h1 (.inl rfl) (hn u _ S' _ k1 (gX hi) (fun id q hq=>?_) (iN (fun _ _ h=>h) k2 (fun _ _=>rfl) _ _ (h4 _ (gX hi) dc).2) (YH hh hi h2 k2 k3));by_cases hc:id=ct
  ·grind
  ·rw [da hc] at hq;exact .inl hq
 have bW:∀{q:Op},(match bV tm hp ct q with | some (v,b)=>some (v,(ct,b)::hp,ct+1) | none=>(none:ez))=some (v,ai,aK)->∃b,bV tm hp ct q=some (v,b)/\ai=(ct,b)::hp/\aK=ct+1:=by
  intro q h
  cases hm:bV tm hp ct q with
  | none=>simp [hm] at h
  | some r=>
   grind
 have gT:∀{q:Op},(match bc tm hp q with | some v=>some (v,hp,ct) | none=>(none:ez))=some (v,ai,aK)->bc tm hp q=some v/\ai=hp/\aK=ct:=by
  intro q h
  cases hm:bc tm hp q with
  | none=>simp [hm] at h
  | some r=>
   grind
 have Bf:(∃b,bV tm hp ct q=some (v,b)/\ai=(ct,b)::hp/\aK=ct+1)->o.wpIn (WF ro) 0 O.P a w next Q:=by
  grind
 have aeu:(bc tm hp q=some v/\ai=hp/\aK=ct)->o.wpIn (WF ro) 0 O.P a w next Q:=by
  grind
 cases q with
 | st _ _ _=>simp [bf] at hk
 | kO _ _ _ _=>simp [bf] at hk
 | kQ _=>simp [bf] at hk
 | cC _ _ _ _=>simp [bf] at hk
 | kR _ _ _=>simp [bf] at hk
 | eX _ _ _=>simp [bf] at hk
 | gP _ _ _ _=>simp [bf] at hk
 | box s x=>exact Bf (bW (by simp only [aY] at hv;exact hv))
 | cd n s z ps=>exact Bf (bW (by simp only [aY] at hv;exact hv))
 | eT s b z x y=>exact Bf (bW (by simp only [aY] at hv;exact hv))
 | nZ=>exact Bf (bW (by simp only [aY] at hv;exact hv))
 | kP x=>exact Bf (bW (by simp only [aY] at hv;exact hv))
 | call md x xs=>
  cases md with
  | heap=>simp [bf] at hk
  | dyn=>simp [bf] at hk
  | pure=>
   simp only [aY,cw] at hv
   split at hv
   ·rename_i g first cap hx
    (try simp only at hv)
    cases hz:bO deep hp (first++(cx tm xs++cap)) with
    | none=>simp [hz] at hv
    | some z=>
     obtain ⟨vals,bl⟩:=z;simp only [hz] at hv
     cases hr:cf O.prog O.aI self g vals with
     | none=>simp [hr] at hv
     | some r=>
      simp only [hr,yb,yi] at hv;obtain ⟨rfl,rfl,rfl⟩:=hv;obtain ⟨c,f,ho,fu,rfl,rfl⟩:=Eg hq.symm (by rintro rfl;simp [ao] at hx);exact XH hC hH ho fu hx hz hr hl ht hh (fun u S' w' h1 h2 h3=>hn u m S' w' h1 cE.refl (fun _ _ h=> .inl h) h2 h3)
   ·simp at hv
   ·cases hv
  | own=>
   simp only [aY,cw] at hv
   split at hv
   ·rename_i g first cap hx
    (try simp only at hv)
    cases hz:bO deep hp (first++(cx tm xs++cap)) with
    | none=>simp [hz] at hv
    | some z=>
     obtain ⟨vals,bl⟩:=z;simp only [hz] at hv
     cases hr:cf O.prog O.aI self g vals with
     | none=>simp [hr] at hv
     | some r=>
      simp only [hr,yb] at hv;obtain ⟨c,f,ho,fu,rfl,rfl⟩:=Eg hq.symm (by rintro rfl;simp [ao] at hx);have e1:v=(own bl ct r).1:=by rw [hv]
      have e2:ai=(own bl ct r).2.1:=by rw [hv]
      have e3:aK=(own bl ct r).2.2:=by rw [hv]
      subst e1;subst e2;subst e3;exact YI hC hH ho fu hx hz hr hl dU aU z7 ht hh hn
   ·simp at hv
   ·cases hv
 | _=>exact aeu (gT (by simp only [aY] at hv;exact hv))
end
end
end VE
