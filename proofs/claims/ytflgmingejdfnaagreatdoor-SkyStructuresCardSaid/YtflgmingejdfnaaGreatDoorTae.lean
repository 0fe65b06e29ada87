import Derived.RangeFuncLeaves
import Derived.Test.YtflgmingejdfnaaGreatDoorTad
set_option linter.all false
set_option maxRecDepth 100000
open Array renaming getElem?_eq_some_iff→y5
open Bool renaming and_eq_true→ye
open Go renaming Call→th,Ending→vU,Exit→vQ,FuncId→uE,Oper→yI,Operand→y8,Program→yJ,RoundIn→tH,Value→yd,World→yf
open Nat renaming beq→yk,blt→yA,eq_of_beq_eq_true→yh,le_refl→yC,le_trans→xz,lt_of_lt_of_le→yU
open Option.some renaming injEq→yb
open Prod.mk renaming injEq→yg
namespace VE
section
open Go
structure Calm (w w':yf):Prop where
 os:w'.os=w.os
 tape:w'.tape=w.tape
 output:w'.output=w.output
 size:w.heap.size<=w'.heap.size
 same:∀b,b<w.heap.size->w'.heap[b]? =w.heap[b]?
def Calm.refl {w:yf}:Calm w w:=⟨rfl,rfl,rfl,yC _,fun _ _=>rfl⟩
def Calm.trans {w w' rO:yf} (h:Calm w w') (k:Calm w' rO):Calm w rO:=
 ⟨k.os.trans h.os,k.tape.trans h.tape,k.output.trans h.output,xz h.size k.size,fun b hb=>(k.same b (yU hb h.size)).trans (h.same b hb)⟩
def oS (O:a8) (w:yf):Prop:=(∀b,b<O.w0.heap.size->w.heap[b]? =O.w0.heap[b]?)/\O.w0.heap.size<=w.heap.size
def dJ:Mp:=fun _=>none
def fo (ae:Nat->Nat) (S:Nat->Prop) (w:yf) (lo:Nat):AV->yd->List Nat->Prop
 | .bX ex sz n cs,u,bs=>∃b o c arr t,bs=[b]/\u= .slice (some ⟨b,o,none⟩) n c/\n<=c/\(ex=true->c=n)/\lo<=b/\¬S b/\w.heap[b]? =some (.cells arr t (0,0))/\cs.length=n*sz/\
   o+c*sz<=arr.size/\bC ae dJ S w cs b o/\az cs=true
 | r,u,bs=>bs=[]/\af ae dJ S w r u/\aI r=true
def iv (ae:Nat->Nat) (S:Nat->Prop) (w:yf) (lo:Nat):List AV->List yd->List Nat->Prop
 | [],us,bs=>us=[]/\bs=[]
 | v::r,us,bs=>∃u t b1 b2,us=u::t/\bs=b1++b2/\fo ae S w lo v u b1/\iv ae S w lo r t b2
def jQ (ae:Nat->Nat) (S:Nat->Prop) (w:yf) (lo:Nat) (r:AV) (u:yd):Prop:=
 match r with
 | .aw vs=>∃(us:Array yd) (bs:List Nat),u= .tuple us/\iv ae S w lo vs us.toList bs/\bs.Nodup
 | r=>∃bs,fo ae S w lo r u bs
def oH (P:yJ) (f:uE) (args:Array yd) (w:yf) (R:vU->yf->Prop):Prop:=
 ((callFunc f args).run P w= .ok (.enter f args) w/\CallsIn Fence.wide 0 P f args w R)\/∃u w',(callFunc f args).run P w= .ok (.value u) w'/\R (.returned u) w'
def N6 (O:a8) (w:yf) (S:Nat->Prop) (r:AV) (e:vU) (w':yf):Prop:=
 ∃u S',e= .returned u/\Calm w w'/\(∀b,S b->S' b)/\(∀b,S' b->S b\/w.heap.size<=b)/\(∀b,S' b->b<w'.heap.size)/\jQ O.ae S' w' w.heap.size r u
def dQ (O:a8) (n:Nat) (ap:List AV) (r:AV):Prop:=
 ∀(w:yf) (S:Nat->Prop) (args:Array yd),oS O w->(∀b,S b->b<w.heap.size)->an O.ae dJ S w ap args.toList->az ap=true->
  oH O.P (O.ae n) args w (N6 O w S r)
def oC (O:a8) (m:Mp) (S:Nat->Prop) (w:yf) (hp:Hp) (ct:Nat) (v:AV) (ai:Hp) (aO:Nat) (e:vU) (w':yf):Prop:=
 ∃u m' S',e= .returned u/\aJ O m' S' w' ai aO/\ct<=aO/\af O.ae m' S' w' v u/\bK m S w hp m' S' w' ai ct
def qX (O:a8) (n:Nat) (hp:Hp) (ct:Nat) (ap:List AV) (v:AV) (ai:Hp) (aO:Nat):Prop:=
 ∀(m:Mp) (S:Nat->Prop) (w:yf) (args:Array yd),aJ O m S w hp ct->an O.ae m S w ap args.toList->oH O.P (O.ae n) args w (oC O m S w hp ct v ai aO)
section
variable {ae:Nat->Nat} {m m':Mp} {S S':Nat->Prop} {w w':yf}
mutual
def lf (hS:∀b,S b->S' b) (hw:ej S w w'):∀(v:AV) (u:yd),aI v=true->af ae m S w v u->af ae m' S' w' v u
 | .int _ _,_,_,h | .bool _,_,_,h | .cx _ _,_,_,h | .str _,_,_,h | .gW,_,_,h | .aa,_,_,h | .fk,_,_,h | .gH,_,_,h | .undef,_,_,h=>by
  simpa only [af] using h
 | .ptr id o,u,hp,h=>by simp [aI] at hp
 | .ay cs,u,hp,h=>by
  simp only [af] at h ⊢;obtain ⟨b,o,h1,h2,h3,h4⟩:=h;refine ⟨b,o,h1,h2.imp id (hS b),h3,?_⟩;rcases h2 with rfl | h2
  ·simp only [bC]
  ·exact Hb hS hw cs b o h3 h2 h4
 | .aB ex n cs,u,hp,h=>by
  simp only [af] at h ⊢;rcases h with ⟨b,o,c,h1,h2,h3,h4,h5,h6⟩ | h
  ·refine .inl ⟨b,o,c,h1,h2,h3,h4.imp id (hS b),h5,?_⟩;rcases h4 with rfl | h4
   ·simp only [bC]
   ·exact Hb hS hw cs b o h5 h4 h6
  ·exact .inr h
 | .bX _ _ _ _,u,hp,h=>by simp [aI] at hp
 | .au id o n,u,hp,h=>by simp [aI] at hp
 | .fn (.f g) first cap,u,hp,h=>by
  simp only [af] at h ⊢;simp only [aI,ye] at hp;obtain ⟨fi,ca,h1,h2,h3⟩:=h;exact ⟨fi,ca,h1,nh hS hw first _ hp.1 h2,nh hS hw cap _ hp.2 h3⟩
 | .fn (.y l) _ _,u,hp,h=>by simp [aI] at hp
 | .map id,u,hp,h=>by simp [aI] at hp
 | .gj ks vs,u,hp,h=>by
  simp only [af] at h ⊢;obtain ⟨b,es,clock,h1,h2,h3,h4,h5,h6,h7⟩:=h;exact ⟨b,es,clock,h1,hS b h2,h3,h4,(hw b h2).trans h5,nh hS hw ks _ h3 h6,nh hS hw vs _ h4 h7⟩
 | .it id,u,hp,h=>by simp [aI] at hp
 | .agg cs,u,hp,h=>by
  simp only [af] at h ⊢;simp only [aI] at hp;obtain ⟨xs,h1,h2⟩:=h;exact ⟨xs,h1,nh hS hw cs _ hp h2⟩
 | .aw cs,u,hp,h=>by
  simp only [af] at h ⊢;simp only [aI] at hp;obtain ⟨xs,h1,h2⟩:=h;exact ⟨xs,h1,nh hS hw cs _ hp h2⟩
def nh (hS:∀b,S b->S' b) (hw:ej S w w'):∀(vs:List AV) (us:List yd),az vs=true->an ae m S w vs us->an ae m' S' w' vs us
 | [],us,_,h=>by simpa only [an] using h
 | v::r,us,hp,h=>by
  simp only [an] at h ⊢;simp only [az,ye] at hp;obtain ⟨u,t,h1,h2,h3⟩:=h;exact ⟨u,t,h1,lf hS hw v u hp.1 h2,nh hS hw r t hp.2 h3⟩
def Hb (hS:∀b,S b->S' b) (hw:ej S w w'):∀(cs:List AV) (b o:Nat),az cs=true->S b->bC ae m S w cs b o->bC ae m' S' w' cs b o
 | [],_,_,_,_,_=>by simp only [bC]
 | c::cs,b,o,hp,hb,h=>by
  simp only [bC] at h ⊢;simp only [az,ye] at hp;obtain ⟨⟨u,h1,h2⟩,h3⟩:=h;exact ⟨⟨u,(Di (hw b hb)).trans h1,lf hS hw c u hp.1 h2⟩,Hb hS hw cs b (o+1) hp.2 hb h3⟩
end
def p8 (hS:∀b,S b->S' b) (hw:ej S w w'):∀(cs:List AV) (b o:Nat),az cs=true->w'.heap[b]? =w.heap[b]? ->bC ae m S w cs b o->bC ae m' S' w' cs b o
 | [],_,_,_,_,_=>by simp only [bC]
 | c::cs,b,o,hp,hb,h=>by
  simp only [az,ye] at hp;obtain ⟨⟨u,h1,h2⟩,h3⟩:=h;exact ⟨⟨u,(Di hb).trans h1,lf hS hw c u hp.1 h2⟩,p8 hS hw cs b (o+1) hp.2 hb h3⟩
end
section
variable {O:a8} {m:Mp} {S S':Nat->Prop} {w w':yf} {hp:Hp} {ct:Nat}
def YT (hh:aJ O m S w hp ct) (hw:Calm w w'):ej S w w':=fun b hb=>hw.same b (hh.slt b hb)
def AO (hh:aJ O m S w hp ct) (hw:Calm w w') (hS:∀b,S b->S' b) (hn:∀b,S' b->S b\/w.heap.size<=b) (hl:∀b,S' b->b<w'.heap.size):aJ O m S' w' hp ct where
 obj id o p ho hm:=ma (fun _ _ h=>h) hS (YT hh hw) (fun q hq=>hw.same _ (hh.blt id q hq)) (fun q hq hs=>(hn _ hs).resolve_right (by have:=hh.blt id q hq;omega)) (hh.obj id o p ho hm)
 lt:=hh.lt
 inj:=hh.inj
 slt:=hl
 blt id p h:=yU (hh.blt id p h) hw.size
 low:=hh.low
 iK b hb:=(hw.same b (yU hb hh.eK)).trans (hh.iK b hb)
 eK:=xz hh.eK hw.size
 aV:=hh.aV
def AW {base:Nat} (hh:aJ O m S w hp ct) (hw:Calm w w') (hS:∀b,S b->S' b) (hn:∀b,S' b->S b\/w.heap.size<=b):bK m S w hp m S' w' hp base where
 os:=hw.os
 tape:=hw.tape
 output:=hw.output
 size:=hw.size
 same b hb _:=hw.same b hb
 sub:=hS
 still b hb:=hw.same b (hh.slt b hb)
 new b hb:=(hn b hb).imp id .inr
 own b hb:= .inl hb
 old _ _ _ h:=h
 loops b r hb:=⟨r,(hw.same b (y5.1 hb).1).trans hb⟩
def aaE {i:Nat} (hh:aJ O m S w hp ct) (hi:m i=none) (zN:i<ct) {p:Pl} (hb:p.b<w.heap.size) (cd:O.w0.heap.size<=p.b) (Ks:¬S p.b) (jZ:∀j q,m j=some q->q.b≠p.b)
  (hf:∀o,ak hp i=some o->(dR O (dS m i p) S w i o/\¬fW o)\/(fW o/\dR O (dS m i p) (fun b=>S b\/b=p.b) w i o)):
  ∃S',aJ O (dS m i p) S' w hp ct/\(∀b,S b->S' b)/\∀b,S' b->S b\/b=p.b:=by
 have aT:ej S w w:=fun _ _=>rfl
 have gen:∀S':Nat->Prop,(∀b,S b->S' b)->(∀b,S' b->S b\/b=p.b)->(∀o,ak hp i=some o->dR O (dS m i p) S' w i o)->aJ O (dS m i p) S' w hp ct:=by
  intro S' h1 h2 h3;refine ⟨?_,?_,?_,?_,?_,?_,hh.iK,hh.eK,hh.aV⟩
  ·intro id o q ho hm;by_cases hc:id=i
   ·grind
   ·rw [dd hc] at hm;refine ma (ic hi) h1 aT (fun _ _=>rfl) (fun q' bI hs=>?_) (hh.obj id o q ho hm)
    grind
  ·intro id q hm;by_cases hc:id=i
   ·grind
   ·rw [dd hc] at hm;exact hh.lt id q hm
  ·intro a b oa ob pa pb ha db rS nL e;by_cases ca:a=i
   ·by_cases cb:b=i
    ·grind
    ·subst ca;rw [de] at rS;rw [dd cb] at nL
     grind
   ·rw [dd ca] at rS;by_cases cb:b=i
    ·subst cb;rw [de] at nL
     grind
    ·rw [dd cb] at nL;exact hh.inj a b oa ob pa pb ha db rS nL e
  ·intro b hs;rcases h2 b hs with h | h
   ·exact hh.slt b h
   ·grind
  ·intro id q hm;by_cases hc:id=i
   ·subst hc;rw [de] at hm
    grind
   ·rw [dd hc] at hm;exact hh.blt id q hm
  ·intro id q hm;by_cases hc:id=i
   ·subst hc;rw [de] at hm
    grind
   ·rw [dd hc] at hm;exact hh.low id q hm
 cases ho:ak hp i with
 | none=>exact ⟨S,gen S (fun _ h=>h) (fun _ h=> .inl h) (fun o h=>by rw [ho] at h;cases h),fun _ h=>h,fun _ h=> .inl h⟩
 | some o=>
  rcases hf o ho with ⟨h1,_⟩ | ⟨_,h1⟩
  ·exact ⟨S,gen S (fun _ h=>h) (fun _ h=> .inl h) (fun o' h=>by rw [ho] at h;injection h with h;subst h;exact h1),fun _ h=>h,fun _ h=> .inl h⟩
  ·exact ⟨_,gen (fun b=>S b\/b=p.b) (fun _ h=> .inl h) (fun _ h=>h) (fun o' h=>by rw [ho] at h;injection h with h;subst h;exact h1),fun _ h=> .inl h,fun _ h=>h⟩
def Nh {ae:Nat->Nat} {lo:Nat} {r:AV} {u:yd} {bs:List Nat} (h:fo ae S w lo r u bs) (m:Mp) (hS:∀b,S b->S' b) (hbs:∀b,b∈bs->S' b):af ae m S' w (bW r) u:=by
 have aT:ej S w w:=fun _ _=>rfl
 cases r with
 | bX ex sz n cs=>
  obtain ⟨b,o,c,arr,t,rfl,rfl,h1,h2,h3,h4,h5,h6,h7,h8,h9⟩:=h;exact .inl ⟨b,o,c,rfl,h1,h2,.inr (hbs b (by simp)),h9,p8 hS aT cs b o h9 rfl h8⟩
 | _=>simp only [fo] at h;exact lf hS aT _ _ h.2.2 h.2.1
def Ni {ae:Nat->Nat} {lo:Nat} (m:Mp) (hS:∀b,S b->S' b):∀{vs:List AV} {us:List yd} {bs:List Nat},iv ae S w lo vs us bs->(∀b,b∈bs->S' b)->an ae m S' w (qR vs) us
 | [],us,bs,h,_=>by simp only [iv] at h;exact h.1
 | v::r,us,bs,h,hb=>by
  obtain ⟨u,t,b1,b2,rfl,rfl,h1,h2⟩:=h;exact ⟨u,t,rfl,Nh h1 m hS (fun b db=>hb b (by simp [db])),Ni m hS h2 (fun b db=>hb b (by simp [db]))⟩
def Ix {ae:Nat->Nat} {lo:Nat} {r:AV} {u:yd} {bs:List Nat} (h:fo ae S w lo r u bs):∀b,b∈bs->lo<=b/\b<w.heap.size:=by
 intro b hb
 cases r with
 | bX ex sz n cs=>
  simp only [fo] at h
  grind
 | _=>simp only [fo] at h;rw [h.1] at hb;cases hb
def Iy {ae:Nat->Nat} {lo:Nat}:∀{vs:List AV} {us:List yd} {bs:List Nat},iv ae S w lo vs us bs->∀b,b∈bs->lo<=b/\b<w.heap.size
 | [],us,bs,h,b,hb=>by simp only [iv] at h;rw [h.2] at hb;cases hb
 | v::r,us,bs,h,b,hb=>by
  obtain ⟨u,t,b1,b2,rfl,rfl,h1,h2⟩:=h;rcases List.mem_append.1 hb with hb | hb
  ·exact Ix h1 b hb
  ·exact Iy h2 b hb
def Nj {ae:Nat->Nat} {lo:Nat} {r:AV} {u:yd} (h:jQ ae S w lo r u) (m:Mp):∃S',(∀b,S b->S' b)/\(∀b,S' b->S b\/(lo<=b/\b<w.heap.size))/\af ae m S' w (shut r) u:=by
 have one:∀(r:AV) (bs:List Nat),shut r=bW r->fo ae S w lo r u bs->∃S',(∀b,S b->S' b)/\(∀b,S' b->S b\/(lo<=b/\b<w.heap.size))/\af ae m S' w (shut r) u:=by
  intro r bs hs h;refine ⟨fun b=>S b\/b∈bs,fun _ h=> .inl h,fun b hb=>hb.imp (fun x=>x) (fun hb=>Ix h b hb),?_⟩;rw [hs];exact Nh h m (fun _ h=> .inl h) (fun _ h=> .inr h)
 cases r with
 | aw vs=>
  obtain ⟨us,bs,rfl,h1,h2⟩:=h;refine ⟨fun b=>S b\/b∈bs,fun _ h=> .inl h,fun b hb=>hb.imp (fun x=>x) (fun hb=>Iy h1 b hb),?_⟩;exact ⟨us,rfl,Ni m (fun _ h=> .inl h) h1 (fun _ h=> .inr h)⟩
 | _=>
  obtain ⟨bs,h⟩:=h;exact one _ bs rfl h
end
end
section
open Go
section
variable {O:a8} {m:Mp} {S:Nat->Prop} {w:yf} {H:Hp} {cH:Nat}
def Ea {hp:Hp} {ct:Nat} {r:AV}:ct<=(dO hp ct r).2.2:=by
 cases r<;>simp only [dO]<;>omega
def Eb:∀{vs:List AV} {hp:Hp} {ct:Nat},ct<=(gI hp ct vs).2.2
 | [],hp,ct=>by simp [gI]
 | v::r,hp,ct=>by
  simp only [gI];have h1:=Ea (hp:=hp) (ct:=ct) (r:=v);have h2:=Eb (vs:=r) (hp:=(dO hp ct v).2.1) (ct:=(dO hp ct v).2.2);omega
def Iz {hp:Hp} {ct:Nat} {r:AV} (hf:∀id o,ak hp id=some o->id<ct):∀id o,ak hp id=some o->ak (dO hp ct r).2.1 id=some o:=by
 intro id o h;cases r<;>simp only [dO]<;>try exact h
 rw [fc,yE (by have:=hf id o h;omega)];exact h
def O3 {hp:Hp} {ct lo:Nat} {r:AV} {u:yd} {bs:List Nat} (hh:aJ O m S w H cH) (hl:cr (dO hp ct r).2.1 H) (eN:(dO hp ct r).2.2<=cH) (hn:∀id,ct<=id->id<(dO hp ct r).2.2->m id=none)
  (hr:fo O.ae S w lo r u bs) (cd:O.w0.heap.size<=lo) (jZ:∀j q,m j=some q->q.b∉bs):
  ∃m' S',aJ O m' S' w H cH/\cE m m'/\(∀id p,m' id=some p->m id=some p\/(ct<=id/\id<(dO hp ct r).2.2/\p.b∈bs))/\af O.ae m' S' w (dO hp ct r).1 u/\(∀b,S b->S' b)/\(∀b,S' b->S b\/b∈bs):=by
 have aT:ej S w w:=fun _ _=>rfl
 cases r with
 | bX ex sz n cs=>
  simp only [dO] at hl eN hn;obtain ⟨b,o,c,arr,t,rfl,rfl,h1,h2,h3,h4,h5,h6,h7,h8,h9⟩:=hr;have bp:m ct=none:=hn ct (yC _) (Nat.lt_succ_self _);have ai7:b<w.heap.size:=(y5.1 h5).1;have lO:dR O (dS m ct ⟨b,o,c*sz,sz⟩) S w ct (.cells true true ex sz cs):=by
   refine ⟨_,arr,t,de,h5,rfl,?_,h7,fun hx=>?_,p8 (fun _ h=>h) aT cs b o h9 rfl h8,fun _=>h9,fun _=>h4,by simp⟩
   ·show cs.length<=c*sz
    rw [h6];exact Nat.mul_le_mul_right _ h1
   ·grind
  obtain ⟨S',k1,k2,k3⟩:=aaE (p:=⟨b,o,c*sz,sz⟩) hh bp (by omega) ai7 (by show _<=b;omega) h4 (fun j q hq e=>jZ j q hq (by rw [e];simp)) (fun o' jz=>by
   obtain ⟨Vf,g1,g2⟩:=hl ct (.cells true true ex sz cs) (by rw [fc];simp)
   rw [jz] at g1;injection g1 with g1
   subst g1
   exact L0 (p:=⟨b,o,c*sz,sz⟩) g2 de lO (by simp [fW]))
  refine ⟨_,S',k1,ic bp,fun id p ai=>?_,?_,k2,fun b' db=>(k3 b' db).imp (fun h=>h) (fun h=>by rw [h];simp)⟩
  ·by_cases hc:id=ct
   ·subst hc;rw [de] at ai;injection ai with ai
    subst ai;exact .inr ⟨yC _,by simp [dO],by simp⟩
   ·rw [dd hc] at ai;exact .inl ai
  ·simp only [dO,af];exact ⟨_,c,de,by simp,h1,by simp⟩
 | _=>
  exact ⟨m,S,hh,cE.refl,fun _ _ h=> .inl h,lf (fun _ h=>h) aT _ _ hr.2.2 hr.2.1,fun _ h=>h,fun _ h=> .inl h⟩
def A0 {hp:Hp} {ct:Nat} {r:AV} (hf:∀id o,ak hp id=some o->id<ct):∀id o,ak (dO hp ct r).2.1 id=some o->id<(dO hp ct r).2.2:=by
 intro id o h;cases r<;>simp only [dO] at h ⊢<;>try exact hf id o h
 rw [fc] at h
 grind
def Ec:∀{vs:List AV} {hp:Hp} {ct:Nat},(∀id o,ak hp id=some o->id<ct)->∀id o,ak hp id=some o->ak (gI hp ct vs).2.1 id=some o
 | [],hp,ct,_,id,o,h=>by simpa [gI] using h
 | v::r,hp,ct,hf,id,o,h=>by
  exact Ec (A0 hf) id o (Iz hf id o h)
def O4 {lo:Nat} (cd:O.w0.heap.size<=lo):∀{vs:List AV} {us:List yd} {bs:List Nat} {hp:Hp} {ct:Nat} {m:Mp} {S:Nat->Prop},aJ O m S w H cH->cr (gI hp ct vs).2.1 H->(gI hp ct vs).2.2<=cH->
  (∀id o,ak hp id=some o->id<ct)->(∀id,ct<=id->id<(gI hp ct vs).2.2->m id=none)->
  iv O.ae S w lo vs us bs->bs.Nodup->(∀j q,m j=some q->q.b∉bs)->
  ∃m' S',aJ O m' S' w H cH/\cE m m'/\(∀id p,m' id=some p->m id=some p\/(ct<=id/\id<(gI hp ct vs).2.2/\p.b∈bs))/\an O.ae m' S' w (gI hp ct vs).1 us/\(∀b,S b->S' b)/\(∀b,S' b->S b\/b∈bs)
 | [],us,bs,hp,ct,m,S,hh,hl,eN,hf,hn,hr,iN,jZ=>by
  simp only [iv] at hr;exact ⟨m,S,hh,cE.refl,fun _ _ h=> .inl h,by simp only [gI,an];exact hr.1,fun _ h=>h,fun _ h=> .inl h⟩
 | v::r,us,bs,hp,ct,m,S,hh,hl,eN,hf,hn,hr,iN,jZ=>by
  simp only [iv] at hr;obtain ⟨u,t,b1,b2,rfl,rfl,h1,h2⟩:=hr;simp only [gI] at hl eN hn ⊢;have fG:=Ea (hp:=hp) (ct:=ct) (r:=v);have rU:=Eb (vs:=r) (hp:=(dO hp ct v).2.1) (ct:=(dO hp ct v).2.2);rw [List.nodup_append] at iN;obtain ⟨m1,S1,k1,k2,k3,k4,k5,k6⟩:=O3 (hp:=hp) (ct:=ct) (lo:=lo) hh ((fun id o h=>hl id o (Ec (A0 hf) id o h))) (by omega) (fun id g1 g2=>hn id g1 (by omega)) h1 cd
   (fun j q hq hb=>jZ j q hq (by simp [hb]))
  have h2':iv O.ae S1 w lo r t b2:=by
   clear k4;have JG:∀b,S1 b->S b\/b∈b1:=k6;have hd:∀b,b∈b2->b∉b1:=fun b hb pM=>iN.2.2 b pM b hb rfl
   have one:∀{v:AV} {u:yd} {bb:List Nat},(∀b,b∈bb->b∉b1)->fo O.ae S w lo v u bb->fo O.ae S1 w lo v u bb:=by
    intro v u bb pJ h
    cases v with
    | bX ex sz n cs=>
     simp only [fo] at h ⊢;obtain ⟨b,o,c,arr,tt,rfl,rfl,g1,g2,g3,g4,g5,g6,g7,g8,g9⟩:=h;exact ⟨b,o,c,arr,tt,rfl,rfl,g1,g2,g3,fun hs=>(JG b hs).elim g4 (pJ b (by simp)),g5,g6,g7,p8 k5 (fun _ _=>rfl) cs b o g9 rfl g8,g9⟩
    | _=>simp only [fo] at h ⊢;exact ⟨h.1,lf k5 (fun _ _=>rfl) _ _ h.2.2 h.2.1,h.2.2⟩
   clear k1 k2 k3 hl eN hn jZ iN;revert hd h2;generalize b2=bb
   induction r generalizing t bb with
   | nil=>intro h2 hd;simpa only [iv] using h2
   | cons v' r ih=>
    intro h2 hd;simp only [iv] at h2 ⊢;obtain ⟨u',t',c1,c2,rfl,rfl,g1,g2⟩:=h2
    exact ⟨u',t',c1,c2,rfl,rfl,one (fun b hb=>hd b (by simp [hb])) g1,ih _ (by
     have:=Eb (vs:=r) (hp:=(dO hp ct v).2.1) (ct:=(dO hp ct v).2.2)
     exact this) _ g2 (fun b hb=>hd b (by simp [hb]))⟩
  obtain ⟨m2,S2,g1,g2,g3,g4,g5,g6⟩:=O4 cd (vs:=r) (us:=t) (bs:=b2) (m:=m1) (S:=S1) k1 hl eN (A0 hf) (fun id q1 q2=>by
   cases hq:m1 id with
   | none=>rfl
   | some p=>
    rcases k3 id p hq with h | ⟨_,h,_⟩
    ·rw [hn id (by omega) q2] at h;cases h
    ·omega) h2' iN.2.1 (fun j q hq hb=>by
     rcases k3 j q hq with h | ⟨_,_,h⟩
     ·exact jZ j q h (by simp [hb])
     ·exact iN.2.2 q.b h q.b hb rfl)
  refine ⟨m2,S2,g1,k2.trans g2,fun id p ai=>?_,?_,fun b hb=>g5 b (k5 b hb),fun b hb=>?_⟩
  ·rcases g3 id p ai with h | ⟨a1,a2,a3⟩
   ·rcases k3 id p h with h | ⟨a1,a2,a3⟩
    ·exact .inl h
    ·exact .inr ⟨a1,by omega,by simp [a3]⟩
   ·exact .inr ⟨by omega,a2,by simp [a3]⟩
  ·simp only [an];exact ⟨u,t,rfl,iU g2 g5 (fun _ _=>rfl) _ _ k4,g4⟩
  ·rcases g6 b hb with h | h
   ·exact (k6 b h).imp (fun h=>h) (fun h=>by simp [h])
   ·exact .inr (by simp [h])
def aeR {hp:Hp} {ct lo:Nat} {r:AV} {u:yd} (hh:aJ O m S w H cH) (hl:cr (own hp ct r).2.1 H) (eN:(own hp ct r).2.2<=cH) (hf:∀id o,ak hp id=some o->id<ct)
  (hn:∀id,ct<=id->id<(own hp ct r).2.2->m id=none) (hr:jQ O.ae S w lo r u) (cd:O.w0.heap.size<=lo) (CD:∀j q,m j=some q->q.b<lo):
  ∃m' S',aJ O m' S' w H cH/\cE m m'/\(∀id p,m' id=some p->m id=some p\/(ct<=id/\id<(own hp ct r).2.2/\lo<=p.b))/\af O.ae m' S' w (own hp ct r).1 u/\(∀b,S b->S' b)/\(∀b,S' b->S b\/lo<=b):=by
 have one:∀(r:AV) (bs:List Nat),own hp ct r=dO hp ct r->fo O.ae S w lo r u bs->cr (own hp ct r).2.1 H->(own hp ct r).2.2<=cH->(∀id,ct<=id->id<(own hp ct r).2.2->m id=none)->
   ∃m' S',aJ O m' S' w H cH/\cE m m'/\(∀id p,m' id=some p->m id=some p\/(ct<=id/\id<(own hp ct r).2.2/\lo<=p.b))/\af O.ae m' S' w (own hp ct r).1 u/\(∀b,S b->S' b)/\(∀b,S' b->S b\/lo<=b):=by
  intro r bs he hr hl eN hn;rw [he] at hl eN hn ⊢;have rn:=Ix hr;obtain ⟨m',S',k1,k2,k3,k4,k5,k6⟩:=O3 hh hl eN hn hr cd (fun j q hq hb=>by have:=CD j q hq;have:=(rn _ hb).1;omega)
  exact ⟨m',S',k1,k2,fun id p h=>(k3 id p h).imp (fun h=>h) (fun h=>⟨h.1,h.2.1,(rn _ h.2.2).1⟩),k4,k5,fun b hb=>(k6 b hb).imp (fun h=>h) (fun h=>(rn _ h).1)⟩
 cases r with
 | aw vs=>
  simp only [own] at hl eN hn ⊢;simp only [jQ] at hr;obtain ⟨us,bs,rfl,h1,h2⟩:=hr;have rn:=Iy h1;obtain ⟨m',S',k1,k2,k3,k4,k5,k6⟩:=O4 cd hh hl eN hf hn h1 h2 (fun j q hq hb=>by have:=CD j q hq;have:=(rn _ hb).1;omega)
  exact ⟨m',S',k1,k2,fun id p h=>(k3 id p h).imp (fun h=>h) (fun h=>⟨h.1,h.2.1,(rn _ h.2.2).1⟩),by simp only [af];exact ⟨us,rfl,k4⟩,k5,fun b hb=>(k6 b hb).imp (fun h=>h) (fun h=>(rn _ h).1)⟩
 | _=>
  simp only [jQ] at hr;obtain ⟨bs,hr⟩:=hr;exact one _ bs rfl hr hl eN hn
end
end
section
open Go
section
variable {O:a8} {m m':Mp} {S:Nat->Prop} {w:yf} {f:Nat->Option Nat}
def zf (f:Nat->Option Nat) (m m':Mp):Prop:=∀id j,f id=some j->m' j=m id
mutual
def O5 {ae:Nat->Nat} (hf:zf f m m'):∀(v:AV) (u:yd),af ae m S w v u->af ae m' S w (bH f v) u
 | .int _ _,_,h | .bool _,_,h | .cx _ _,_,h | .str _,_,h | .gW,_,h | .aa,_,h | .fk,_,h | .gH,_,h | .undef,_,h=>by
  simpa only [bH,af] using h
 | .ptr id o,u,h=>by
  simp only [bH]
  cases hi:f id with
  | none=>simp only [af]
  | some j=>
   simp only [af] at h ⊢;rw [hf id j hi];exact h
 | .ay cs,u,h=>by
  simp only [bH];exact lf (fun _ h=>h) (fun _ _=>rfl) _ _ (by simp [aI]) h
 | .aB ex n cs,u,h=>by
  simp only [bH];exact lf (fun _ h=>h) (fun _ _=>rfl) _ _ (by simp [aI]) h
 | .bX _ _ _ _,u,h=>by simp only [af] at h
 | .au id o n,u,h=>by
  simp only [bH]
  cases hi:f id with
  | none=>simp only [af]
  | some j=>
   simp only [af] at h ⊢;rw [hf id j hi];exact h
 | .fn (.f g) first cap,u,h=>by
  simp only [bH,af] at h ⊢;obtain ⟨fi,ca,h1,h2,h3⟩:=h;exact ⟨fi,ca,h1,oD hf first _ h2,oD hf cap _ h3⟩
 | .fn (.y l) first cap,u,h=>by
  simp only [bH]
  cases hi:f l with
  | none=>simp only [af]
  | some j=>
   simp only [af] at h ⊢;rw [hf l j hi];exact h
 | .map id,u,h=>by
  simp only [bH]
  cases hi:f id with
  | none=>simp only [af]
  | some j=>
   simp only [af] at h ⊢;rw [hf id j hi];exact h
 | .gj ks vs,u,h=>by
  simp only [bH];exact lf (fun _ h=>h) (fun _ _=>rfl) _ _ (by simp [aI]) h
 | .it id,u,h=>by
  simp only [bH]
  cases hi:f id with
  | none=>simp only [af]
  | some j=>
   simp only [af] at h ⊢;rw [hf id j hi];exact h
 | .agg cs,u,h=>by
  simp only [bH,af] at h ⊢;obtain ⟨xs,h1,h2⟩:=h;exact ⟨xs,h1,oD hf cs _ h2⟩
 | .aw cs,u,h=>by
  simp only [bH,af] at h ⊢;obtain ⟨xs,h1,h2⟩:=h;exact ⟨xs,h1,oD hf cs _ h2⟩
def oD {ae:Nat->Nat} (hf:zf f m m'):∀(vs:List AV) (us:List yd),an ae m S w vs us->an ae m' S w (eb f vs) us
 | [],us,h=>by simpa only [eb,an] using h
 | v::r,us,h=>by
  simp only [eb,an] at h ⊢;obtain ⟨u,t,h1,h2,h3⟩:=h;exact ⟨u,t,h1,O5 hf v u h2,oD hf r t h3⟩
end
def YU {ae:Nat->Nat} (hf:zf f m m') {cs:List AV} {b o:Nat} (h:bC ae m S w cs b o):bC ae m' S w (eb f cs) b o:=by
 obtain ⟨us,h1,_,h3⟩:=nd cs b o h;exact sK _ us o (oD hf cs us h1) h3
def HW:∀cs:List AV,(eb f cs).length=cs.length
 | []=>rfl
 | c::r=>by simp [eb,HW r]
def N7:∀(tm:Env) (i:Nat),ah (ir f tm) i=bH f (ah tm i)
 | [],i=>by simp [ir,ah,bH]
 | (j,v)::r,i=>by
  simp only [ir,ah]
  cases yk j i with
  | true=>rfl
  | false=>exact N7 r i
def Nk (tm:Env) (i:Nat):∀live:List Nat,ah (cN tm live) i=ah tm i\/ah (cN tm live) i= .undef
 | []=> .inr rfl
 | j::r=>by
  simp only [cN,ah]
  cases hb:yk j i with
  | true=>rw [yh hb];exact .inl rfl
  | false=>exact Nk tm i r
def N8 {tm:Env} {tmps:Array yd} (hf:zf f m m') (h:bM O m S w tm tmps):bM O m' S w (ir f tm) tmps:=fun i=>by
 rw [N7];exact O5 hf _ _ (h i)
def aaF {id j:Nat} {o:Obj} {p:Pl} (hf:zf f m m') (hm:m id=some p) (hj:m' j=some p) (h:dR O m S w id o):dR O m' S w j (iI f o):=by
 cases o with
 | cells rw pu ex sz cs=>
  obtain ⟨q,arr,t,h1,h2,h3,h4,h5,h6,h7,h8,h9,rR⟩:=h;rw [hm] at h1;injection h1 with h1;subst h1
  cases pu with
  | true=>exact ⟨p,arr,t,hj,h2,h3,h4,h5,h6,p8 (fun _ h=>h) (fun _ _=>rfl) _ _ _ (h8 rfl) rfl h7,h8,h9,rR⟩
  | false=>exact ⟨p,arr,t,hj,h2,h3,by rw [yr,HW];exact h4,h5,by rw [yr,HW];exact h6,YU hf h7,by simp,h9,rR⟩
 | mp rw ks vs=>
  obtain ⟨q,es,clock,h1,h2,h3,h4,h5,h6⟩:=h;rw [hm] at h1;injection h1 with h1;subst h1
  exact ⟨p,es,clock,hj,h2,oD hf _ _ h3,oD hf _ _ h4,h5,h6⟩
 | si s pos=>
  obtain ⟨q,t,h1,h2,h3,h4⟩:=h;rw [hm] at h1;injection h1 with h1;subst h1
  exact ⟨p,t,hj,h2,h3,h4⟩
 | lp tm ps as_ body st pe=>
  obtain ⟨q,l,hi,h1,h2,h3,h4,h5,h6,h7,h8⟩:=h;rw [hm] at h1;injection h1 with h1;subst h1
  exact ⟨p,l,hi,hj,h2,h3,h4,h5,h6,N8 hf h7,h8⟩
def Nl {i:Nat}:∀{l:List Nat} {k j:Nat},iZ i l k=some j->k<=j/\l[j-k]? =some i
 | [],k,j,h=>by simp [iZ] at h
 | x::r,k,j,h=>by
  simp only [iZ] at h
  cases hb:yk x i with
  | true=>
   simp_all
  | false=>
   rw [hb] at h;obtain ⟨h1,h2⟩:=Nl h
   grind
def nn {a b:Nat}:yA a b=true↔a<b:=by simp_all
def Ds {hp:Hp} {j:Nat} {o':Obj}:∀{l:List Nat} {k:Nat} {acc:Hp},ak (im hp f l k acc) j=some o'->
  (∃i id o,l[i]? =some id/\j=k+i/\ak hp id=some o/\o'=iI f o)\/ak acc j=some o'
 | [],k,acc,h=> .inr h
 | x::r,k,acc,h=>by
  simp only [im] at h
  cases hx:ak hp x with
  | none=>
   simp only [hx] at h;rcases Ds h with ⟨i,id,o,h1,h2,h3,h4⟩ | h
   ·exact .inl ⟨i+1,id,o,by simpa using h1,by omega,h3,h4⟩
   ·grind
  | some o=>
   simp only [hx] at h;rcases Ds h with ⟨i,id,o,h1,h2,h3,h4⟩ | h
   ·exact .inl ⟨i+1,id,o,by simpa using h1,by omega,h3,h4⟩
   ·rw [fc] at h;by_cases hc:k=j
    ·simp only [hc,yR,yb] at h;exact .inl ⟨0,x,o,by simp,by omega,hx,h.symm⟩
    ·grind
def Dt {base:Nat} {j:Nat} {o':Obj}:∀{hp:Hp},ak (iX base f hp) j=some o'->j<base/\∃o,ak hp j=some o/\o'=iI f o
 | [],h=>by simp [iX,ak] at h
 | (i,q)::r,h=>by
  simp only [iX] at h
  cases hb:yA i base with
  | true=>
   rw [hb] at h;simp only [yi] at h;rw [fc] at h;by_cases hc:i=j
   ·simp only [hc,yR,yb] at h;exact ⟨by rw [<-hc];exact nn.1 hb,q,by rw [fc];simp [hc],h.symm⟩
   ·simp only [hc,yM] at h;obtain ⟨h1,o,h2,h3⟩:=Dt h;exact ⟨h1,o,by rw [fc];simp [hc,h2],h3⟩
  | false=>
   rw [hb] at h;obtain ⟨h1,o,h2,h3⟩:=Dt h;have hc:¬i=j:=fun e=>by
    have:=nn.2 h1
    grind
   exact ⟨h1,o,by rw [fc];simp [hc,h2],h3⟩
def kE (m:Mp) (base:Nat) (seen:List Nat):Mp:=fun j=>
 if j<base then m j else match seen[j-base]? with
  | some id=>if il base seen id=some j then m id else none
  | none=>none
def Hx {base:Nat} {seen:List Nat} {j:Nat} {p:Pl} (h:kE m base seen j=some p):∃id,il base seen id=some j/\m id=some p/\(j<base->id=j):=by
 unfold kE at h
 split at h
 ·rename_i hj;exact ⟨j,by simp [il,nn.2 hj],h,fun _=>rfl⟩
 ·grind
def aaG {base:Nat} {seen:List Nat}:zf (il base seen) m (kE m base seen):=by
 intro id j h;have h0:=h;unfold il at h
 cases hb:yA id base with
 | true=>
  rw [hb] at h;simp only [yi,yb] at h;subst h;simp [kE,nn.1 hb]
 | false=>
  rw [hb] at h;obtain ⟨h1,h2⟩:=Nl h
  have:¬j<base:=by omega
  simp only [kE,this,yM,h2,h0,yR]
def Hc {s:St} {tmps:Array yd} {live:List Nat} (ht:bM O m S w s.tm tmps) (hh:aJ O m S w s.hp s.ct) (hb:s.base<=s.ct):
  ∃m',bM O m' S w (bA live s).tm tmps/\aJ O m' S w (bA live s).hp (bA live s).ct/\(bA live s).base=s.base/\s.base<=(bA live s).ct/\bK m S w s.hp m' S w (bA live s).hp s.base:=by
 simp only [bA];generalize RG:reach s.hp s.base 100000 (dP (cN s.tm live)++cJ s.base s.hp) []=seen;have hr:=aaG (m:=m) (base:=s.base) (seen:=seen);have aV:∀j p,kE m s.base seen j=some p->j<s.base+seen.length:=by
  intro j p h;unfold kE at h
  grind
 have back:∀j o' p,ak (im s.hp (il s.base seen) seen s.base (iX s.base (il s.base seen) s.hp)) j=some o'->kE m s.base seen j=some p->
   ∃id o,il s.base seen id=some j/\ak s.hp id=some o/\m id=some p/\o'=iI (il s.base seen) o:=by
  intro j o' p ho hm;obtain ⟨id,h1,h2,h3⟩:=Hx hm;rcases Ds ho with ⟨i,KA,o,g1,g2,g3,g4⟩ | ho
  ·have hj:¬j<s.base:=by omega
   have:kE m s.base seen j=if il s.base seen KA=some j then m KA else none:=by
    simp only [kE,hj,yM,show j-s.base=i by omega,g1]
   grind
  ·obtain ⟨g1,o,g2,g3⟩:=Dt ho
   grind
 refine ⟨kE m s.base seen,?_,⟨?_,aV,?_,hh.slt,?_,?_,hh.iK,hh.eK,fun j o' ho=>(by
  rcases Ds ho with ⟨i,KA,o,g1,g2,g3,g4⟩ | ho
  ·grind
  ·have:=(Dt ho).1;omega)⟩,by trivial,by omega,⟨rfl,rfl,rfl,yC _,fun _ _ _=>rfl,fun _ h=>h,fun _ _=>rfl,fun _ h=> .inl h,?_,?_,fun _ r h=>⟨r,h⟩⟩⟩
 ·refine N8 hr (fun i=>?_);rcases Nk s.tm i live with h | h
  ·rw [h];exact ht i
  ·rw [h];simp only [af]
 ·intro j o' p ho hm;obtain ⟨id,o,h1,h2,h3,rfl⟩:=back j o' p ho hm;exact aaF hr h3 hm (hh.obj id o p h2 h3)
 ·intro i j oi oj pi pj hi hj bp eG e;obtain ⟨idi,o1,a1,a2,a3,_⟩:=back i oi pi hi bp;obtain ⟨idj,o2,b1,b2,b3,_⟩:=back j oj pj hj eG
  have:=hh.inj idi idj o1 o2 pi pj a2 b2 a3 b3 e
  grind
 ·intro j p hm;obtain ⟨id,_,h2,_⟩:=Hx hm;exact hh.blt id p h2
 ·intro j p hm;obtain ⟨id,_,h2,_⟩:=Hx hm;exact hh.low id p h2
 ·rintro b ⟨j,o',p,h1,h2,h3⟩;obtain ⟨id,o,_,g2,g3,_⟩:=back j o' p h1 h2;exact .inl ⟨id,o,p,g2,g3,h3⟩
 ·intro id p hid hm;simp [kE,hid,hm]
end
end
section
open Go
section
variable {O:a8} {m:Mp} {S:Nat->Prop} {w:yf} {hp:Hp} {ct:Nat}
def N9 (hh:aJ O m S w hp ct) (id:Nat):aJ O m S w (cw hp id) ct:=by
 have sub:∀i o,ak (cw hp id) i=some o->ak hp i=some o:=fun i o h=>by
  rw [AM] at h
  grind
 exact ⟨fun i o p h hm=>hh.obj i o p (sub i o h) hm,hh.lt,fun i j oi oj pi pj hi hj=>hh.inj i j oi oj pi pj (sub i oi hi) (sub j oj hj),hh.slt,hh.blt,hh.low,hh.iK,hh.eK,fun i o h=>hh.aV i o (sub i o h)⟩
def O6 {id b:Nat} (h:da m (cw hp id) b):da m hp b:=by
 obtain ⟨i,o,p,h1,h2,h3⟩:=h;rw [AM] at h1;by_cases hc:id=i
 ·grind
 ·simp only [hc,yM] at h1;exact ⟨i,o,p,h1,h2,h3⟩
def L3 (hh:aJ O m S w hp ct) {id:Nat} {o:Obj} {p:Pl} (hg:ak hp id=some o) (hm:m id=some p):¬da m (cw hp id) p.b:=by
 rintro ⟨i,o',q,h1,h2,h3⟩;rw [AM] at h1;by_cases hc:id=i
 ·grind
 ·simp only [hc,yM] at h1;exact hc (hh.inj i id o' o q p h1 hg h2 hm h3).symm
def acO {ai:Hp} (hd:gS hp ai) {b:Nat} (h:da m ai b):da m hp b:=by
 obtain ⟨i,o,p,h1,h2,h3⟩:=h
 have:=hd i
 rw [h1] at this
 cases hq:ak hp i with
 | none=>rw [hq] at this;cases this
 | some q=>exact ⟨i,q,p,hq,h2,h3⟩
def Mv {lo:Nat} {v v':AV} {ai:Hp} {n:Nat} (hh:aJ O m S w hp ct) (hf:freeze n hp v=some (v',ai)) {u:yd} (hv:af O.ae m S w v u):
  ∃S',aJ O m S' w ai ct/\(∀b,S b->S' b)/\(∀b,S' b->S b\/da m hp b)/\aI v'=true/\af O.ae dJ S' w v' u/\fo O.ae S' w lo v' u []:=by
 obtain ⟨h1,h2,h3⟩:=Ht (O:=O) hf;obtain ⟨S',g1,g2,g3⟩:=OX hh h1 (fun id o p ho hm=>by
  have:=h2 id
  rw [ho] at this
  cases hq:ak hp id with
  | none=>rw [hq] at this;cases this
  | some q=>exact ⟨q,rfl⟩) (yC _) (fun id o ho=>(by
  have:=h2 id
  rw [ho] at this
  cases hq:ak hp id with
  | none=>rw [hq] at this;cases this
  | some q=>exact hh.aV id q hq))
 obtain ⟨k1,k2⟩:=h3 ai m S' w ct cr.refl g1;have hr:=k1 u (iU (fun _ _ h=>h) g2 (fun _ _=>rfl) v u hv);have dG:af O.ae dJ S' w v' u:=lf (fun _ h=>h) (fun _ _=>rfl) v' u k2 hr;refine ⟨S',g1,g2,g3,k2,dG,?_⟩
 cases v' with
 | bX _ _ _ _=>simp [aI] at k2
 | _=>exact ⟨rfl,dG,k2⟩
def YV {S':Nat->Prop} {lo:Nat} {v:AV} {u:yd} {bs:List Nat} (hS:∀b,S b->S' b) (hn:∀b,b∈bs->¬S' b) (h:fo O.ae S w lo v u bs):fo O.ae S' w lo v u bs:=by
 cases v with
 | bX ex sz n cs=>
  obtain ⟨b,o,c,arr,t,rfl,rfl,g1,g2,g3,g4,g5,g6,g7,g8,g9⟩:=h;exact ⟨b,o,c,arr,t,rfl,rfl,g1,g2,g3,hn b (by simp),g5,g6,g7,p8 hS (fun _ _=>rfl) cs b o g9 rfl g8,g9⟩
 | _=>simp only [fo] at h ⊢;exact ⟨h.1,lf hS (fun _ _=>rfl) _ _ h.2.2 h.2.1,h.2.2⟩
def Nn {lo:Nat} {v v':AV} {ai:Hp} {n:Nat} (hh:aJ O m S w hp ct) (hf:oJ n hp v=some (v',ai)) {u:yd} (hv:af O.ae m S w v u) (cd:∀b,da m hp b->lo<=b):
  ∃S' bs,aJ O m S' w ai ct/\(∀b,S b->S' b)/\(∀b,S' b->S b\/da m hp b)/\fo O.ae S' w lo v' u bs/\bs.Nodup/\(∀b,b∈bs->da m hp b/\¬da m ai b)/\(∀b,da m ai b->da m hp b):=by
 have frozen:freeze n hp v=some (v',ai)->∃S' bs,aJ O m S' w ai ct/\(∀b,S b->S' b)/\(∀b,S' b->S b\/da m hp b)/\fo O.ae S' w lo v' u bs/\bs.Nodup/\(∀b,b∈bs->da m hp b/\¬da m ai b)/\(∀b,da m ai b->da m hp b):=by
  intro hz;obtain ⟨S',g1,g2,g3,g4,g5,g6⟩:=Mv (lo:=lo) hh hz hv
  exact ⟨S',[],g1,g2,g3,g6,by simp,by simp,fun b hb=>acO (Ht (O:=O) hz).2.1 hb⟩
 unfold oJ at hf
 split at hf
 ·rename_i id o k
  split at hf
  ·rename_i ex sz cs hg
   cases hc:Nat.ble (o+k*sz) cs.length with
   | false=>rw [hc] at hf;cases hf
   | true=>
    rw [hc] at hf;obtain ⟨rfl,rfl⟩:=hf;have hle:=Nat.le_of_ble_eq_true hc;obtain ⟨p,c,hm,rfl,h1,h2⟩:=hv;obtain ⟨p',arr,t,g1,g2,g3,g4,g5,g6,g7,g8,g9,g10⟩:=hh.obj id _ _ hg hm;rw [hm] at g1;injection g1 with g1
    subst g1;rw [g3] at h2;refine ⟨S,[p.b],N9 hh id,fun _ h=>h,fun _ h=> .inl h,?_,by simp,?_,fun b hb=>O6 hb⟩
    ·refine ⟨p.b,p.o+o,c,arr,t,rfl,rfl,h1,?_,cd _ (A9 hg hm),g9 rfl,g2,?_,by omega,?_,p7 _ (ou _ _ (g8 rfl))⟩
     ·intro hx;simp only [ye] at hx;have e1:=yh hx.2;have e2:=nn.1 hx.1.2;have e3:=g6 hx.1.1
      have:c*sz=k*sz:=by omega
      exact Nat.eq_of_mul_eq_mul_right e2 this
     ·simp only [slice,List.length_take,List.length_drop];omega
     ·exact p8 (fun _ h=>h) (fun _ _=>rfl) _ _ _ (p7 _ (ou _ _ (g8 rfl))) rfl (p9 _ _ _ _ (lY _ _ _ _ g7))
    ·intro b hb;simp only [List.mem_singleton] at hb;subst hb;exact ⟨A9 hg hm,L3 hh hg hm⟩
  ·grind
 ·grind
def Mw {lo n:Nat}:∀{vs cZ:List AV} {us:List yd} {hp ai:Hp} {S:Nat->Prop},aJ O m S w hp ct->sM n hp vs=some (cZ,ai)->an O.ae m S w vs us->(∀b,da m hp b->lo<=b)->
  ∃S' bs,(∀b,S b->S' b)/\(∀b,S' b->S b\/da m hp b)/\iv O.ae S' w lo cZ us bs/\bs.Nodup/\(∀b,b∈bs->da m hp b)/\(∀b,S' b->b<w.heap.size)
 | [],cZ,us,hp,ai,S,hh,hf,hv,cd=>by
  obtain ⟨rfl,rfl⟩:=hf;exact ⟨S,[],fun _ h=>h,fun _ h=> .inl h,by simp only [iv];exact ⟨hv,by trivial⟩,by simp,by simp,hh.slt⟩
 | v::r,cZ,us,hp,ai,S,hh,hf,hv,cd=>by
  simp only [sM] at hf
  cases h1:oJ n hp v with
  | none=>simp [h1] at hf
  | some q=>
   obtain ⟨v1,bm⟩:=q;simp only [h1] at hf
   cases h2:sM n bm r with
   | none=>simp [h2] at hf
   | some q2=>
    simp only [h2,yb,yg] at hf;obtain ⟨rfl,rfl⟩:=hf;obtain ⟨u,t,rfl,eO,cT⟩:=hv;obtain ⟨S1,b1,k1,k2,k3,k4,k5,k6,k7⟩:=Nn (lo:=lo) hh h1 eO cd;obtain ⟨S2,b2,g1,g2,g3,g4,g5,g6⟩:=Mw (us:=t) k1 h2 (fb (fun _ _ h=>h) k2 (fun _ _=>rfl) _ _ cT) (fun b hb=>cd b (k7 b hb));have JG:∀b,b∈b1->¬S2 b:=by
     intro b hb hs;rcases g2 b hs with h | h
     ·cases v1 with
      | bX ex sz n cs=>
       simp only [fo] at k4
       grind
      | _=>simp only [fo] at k4;rw [k4.1] at hb;cases hb
     ·grind
    refine ⟨S2,b1++b2,fun b hb=>g1 b (k2 b hb),fun b hb=>?_,?_,?_,?_,g6⟩
    ·grind
    ·simp only [iv];exact ⟨u,t,b1,b2,rfl,rfl,YV g1 JG k4,g3⟩
    ·grind
    ·grind
def Hy {lo:Nat}:∀{cs:List AV} {us:List yd},az cs=true->an O.ae dJ S w cs us->iv O.ae S w lo cs us []
 | [],us,_,h=>by simp only [an] at h;exact ⟨h,by trivial⟩
 | c::r,us,hp,h=>by
  obtain ⟨u,t,rfl,h1,h2⟩:=h;simp only [az,ye] at hp;refine ⟨u,t,[],[],rfl,rfl,?_,Hy hp.2 h2⟩
  cases c with
  | bX _ _ _ _=>simp [aI] at hp
  | _=>exact ⟨rfl,h1,hp.1⟩
def YW {lo:Nat} {v r:AV} {u:yd} (hh:aJ O m S w hp ct) (hr:result hp v=some r) (hv:af O.ae m S w v u) (cd:∀b,da m hp b->lo<=b):
  ∃S',(∀b,S b->S' b)/\(∀b,S' b->S b\/da m hp b)/\(∀b,S' b->b<w.heap.size)/\jQ O.ae S' w lo r u:=by
 unfold result at hr
 split at hr
 ·rename_i vs
  split at hr
  ·cases h1:sM deep hp vs with
   | none=>simp [h1] at hr
   | some q=>
    simp only [h1,yb] at hr;subst hr;obtain ⟨us,rfl,hv⟩:=hv;obtain ⟨S',bs,g1,g2,g3,g4,g5,g6⟩:=Mw (lo:=lo) hh h1 hv cd;exact ⟨S',g1,g2,g6,us,bs,rfl,g3,g4⟩
  ·cases h1:freeze deep hp (.aw vs) with
   | none=>simp [h1] at hr
   | some q=>
    obtain ⟨v',ai⟩:=q;simp only [h1,yb] at hr;subst hr;obtain ⟨S',g1,g2,g3,g4,g5,g6⟩:=Mv (lo:=lo) hh h1 hv;refine ⟨S',g2,g3,g1.slt,?_⟩
    cases v' with
    | aw cs=>
     obtain ⟨xs,rfl,g5⟩:=g5;exact ⟨xs,[],rfl,Hy (by simpa [aI] using g4) g5,by simp⟩
    | _=>exact ⟨[],g6⟩
 ·rename_i hnt
  cases h1:oJ deep hp v with
  | none=>simp [h1] at hr
  | some q=>
   obtain ⟨v',ai⟩:=q;simp only [h1,yb] at hr;subst hr;obtain ⟨S',bs,g1,g2,g3,g4,_⟩:=Nn (lo:=lo) hh h1 hv cd;refine ⟨S',g2,g3,g1.slt,?_⟩
   cases v' with
   | aw cs=>
    obtain ⟨rfl,h2,h3⟩:=g4;obtain ⟨xs,rfl,h2⟩:=h2;exact ⟨xs,[],rfl,Hy (by simpa [aI] using h3) h2,by simp⟩
   | _=>exact ⟨bs,g4⟩
end
end
section
open Go
def WF (ro:Option Nat):Fence:={Fence.wide with round:=ro}
section
variable {O:a8}
def PP (O:a8) (hp:Hp) (ct:Nat) (l:Nat) (xs:List AV) (v:AV) (ai:Hp) (aO:Nat):Prop:=
 ∀(m:Mp) (S:Nat->Prop) (w:yf) (args:Array yd) (p:Pl),aJ O m S w hp ct->m l=some p->an O.ae m S w xs args.toList->
  ∃f tmps assign body,(Instr.yield p.b args).run O.P w= .ok (.round p.b f tmps assign body) w/\tH Fence.wide 0 O.P p.b f tmps assign body w (oC O m S w hp ct v ai aO)
structure jI (O:a8) (run:b9):Prop where
 pure:∀n ap r,b5 O.prog O.aK run n ap=some r->dQ O n ap r
 heap:∀hp ct n ap v ai aO,fK O.prog O.aK run hp ct n ap=some (v,ai,aO)->qX O n hp ct ap v ai aO
 round:∀hp ct l xs v ai aO,fV run hp ct l xs=some (v,ai,aO)->PP O hp ct l xs v ai aO
end
section
variable {P:yJ} {o:yI} {a:Act} {w:yf} {ro:Option Nat} {next:Act->yf->Prop} {Q:vQ->Act->yf->Prop}
def Du {c:th} {f:y8} (ho:o.op= .call c) (hc:c.callee= .value f) {g:uE} {fi ca:Array yd} (hf:a.eval f= .func (.func g) fi ca) {R:vU->yf->Prop}
  (h:oH P g (fi++c.args.map a.eval++ca) w R) (hn:∀e w',R e w'->∃u,e= .returned u/\next (a.put o.dst u) w'):o.wpIn (WF ro) 0 P a w next Q:=by
 have eM:(o.semAt ro a.eval).run P w=(callFunc g (fi++c.args.map a.eval++ca)).run P w:=by
  rw [Oper.semAt_eq _ _ _ (fun c' h'=>by rw [ho] at h';cases h')];simp only [execOp,ho,resolve,hc,Deferred.ofValue,hf,Sem.run_bind,Sem.run_pure,Result.andThen_ok,invoke]
 refine ⟨fun _ _=>trivial,?_⟩;show o.uponIn (WF ro) 0 P a next Q ((o.semAt ro a.eval).run P w)
 rw [eM];rcases h with ⟨h1,h2⟩ | ⟨u,w',h1,h2⟩
 ·rw [h1,Oper.uponIn_enter];refine ⟨fun h=>by simp [WF,Fence.wide] at h,?_⟩;have h3:CallsIn (WF ro) 0 P g (fi++c.args.map a.eval++ca) w R:=h2;refine CallsIn.mono h3 (fun e w' he=>?_);obtain ⟨u,rfl,hq⟩:=hn e w' he;exact hq
 ·rw [h1];obtain ⟨u',e,hq⟩:=hn _ _ h2;injection e with e
  subst e;exact hq
def aaH {c:th} {f:y8} (ho:o.op= .call c) (hc:c.callee= .value f) {l:Nat} (hf:a.eval f= .func (.yield l) #[] #[]) {R:vU->yf->Prop} {g:uE} {tmps:Array yd} {assign body:Code}
  (hy:(Instr.yield l (c.args.map a.eval)).run P w= .ok (.round l g tmps assign body) w) (h:tH Fence.wide 0 P l g tmps assign body w R) (hn:∀e w',R e w'->∃u,e= .returned u/\next (a.put o.dst u) w'):o.wpIn (WF ro) 0 P a w next Q:=by
 have eM:(o.semAt ro a.eval).run P w= .ok (.round l g tmps assign body) w:=by
  rw [Oper.semAt_eq _ _ _ (fun c' h'=>by rw [ho] at h';cases h')];simp only [execOp,ho,resolve,hc,Deferred.ofValue,hf,Sem.run_bind,Sem.run_pure,Result.andThen_ok,invoke,Array.empty_append];exact hy
 refine ⟨fun _ _=>trivial,?_⟩;show o.uponIn (WF ro) 0 P a next Q ((o.semAt ro a.eval).run P w)
 rw [eM,Oper.uponIn_round];refine ⟨fun h=>by simp [WF,Fence.wide] at h,?_⟩;have h3:tH (WF ro) 0 P l g tmps assign body w R:=h;refine RoundIn.mono h3 (fun e w' he=>?_);obtain ⟨u,rfl,hq⟩:=hn e w' he;exact hq
def Em {n:Next} {u:yd} {w':yf} (hd:∀c,o.op≠.defer c) (h:(execOp a.eval o).run P w= .ok n w') (hn:n= .value u\/(n= .skip/\u=undef)) (hq:next (a.put o.dst u) w'):o.wpIn (WF ro) 0 P a w next Q:=by
 refine ⟨fun _ _=>trivial,?_⟩;show o.uponIn (WF ro) 0 P a next Q ((o.semAt ro a.eval).run P w)
 rw [Oper.semAt_eq _ _ _ hd,h];rcases hn with rfl | ⟨rfl,rfl⟩
 ·exact hq
 ·exact hq
end
def nM (P:yJ) (H:Hint) (q:Op) (o:yI):Prop:=
 (∃k,q=aW P H k o)\/(∃c f rs,o.op= .call c/\c.callee= .value f/\q= .fg rs (aH H f) (eW H c.args.toList))\/
  ∃t x y sz rs,o.op= .store t x y/\bU P t=some sz/\q= .gZ rs sz (aH H x) (aH H y)
def jv:Op->Op
 | .fg _ f xs=> .fg [] f xs
 | .gZ _ s x v=> .st s x v
 | o=>o
section
variable {O:a8} {H:Hint} {m:Mp} {S:Nat->Prop} {w:yf} {tm:Env} {a:Act} {hp:Hp} {ct:Nat} {self:b9} {ro:Option Nat} {next:Act->yf->Prop} {Q:vQ->Act->yf->Prop}
def Ed {o:yI} {k:Nat} {md:Md} {x:X} {xs:List X} (h:aW O.P H k o= .call md x xs) (hb:x≠.c .undef):∃c f,o.op= .call c/\c.callee= .value f/\x=aH H f/\xs=eW H c.args.toList:=by
 have nb:bad= .call md x xs->False:=fun h=>by simp only [bad,Op.call.injEq] at h;exact hb h.2.1.symm
 cases ho:o.op with
 | call c=>
  obtain ⟨callee,args,ts⟩:=c;simp only [aW,ho] at h
  split at h
  ·rename_i f;cases hm:H.mode k<;>simp only [hm,Op.call.injEq,reduceCtorEq] at h
   all_goals exact ⟨_,f,rfl,rfl,h.2.1.symm,h.2.2.symm⟩
  ·repeat' split at h
   all_goals first
    | exact (nb h).elim
    | (cases h;done)
    | (revert h;generalize yk _ _=bb;intro h;cases bb<;>first | exact (nb h).elim | (cases h;done))
  ·exact (nb h).elim
 | binOp op t x' y ty=>
  cases op<;>simp only [aW,ho,mj,nl] at h
  case eql=>
        repeat' split at h
        all_goals first
         | exact (nb h).elim
         | (cases h;done)
         | (cases db:(O.P.stoodInHeld t||O.P.eqGuardType O.P.depth t)<;>rw [db] at h<;>first | exact (nb h).elim | (cases h;done))
  case neq=>
        repeat' split at h
        all_goals first
         | exact (nb h).elim
         | (cases h;done)
         | (cases db:(O.P.stoodInHeld t||O.P.eqGuardType O.P.depth t)<;>rw [db] at h<;>first | exact (nb h).elim | (cases h;done))
  all_goals cases h
 | buildSlice t n parts=>
  simp only [aW,ho] at h
  repeat' split at h
  all_goals first
   | exact (nb h).elim
   | (cases h;done)
   | (revert h;generalize Nat.ble _ _=bb;intro h;cases bb<;>first | exact (nb h).elim | (simp only [yi] at h;cases h;done))
 | makeMap t r=>
  cases r<;>simp only [aW,ho] at h
  ·repeat' split at h
   all_goals first
    | exact (nb h).elim
    | (cases h;done)
  ·exact (nb h).elim
 | next x' b=>
  cases b<;>simp only [aW,ho] at h
  ·exact (nb h).elim
  ·cases h
 | _=>
  simp only [aW,ho] at h
  (repeat' split at h)
  all_goals first
   | contradiction
   | exact (nb h).elim
   | (cases h;done)
def X1 {o:yI} {k:Nat} {r:AV×Hp×Nat} (hv:aZ O.prog O.aK self tm hp ct (aW O.P H k o)=some r):∀c,o.op≠.defer c:=by
 intro c ho;simp [aW,ho,bad,aZ,cK,aq] at hv
end
end
section
open Go
section
variable {O:a8} {H:Hint} {m:Mp} {S:Nat->Prop} {w:yf} {tm:Env} {a:Act} {hp ai Hq:Hp} {ct aO cH:Nat} {self:b9} {ro:Option Nat} {next:Act->yf->Prop} {Q:vQ->Act->yf->Prop}
def YX {g:Go.Obj} {p:Pl} {S':Nat->Prop} {base:Nat} (hh:aJ O m S w Hq cH) (hi:m ct=none) (hb:p.b=w.heap.size) (h1:∀b,S b->S' b) (h2:∀b,S' b->S b\/b=w.heap.size):
  bK m S w Hq (dS m ct p) S' (w.alloc g) Hq base where
 os:=rfl
 tape:=rfl
 output:=rfl
 size:=by simp
 same b hb _:=alloc_old hb
 sub:=h1
 still b hb:=alloc_old (hh.slt b hb)
 new b hb:=(h2 b hb).imp (fun h=>h) (fun h=> .inr (by omega))
 own b hb:=by
  obtain ⟨i,o,q,g1,g2,g3⟩:=hb;by_cases hc:i=ct
  ·subst hc;rw [de] at g2
   grind
  ·rw [dd hc] at g2;exact .inl ⟨i,o,q,g1,g2,g3⟩
 old i q _ h:=ic hi i q h
 loops b r hb:=⟨r,(alloc_old (y5.1 hb).1).trans hb⟩
def L4 {EI ap:List AV} {us:List yd} {bm:Hp} (hz:bS deep hp EI=some (ap,bm)) (hl:cr bm Hq) (hh:aJ O m S w Hq cH) (hr:an O.ae m S w EI us):an O.ae dJ S w ap us/\az ap=true:=by
 obtain ⟨_,_,h3⟩:=G9 (O:=O) hz;obtain ⟨k1,k2⟩:=h3 Hq m S w cH hl hh;exact ⟨nh (fun _ h=>h) (fun _ _=>rfl) _ _ k2 (k1 us hr),k2⟩
def IA (hh:aJ O m S w Hq cH):oS O w:=⟨hh.iK,hh.eK⟩
def DU (hH:dY O H) (ht:bM O m S w tm a.tmps) {f:y8} {g:Nat} {first cap:List AV} {args:Array y8} (hf:aq tm (aH H f)= .fn (.f g) first cap):
  ∃fi ca:Array yd,a.eval f= .func (.func (O.ae g)) fi ca/\an O.ae m S w (first++(cA tm (eW H args.toList)++cap)) (fi++args.map a.eval++ca).toList:=by
 have rf:=bQ hH ht f;rw [hf] at rf;obtain ⟨fi,ca,h1,h2,h3⟩:=rf;refine ⟨fi,ca,h1,?_⟩
 have:=iS h2 (iS (qF hH ht args.toList) h3)
 simp_all
def X2 (hC:jI O self) (hH:dY O H) {o:yI} {c:th} {f:y8} (ho:o.op= .call c) (fH:c.callee= .value f) {g:Nat} {first cap ap:List AV} {bm:Hp} {r:AV}
  (hf:aq tm (aH H f)= .fn (.f g) first cap) (hz:bS deep hp (first++(cA tm (eW H c.args.toList)++cap))=some (ap,bm)) (hr:b5 O.prog O.aK self g ap=some r)
  (hl:cr bm Hq) (ht:bM O m S w tm a.tmps) (hh:aJ O m S w Hq cH)
  (hn:∀u S' w',aJ O m S' w' Hq cH->af O.ae m S' w' (shut r) u->bK m S w Hq m S' w' Hq cH->next (a.put o.dst u) w'):o.wpIn (WF ro) 0 O.P a w next Q:=by
 obtain ⟨fi,ca,h1,h2⟩:=DU hH ht (args:=c.args) hf;obtain ⟨h3,h4⟩:=L4 hz hl hh h2;refine Du ho fH h1 (hC.pure g ap r hr w S _ (IA hh) hh.slt h3 h4) ?_;rintro e w' ⟨u,S',rfl,hw,g1,g2,g3,g4⟩;refine ⟨u,rfl,?_⟩;obtain ⟨S2,k1,k2,k3⟩:=Nj g4 m;have hS:∀b,S b->S2 b:=fun b hb=>k1 b (g1 b hb)
 have CF:∀b,S2 b->S b\/w.heap.size<=b:=fun b hb=>(k2 b hb).elim (g2 b) (fun h=> .inr h.1)
 have hl:∀b,S2 b->b<w'.heap.size:=fun b hb=>(k2 b hb).elim (g3 b) (fun h=>h.2)
 exact hn u S2 w' (AO hh hw hS CF hl) k3 (AW hh hw hS CF)
def YY (hC:jI O self) (hH:dY O H) {o:yI} {c:th} {f:y8} (ho:o.op= .call c) (fH:c.callee= .value f) {g:Nat} {first cap ap:List AV} {bm:Hp} {r:AV}
  (hf:aq tm (aH H f)= .fn (.f g) first cap) (hz:bS deep hp (first++(cA tm (eW H c.args.toList)++cap))=some (ap,bm)) (hr:b5 O.prog O.aK self g ap=some r)
  (hl:cr (own bm ct r).2.1 Hq) (eN:(own bm ct r).2.2<=cH) (aV:∀id o,ak hp id=some o->id<ct) (zS:∀id,ct<=id->id<(own bm ct r).2.2->m id=none)
  (ht:bM O m S w tm a.tmps) (hh:aJ O m S w Hq cH)
  (hn:∀u m' S' w',aJ O m' S' w' Hq cH->cE m m'->(∀id p,m' id=some p->m id=some p\/(ct<=id/\id<(own bm ct r).2.2))->af O.ae m' S' w' (own bm ct r).1 u->bK m S w Hq m' S' w' Hq cH->next (a.put o.dst u) w'):
  o.wpIn (WF ro) 0 O.P a w next Q:=by
 obtain ⟨fi,ca,h1,h2⟩:=DU hH ht (args:=c.args) hf;obtain ⟨z1,z2,z3⟩:=G9 (O:=O) hz;have JH:∀id o,ak bm id=some o->id<ct:=fun id o h=>by
  have:=z2 id
  rw [h] at this
  cases hq:ak hp id with
  | none=>rw [hq] at this;cases this
  | some q=>exact aV id q hq
 have aeS:∀id o,ak bm id=some o->ak (own bm ct r).2.1 id=some o:=fun id o h=>by
  cases r with
  | aw vs=>exact Ec JH id o h
  | _=>exact Iz JH id o h
 have kP:cr bm Hq:=fun id o h=>hl id o (aeS id o h)
 obtain ⟨h3,h4⟩:=L4 hz kP hh h2;refine Du ho fH h1 (hC.pure g ap r hr w S _ (IA hh) hh.slt h3 h4) ?_;rintro e w' ⟨u,S',rfl,hw,g1,g2,g3,g4⟩;refine ⟨u,rfl,?_⟩;have pN:=AO hh hw g1 g2 g3;have pG:=AW (base:=cH) hh hw g1 g2;obtain ⟨m',S2,k1,k2,k3,k4,k5,k6⟩:=aeR (lo:=w.heap.size) pN hl eN JH zS g4 hh.eK (fun j q hq=>hh.blt j q hq);refine hn u m' S2 w' k1 k2 (fun id p h=>(k3 id p h).imp (fun h=>h) (fun h=>⟨h.1,h.2.1⟩)) k4 ⟨hw.os,hw.tape,hw.output,hw.size,fun b hb _=>hw.same b hb,fun b hb=>k5 b (g1 b hb),fun b hb=>hw.same b (hh.slt b hb),?_,?_,fun i q _ h=>k2 i q h,pG.loops⟩
 ·grind
 ·rintro b ⟨i,ob,q,q1,q2,q3⟩;rcases k3 i q q2 with h | h
  ·exact .inl ⟨i,ob,q,q1,h,q3⟩
  ·grind
def quiet_step (hC:jI O self) (hH:dY O H) {o:yI} {q:Op} {v:AV} (hk:bh q<=1) (hq:nM O.P H q o) (hd:∀c,o.op≠.defer c) (hv:aZ O.prog O.aK self tm hp ct q=some (v,ai,aO)) (hl:cr ai Hq) (eN:aO<=cH)
  (aV:∀id o,ak hp id=some o->id<ct) (zS:∀id,ct<=id->id<aO->m id=none) (ht:bM O m S w tm a.tmps) (hh:aJ O m S w Hq cH)
  (hn:∀u m' S' w',aJ O m' S' w' Hq cH->cE m m'->(∀id p,m' id=some p->m id=some p\/(ct<=id/\id<aO))->af O.ae m' S' w' v u->bK m S w Hq m' S' w' Hq cH->next (a.put o.dst u) w'):
  o.wpIn (WF ro) 0 O.P a w next Q:=by
 have gL:∃k,q=aW O.P H k o:=by
  rcases hq with h | ⟨c,f,rs,_,_,rfl⟩ | ⟨_,_,_,_,_,_,_,rfl⟩
  ·grind
  ·simp [bh] at hk
  ·simp [bh] at hk
 obtain ⟨k,hq⟩:=gL;have read:∀{v:AV},bf tm hp q=some v->cr hp Hq->(∀u m' S' w',aJ O m' S' w' Hq cH->cE m m'->(∀id p,m' id=some p->m id=some p\/(ct<=id/\id<aO))->af O.ae m' S' w' v u->bK m S w Hq m' S' w' Hq cH->next (a.put o.dst u) w')->o.wpIn (WF ro) 0 O.P a w next Q:=by
  intro v hr hl hn;have dG:=YR hl hr;rw [hq] at dG;obtain ⟨u,h1,h2⟩:=OW hH ht hh dG;exact Em hd h1 (.inl rfl) (hn u m S w hh cE.refl (fun _ _ h=> .inl h) h2 bK.refl)
 have makes:∀{v:AV} {b:Obj},b6 tm hp ct q=some (v,b)->cr ((ct,b)::hp) Hq->ct+1<=cH->m ct=none->(∀u m' S' w',aJ O m' S' w' Hq cH->cE m m'->(∀id p,m' id=some p->m id=some p\/(ct<=id/\id<ct+1))->af O.ae m' S' w' v u->bK m S w Hq m' S' w' Hq cH->next (a.put o.dst u) w')->o.wpIn (WF ro) 0 O.P a w next Q:=by
  intro v b hr hl hc hi hn;rw [hq] at hr;have dG:b6 tm Hq ct (aW O.P H k o)=some (v,b):=by rw [<-hr];exact AA (fun _ _=>rfl)
  obtain ⟨u,g,p,h1,h2,h3,h4⟩:=acI hH ht hh dG;obtain ⟨S',k1,k2,k3⟩:=N1 (i:=ct) (g:=g) (p:=p) hh hi hc h2 (fun o' jz=>by
   obtain ⟨Vf,g1,g2⟩:=hl ct b (by rw [fc];simp)
   rw [jz] at g1;injection g1 with g1
   subst g1
   have:=L0 g2 de (h4 _ (ic hi) de).1 h3
   rwa [h2] at this)
  refine Em hd h1 (.inl rfl) (hn u _ S' _ k1 (ic hi) (fun id q hq=>?_) (iU (fun _ _ h=>h) k2 (fun _ _=>rfl) _ _ (h4 _ (ic hi) de).2) (YX hh hi h2 k2 k3));by_cases hc:id=ct
  ·grind
  ·rw [dd hc] at hq;exact .inl hq
 have b7:∀{q:Op},(match b6 tm hp ct q with | some (v,b)=>some (v,(ct,b)::hp,ct+1) | none=>(none:eF))=some (v,ai,aO)->∃b,b6 tm hp ct q=some (v,b)/\ai=(ct,b)::hp/\aO=ct+1:=by
  intro q h
  cases hm:b6 tm hp ct q with
  | none=>simp [hm] at h
  | some r=>
   grind
 have gN:∀{q:Op},(match bf tm hp q with | some v=>some (v,hp,ct) | none=>(none:eF))=some (v,ai,aO)->bf tm hp q=some v/\ai=hp/\aO=ct:=by
  intro q h
  cases hm:bf tm hp q with
  | none=>simp [hm] at h
  | some r=>
   grind
 have Ba:(∃b,b6 tm hp ct q=some (v,b)/\ai=(ct,b)::hp/\aO=ct+1)->o.wpIn (WF ro) 0 O.P a w next Q:=by
  grind
 have aeT:(bf tm hp q=some v/\ai=hp/\aO=ct)->o.wpIn (WF ro) 0 O.P a w next Q:=by
  grind
 cases q with
 | st _ _ _=>simp [bh] at hk
 | kK _ _ _ _=>simp [bh] at hk
 | kM _=>simp [bh] at hk
 | cy _ _ _ _=>simp [bh] at hk
 | kN _ _ _=>simp [bh] at hk
 | fg _ _ _=>simp [bh] at hk
 | gZ _ _ _ _=>simp [bh] at hk
 | box s x=>exact Ba (b7 (by simp only [aZ] at hv;exact hv))
 | bw n s z ps=>exact Ba (b7 (by simp only [aZ] at hv;exact hv))
 | eY s b z x y=>exact Ba (b7 (by simp only [aZ] at hv;exact hv))
 | nV=>exact Ba (b7 (by simp only [aZ] at hv;exact hv))
 | kL x=>exact Ba (b7 (by simp only [aZ] at hv;exact hv))
 | call md x xs=>
  cases md with
  | heap=>simp [bh] at hk
  | dyn=>simp [bh] at hk
  | pure=>
   simp only [aZ,cK] at hv
   split at hv
   ·rename_i g first cap hx
    (try simp only at hv)
    cases hz:bS deep hp (first++(cA tm xs++cap)) with
    | none=>simp [hz] at hv
    | some z=>
     obtain ⟨ap,bm⟩:=z;simp only [hz] at hv
     cases hr:b5 O.prog O.aK self g ap with
     | none=>simp [hr] at hv
     | some r=>
      simp only [hr,yb,yg] at hv;obtain ⟨rfl,rfl,rfl⟩:=hv;obtain ⟨c,f,ho,fH,rfl,rfl⟩:=Ed hq.symm (by rintro rfl;simp [aq] at hx);exact X2 hC hH ho fH hx hz hr hl ht hh (fun u S' w' h1 h2 h3=>hn u m S' w' h1 cE.refl (fun _ _ h=> .inl h) h2 h3)
   ·simp at hv
   ·cases hv
  | own=>
   simp only [aZ,cK] at hv
   split at hv
   ·rename_i g first cap hx
    (try simp only at hv)
    cases hz:bS deep hp (first++(cA tm xs++cap)) with
    | none=>simp [hz] at hv
    | some z=>
     obtain ⟨ap,bm⟩:=z;simp only [hz] at hv
     cases hr:b5 O.prog O.aK self g ap with
     | none=>simp [hr] at hv
     | some r=>
      simp only [hr,yb] at hv;obtain ⟨c,f,ho,fH,rfl,rfl⟩:=Ed hq.symm (by rintro rfl;simp [aq] at hx);have e1:v=(own bm ct r).1:=by rw [hv]
      have e2:ai=(own bm ct r).2.1:=by rw [hv]
      have e3:aO=(own bm ct r).2.2:=by rw [hv]
      subst e1;subst e2;subst e3;exact YY hC hH ho fH hx hz hr hl eN aV zS ht hh hn
   ·simp at hv
   ·cases hv
 | _=>exact aeT (gN (by simp only [aZ] at hv;exact hv))
end
end
end VE
