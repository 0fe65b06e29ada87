import Derived.RangeFuncLeaves
import Derived.Test.YtflgmingejdfnaaGreatDoorUad
set_option linter.all false
set_option maxRecDepth 100000
open Array renaming getElem?_eq_some_iff→xy
open Bool renaming and_eq_true→yg
open Go renaming Call→yar,Ending→uU,Exit→uQ,FuncId→tQ,Oper→yY,Operand→xB,Program→y7,RoundIn→yaH,Value→yf,World→yh
open Nat renaming beq→yx,blt→yJ,eq_of_beq_eq_true→yo,le_refl→yB,le_trans→xp,lt_of_lt_of_le→yL
open Option.some renaming injEq→yc
open Prod.mk renaming injEq→yk
namespace VE
section
open Go
structure Calm (w w':yh):Prop where
 os:w'.os=w.os
 tape:w'.tape=w.tape
 output:w'.output=w.output
 size:w.heap.size<=w'.heap.size
 same:∀b,b<w.heap.size->w'.heap[b]? =w.heap[b]?
def Calm.refl {w:yh}:Calm w w:=⟨rfl,rfl,rfl,yB _,fun _ _=>rfl⟩
def Calm.trans {w w' EF:yh} (h:Calm w w') (k:Calm w' EF):Calm w EF:=
 ⟨k.os.trans h.os,k.tape.trans h.tape,k.output.trans h.output,xp h.size k.size,fun b hb=>(k.same b (yL hb h.size)).trans (h.same b hb)⟩
def Ch (O:bD) (w:yh):Prop:=(∀b,b<O.w0.heap.size->w.heap[b]? =O.w0.heap[b]?)/\O.w0.heap.size<=w.heap.size
def fE:Mp:=fun _=>none
def iI (ai:Nat->Nat) (S:Nat->Prop) (w:yh) (lo:Nat):AV->yf->List Nat->Prop
 | .cR ex sz n cs,u,bs=>∃b o c arr t,bs=[b]/\u= .slice (some ⟨b,o,none⟩) n c/\n<=c/\(ex=true->c=n)/\lo<=b/\¬S b/\w.heap[b]? =some (.cells arr t (0,0))/\cs.length=n*sz/\
   o+c*sz<=arr.size/\ck ai fE S w cs b o/\aK cs=true
 | r,u,bs=>bs=[]/\aj ai fE S w r u/\aS r=true
def mb (ai:Nat->Nat) (S:Nat->Prop) (w:yh) (lo:Nat):List AV->List yf->List Nat->Prop
 | [],us,bs=>us=[]/\bs=[]
 | v::r,us,bs=>∃u t b1 b2,us=u::t/\bs=b1++b2/\iI ai S w lo v u b1/\mb ai S w lo r t b2
def oQ (ai:Nat->Nat) (S:Nat->Prop) (w:yh) (lo:Nat) (r:AV) (u:yf):Prop:=
 match r with
 | .aw vs=>∃(us:Array yf) (bs:List Nat),u= .tuple us/\mb ai S w lo vs us.toList bs/\bs.Nodup
 | r=>∃bs,iI ai S w lo r u bs
def BY (P:y7) (f:tQ) (args:Array yf) (w:yh) (R:uU->yh->Prop):Prop:=
 ((callFunc f args).run P w= .ok (.enter f args) w/\CallsIn Fence.wide 0 P f args w R)\/∃u w',(callFunc f args).run P w= .ok (.value u) w'/\R (.returned u) w'
def abX (O:bD) (w:yh) (S:Nat->Prop) (r:AV) (e:uU) (w':yh):Prop:=
 ∃u S',e= .returned u/\Calm w w'/\(∀b,S b->S' b)/\(∀b,S' b->S b\/w.heap.size<=b)/\(∀b,S' b->b<w'.heap.size)/\oQ O.ai S' w' w.heap.size r u
def eX (O:bD) (n:Nat) (vals:List AV) (r:AV):Prop:=
 ∀(w:yh) (S:Nat->Prop) (args:Array yf),Ch O w->(∀b,S b->b<w.heap.size)->au O.ai fE S w vals args.toList->aK vals=true->
  BY O.P (O.ai n) args w (abX O w S r)
def Ae (O:bD) (m:Mp) (S:Nat->Prop) (w:yh) (hp:Hp) (ct:Nat) (v:AV) (ao:Hp) (bj:Nat) (e:uU) (w':yh):Prop:=
 ∃u m' S',e= .returned u/\bg O m' S' w' ao bj/\ct<=bj/\aj O.ai m' S' w' v u/\cG m S w hp m' S' w' ao ct
def Ci (O:bD) (n:Nat) (hp:Hp) (ct:Nat) (vals:List AV) (v:AV) (ao:Hp) (bj:Nat):Prop:=
 ∀(m:Mp) (S:Nat->Prop) (w:yh) (args:Array yf),bg O m S w hp ct->au O.ai m S w vals args.toList->BY O.P (O.ai n) args w (Ae O m S w hp ct v ao bj)
section
variable {ai:Nat->Nat} {m m':Mp} {S S':Nat->Prop} {w w':yh}
mutual
def ri (hS:∀b,S b->S' b) (hw:gI S w w'):∀(v:AV) (u:yf),aS v=true->aj ai m S w v u->aj ai m' S' w' v u
 | .int _ _,_,_,h | .bool _,_,_,h | .dP _ _,_,_,h | .str _,_,_,h | .lm,_,_,h | .ae,_,_,h | .iH,_,_,h | .kF,_,_,h | .undef,_,_,h=>by
  simpa only [aj] using h
 | .ptr id o,u,hp,h=>by simp [aS] at hp
 | .bi cs,u,hp,h=>by
  simp only [aj] at h ⊢;obtain ⟨b,o,h1,h2,h3,h4⟩:=h;refine ⟨b,o,h1,h2.imp id (hS b),h3,?_⟩;rcases h2 with rfl | h2
  ·simp only [ck]
  ·exact Sa hS hw cs b o h3 h2 h4
 | .aO ex n cs,u,hp,h=>by
  simp only [aj] at h ⊢;rcases h with ⟨b,o,c,h1,h2,h3,h4,h5,h6⟩ | h
  ·refine .inl ⟨b,o,c,h1,h2,h3,h4.imp id (hS b),h5,?_⟩;rcases h4 with rfl | h4
   ·simp only [ck]
   ·exact Sa hS hw cs b o h5 h4 h6
  ·exact .inr h
 | .cR _ _ _ _,u,hp,h=>by simp [aS] at hp
 | .ak id o n,u,hp,h=>by simp [aS] at hp
 | .fn (.f g) first cap,u,hp,h=>by
  simp only [aj] at h ⊢;simp only [aS,yg] at hp;obtain ⟨fi,ca,h1,h2,h3⟩:=h;exact ⟨fi,ca,h1,Ab hS hw first _ hp.1 h2,Ab hS hw cap _ hp.2 h3⟩
 | .fn (.y l) _ _,u,hp,h=>by simp [aS] at hp
 | .map id,u,hp,h=>by simp [aS] at hp
 | .jS ks vs,u,hp,h=>by
  simp only [aj] at h ⊢;obtain ⟨b,es,clock,h1,h2,h3,h4,h5,h6,h7⟩:=h;exact ⟨b,es,clock,h1,hS b h2,h3,h4,(hw b h2).trans h5,Ab hS hw ks _ h3 h6,Ab hS hw vs _ h4 h7⟩
 | .it id,u,hp,h=>by simp [aS] at hp
 | .agg cs,u,hp,h=>by
  simp only [aj] at h ⊢;simp only [aS] at hp;obtain ⟨xs,h1,h2⟩:=h;exact ⟨xs,h1,Ab hS hw cs _ hp h2⟩
 | .aw cs,u,hp,h=>by
  simp only [aj] at h ⊢;simp only [aS] at hp;obtain ⟨xs,h1,h2⟩:=h;exact ⟨xs,h1,Ab hS hw cs _ hp h2⟩
def Ab (hS:∀b,S b->S' b) (hw:gI S w w'):∀(vs:List AV) (us:List yf),aK vs=true->au ai m S w vs us->au ai m' S' w' vs us
 | [],us,_,h=>by simpa only [au] using h
 | v::r,us,hp,h=>by
  simp only [au] at h ⊢;simp only [aK,yg] at hp;obtain ⟨u,t,h1,h2,h3⟩:=h;exact ⟨u,t,h1,ri hS hw v u hp.1 h2,Ab hS hw r t hp.2 h3⟩
def Sa (hS:∀b,S b->S' b) (hw:gI S w w'):∀(cs:List AV) (b o:Nat),aK cs=true->S b->ck ai m S w cs b o->ck ai m' S' w' cs b o
 | [],_,_,_,_,_=>by simp only [ck]
 | c::cs,b,o,hp,hb,h=>by
  simp only [ck] at h ⊢;simp only [aK,yg] at hp;obtain ⟨⟨u,h1,h2⟩,h3⟩:=h;exact ⟨⟨u,(MS (hw b hb)).trans h1,ri hS hw c u hp.1 h2⟩,Sa hS hw cs b (o+1) hp.2 hb h3⟩
end
def Dv (hS:∀b,S b->S' b) (hw:gI S w w'):∀(cs:List AV) (b o:Nat),aK cs=true->w'.heap[b]? =w.heap[b]? ->ck ai m S w cs b o->ck ai m' S' w' cs b o
 | [],_,_,_,_,_=>by simp only [ck]
 | c::cs,b,o,hp,hb,h=>by
  simp only [aK,yg] at hp;obtain ⟨⟨u,h1,h2⟩,h3⟩:=h;exact ⟨⟨u,(MS hb).trans h1,ri hS hw c u hp.1 h2⟩,Dv hS hw cs b (o+1) hp.2 hb h3⟩
end
section
variable {O:bD} {m:Mp} {S S':Nat->Prop} {w w':yh} {hp:Hp} {ct:Nat}
def amc (hh:bg O m S w hp ct) (hw:Calm w w'):gI S w w':=fun b hb=>hw.same b (hh.slt b hb)
def Fw (hh:bg O m S w hp ct) (hw:Calm w w') (hS:∀b,S b->S' b) (hn:∀b,S' b->S b\/w.heap.size<=b) (hl:∀b,S' b->b<w'.heap.size):bg O m S' w' hp ct where
 obj id o p ho hm:=sI (fun _ _ h=>h) hS (amc hh hw) (fun q hq=>hw.same _ (hh.blt id q hq)) (fun q hq hs=>(hn _ hs).resolve_right (by have:=hh.blt id q hq;omega)) (hh.obj id o p ho hm)
 lt:=hh.lt
 inj:=hh.inj
 slt:=hl
 blt id p h:=yL (hh.blt id p h) hw.size
 low:=hh.low
 mG b hb:=(hw.same b (yL hb hh.gK)).trans (hh.mG b hb)
 gK:=xp hh.gK hw.size
 bm:=hh.bm
def Dz {base:Nat} (hh:bg O m S w hp ct) (hw:Calm w w') (hS:∀b,S b->S' b) (hn:∀b,S' b->S b\/w.heap.size<=b):cG m S w hp m S' w' hp base where
 os:=hw.os
 tape:=hw.tape
 output:=hw.output
 size:=hw.size
 same b hb _:=hw.same b hb
 sub:=hS
 still b hb:=hw.same b (hh.slt b hb)
 new b hb:=(hn b hb).imp id .inr
 own b hb:= .inl hb
 old _ _ _ h:=h
 loops b r hb:=⟨r,(hw.same b (xy.1 hb).1).trans hb⟩
def an9 {i:Nat} (hh:bg O m S w hp ct) (hi:m i=none) (Hg:i<ct) {p:Pl} (hb:p.b<w.heap.size) (bt:O.w0.heap.size<=p.b) (Hi:¬S p.b) (pg:∀j q,m j=some q->q.b≠p.b)
  (hf:∀o,ap hp i=some o->(fV O (fX m i p) S w i o/\¬jL o)\/(jL o/\fV O (fX m i p) (fun b=>S b\/b=p.b) w i o)):
  ∃S',bg O (fX m i p) S' w hp ct/\(∀b,S b->S' b)/\∀b,S' b->S b\/b=p.b:=by
 have bh:gI S w w:=fun _ _=>rfl
 have gen:∀S':Nat->Prop,(∀b,S b->S' b)->(∀b,S' b->S b\/b=p.b)->(∀o,ap hp i=some o->fV O (fX m i p) S' w i o)->bg O (fX m i p) S' w hp ct:=by
  intro S' h1 h2 h3;refine ⟨?_,?_,?_,?_,?_,?_,hh.mG,hh.gK,hh.bm⟩
  ·intro id o q ho hm;by_cases hc:id=i
   ·grind
   ·rw [eS hc] at hm;refine sI (lK hi) h1 bh (fun _ _=>rfl) (fun q' cz hs=>?_) (hh.obj id o q ho hm)
    grind
  ·intro id q hm;by_cases hc:id=i
   ·grind
   ·rw [eS hc] at hm;exact hh.lt id q hm
  ·intro a b oa ob pa pb ha dl EI AR e;by_cases ca:a=i
   ·by_cases cb:b=i
    ·grind
    ·subst ca;rw [eT] at EI;rw [eS cb] at AR
     grind
   ·rw [eS ca] at EI;by_cases cb:b=i
    ·subst cb;rw [eT] at AR
     grind
    ·rw [eS cb] at AR;exact hh.inj a b oa ob pa pb ha dl EI AR e
  ·intro b hs;rcases h2 b hs with h | h
   ·exact hh.slt b h
   ·grind
  ·intro id q hm;by_cases hc:id=i
   ·subst hc;rw [eT] at hm
    grind
   ·rw [eS hc] at hm;exact hh.blt id q hm
  ·intro id q hm;by_cases hc:id=i
   ·subst hc;rw [eT] at hm
    grind
   ·rw [eS hc] at hm;exact hh.low id q hm
 cases ho:ap hp i with
 | none=>exact ⟨S,gen S (fun _ h=>h) (fun _ h=> .inl h) (fun o h=>by rw [ho] at h;cases h),fun _ h=>h,fun _ h=> .inl h⟩
 | some o=>
  rcases hf o ho with ⟨h1,_⟩ | ⟨_,h1⟩
  ·exact ⟨S,gen S (fun _ h=>h) (fun _ h=> .inl h) (fun o' h=>by rw [ho] at h;injection h with h;subst h;exact h1),fun _ h=>h,fun _ h=> .inl h⟩
  ·exact ⟨_,gen (fun b=>S b\/b=p.b) (fun _ h=> .inl h) (fun _ h=>h) (fun o' h=>by rw [ho] at h;injection h with h;subst h;exact h1),fun _ h=> .inl h,fun _ h=>h⟩
def aaV {ai:Nat->Nat} {lo:Nat} {r:AV} {u:yf} {bs:List Nat} (h:iI ai S w lo r u bs) (m:Mp) (hS:∀b,S b->S' b) (hbs:∀b,b∈bs->S' b):aj ai m S' w (bN r) u:=by
 have bh:gI S w w:=fun _ _=>rfl
 cases r with
 | cR ex sz n cs=>
  obtain ⟨b,o,c,arr,t,rfl,rfl,h1,h2,h3,h4,h5,h6,h7,h8,h9⟩:=h;exact .inl ⟨b,o,c,rfl,h1,h2,.inr (hbs b (by simp)),h9,Dv hS bh cs b o h9 rfl h8⟩
 | _=>simp only [iI] at h;exact ri hS bh _ _ h.2.2 h.2.1
def aaW {ai:Nat->Nat} {lo:Nat} (m:Mp) (hS:∀b,S b->S' b):∀{vs:List AV} {us:List yf} {bs:List Nat},mb ai S w lo vs us bs->(∀b,b∈bs->S' b)->au ai m S' w (D0 vs) us
 | [],us,bs,h,_=>by simp only [mb] at h;exact h.1
 | v::r,us,bs,h,hb=>by
  obtain ⟨u,t,b1,b2,rfl,rfl,h1,h2⟩:=h;exact ⟨u,t,rfl,aaV h1 m hS (fun b dl=>hb b (by simp [dl])),aaW m hS h2 (fun b dl=>hb b (by simp [dl]))⟩
def TG {ai:Nat->Nat} {lo:Nat} {r:AV} {u:yf} {bs:List Nat} (h:iI ai S w lo r u bs):∀b,b∈bs->lo<=b/\b<w.heap.size:=by
 intro b hb
 cases r with
 | cR ex sz n cs=>
  simp only [iI] at h
  grind
 | _=>simp only [iI] at h;rw [h.1] at hb;cases hb
def TH {ai:Nat->Nat} {lo:Nat}:∀{vs:List AV} {us:List yf} {bs:List Nat},mb ai S w lo vs us bs->∀b,b∈bs->lo<=b/\b<w.heap.size
 | [],us,bs,h,b,hb=>by simp only [mb] at h;rw [h.2] at hb;cases hb
 | v::r,us,bs,h,b,hb=>by
  obtain ⟨u,t,b1,b2,rfl,rfl,h1,h2⟩:=h;rcases List.mem_append.1 hb with hb | hb
  ·exact TG h1 b hb
  ·exact TH h2 b hb
def aaX {ai:Nat->Nat} {lo:Nat} {r:AV} {u:yf} (h:oQ ai S w lo r u) (m:Mp):∃S',(∀b,S b->S' b)/\(∀b,S' b->S b\/(lo<=b/\b<w.heap.size))/\aj ai m S' w (shut r) u:=by
 have one:∀(r:AV) (bs:List Nat),shut r=bN r->iI ai S w lo r u bs->∃S',(∀b,S b->S' b)/\(∀b,S' b->S b\/(lo<=b/\b<w.heap.size))/\aj ai m S' w (shut r) u:=by
  intro r bs hs h;refine ⟨fun b=>S b\/b∈bs,fun _ h=> .inl h,fun b hb=>hb.imp (fun x=>x) (fun hb=>TG h b hb),?_⟩;rw [hs];exact aaV h m (fun _ h=> .inl h) (fun _ h=> .inr h)
 cases r with
 | aw vs=>
  obtain ⟨us,bs,rfl,h1,h2⟩:=h;refine ⟨fun b=>S b\/b∈bs,fun _ h=> .inl h,fun b hb=>hb.imp (fun x=>x) (fun hb=>TH h1 b hb),?_⟩;exact ⟨us,rfl,aaW m (fun _ h=> .inl h) h1 (fun _ h=> .inr h)⟩
 | _=>
  obtain ⟨bs,h⟩:=h;exact one _ bs rfl h
end
end
section
open Go
section
variable {O:bD} {m:Mp} {S:Nat->Prop} {w:yh} {H:Hp} {cH:Nat}
def N4 {hp:Hp} {ct:Nat} {r:AV}:ct<=(fO hp ct r).2.2:=by
 cases r<;>simp only [fO]<;>omega
def N5:∀{vs:List AV} {hp:Hp} {ct:Nat},ct<=(kG hp ct vs).2.2
 | [],hp,ct=>by simp [kG]
 | v::r,hp,ct=>by
  simp only [kG];have h1:=N4 (hp:=hp) (ct:=ct) (r:=v);have h2:=N5 (vs:=r) (hp:=(fO hp ct v).2.1) (ct:=(fO hp ct v).2.2);omega
def TI {hp:Hp} {ct:Nat} {r:AV} (hf:∀id o,ap hp id=some o->id<ct):∀id o,ap hp id=some o->ap (fO hp ct r).2.1 id=some o:=by
 intro id o h;cases r<;>simp only [fO]<;>try exact h
 rw [iC,yr (by have:=hf id o h;omega)];exact h
def ada {hp:Hp} {ct lo:Nat} {r:AV} {u:yf} {bs:List Nat} (hh:bg O m S w H cH) (hl:dN (fO hp ct r).2.1 H) (fI:(fO hp ct r).2.2<=cH) (hn:∀id,ct<=id->id<(fO hp ct r).2.2->m id=none)
  (hr:iI O.ai S w lo r u bs) (bt:O.w0.heap.size<=lo) (pg:∀j q,m j=some q->q.b∉bs):
  ∃m' S',bg O m' S' w H cH/\dW m m'/\(∀id p,m' id=some p->m id=some p\/(ct<=id/\id<(fO hp ct r).2.2/\p.b∈bs))/\aj O.ai m' S' w (fO hp ct r).1 u/\(∀b,S b->S' b)/\(∀b,S' b->S b\/b∈bs):=by
 have bh:gI S w w:=fun _ _=>rfl
 cases r with
 | cR ex sz n cs=>
  simp only [fO] at hl fI hn;obtain ⟨b,o,c,arr,t,rfl,rfl,h1,h2,h3,h4,h5,h6,h7,h8,h9⟩:=hr;have bX:m ct=none:=hn ct (yB _) (Nat.lt_succ_self _);have aw4:b<w.heap.size:=(xy.1 h5).1;have pf:fV O (fX m ct ⟨b,o,c*sz,sz⟩) S w ct (.cells true true ex sz cs):=by
   refine ⟨_,arr,t,eT,h5,rfl,?_,h7,fun hx=>?_,Dv (fun _ h=>h) bh cs b o h9 rfl h8,fun _=>h9,fun _=>h4,by simp⟩
   ·show cs.length<=c*sz
    rw [h6];exact Nat.mul_le_mul_right _ h1
   ·grind
  obtain ⟨S',k1,k2,k3⟩:=an9 (p:=⟨b,o,c*sz,sz⟩) hh bX (by omega) aw4 (by show _<=b;omega) h4 (fun j q hq e=>pg j q hq (by rw [e];simp)) (fun o' ml=>by
   obtain ⟨o'',g1,g2⟩:=hl ct (.cells true true ex sz cs) (by rw [iC];simp)
   rw [ml] at g1;injection g1 with g1
   subst g1
   exact ZF (p:=⟨b,o,c*sz,sz⟩) g2 eT pf (by simp [jL]))
  refine ⟨_,S',k1,lK bX,fun id p ao=>?_,?_,k2,fun b' dl=>(k3 b' dl).imp (fun h=>h) (fun h=>by rw [h];simp)⟩
  ·by_cases hc:id=ct
   ·subst hc;rw [eT] at ao;injection ao with ao
    subst ao;exact .inr ⟨yB _,by simp [fO],by simp⟩
   ·rw [eS hc] at ao;exact .inl ao
  ·simp only [fO,aj];exact ⟨_,c,eT,by simp,h1,by simp⟩
 | _=>
  exact ⟨m,S,hh,dW.refl,fun _ _ h=> .inl h,ri (fun _ h=>h) bh _ _ hr.2.2 hr.2.1,fun _ h=>h,fun _ h=> .inl h⟩
def JD {hp:Hp} {ct:Nat} {r:AV} (hf:∀id o,ap hp id=some o->id<ct):∀id o,ap (fO hp ct r).2.1 id=some o->id<(fO hp ct r).2.2:=by
 intro id o h;cases r<;>simp only [fO] at h ⊢<;>try exact hf id o h
 rw [iC] at h
 grind
def N6:∀{vs:List AV} {hp:Hp} {ct:Nat},(∀id o,ap hp id=some o->id<ct)->∀id o,ap hp id=some o->ap (kG hp ct vs).2.1 id=some o
 | [],hp,ct,_,id,o,h=>by simpa [kG] using h
 | v::r,hp,ct,hf,id,o,h=>by
  exact N6 (JD hf) id o (TI hf id o h)
def adb {lo:Nat} (bt:O.w0.heap.size<=lo):∀{vs:List AV} {us:List yf} {bs:List Nat} {hp:Hp} {ct:Nat} {m:Mp} {S:Nat->Prop},bg O m S w H cH->dN (kG hp ct vs).2.1 H->(kG hp ct vs).2.2<=cH->
  (∀id o,ap hp id=some o->id<ct)->(∀id,ct<=id->id<(kG hp ct vs).2.2->m id=none)->
  mb O.ai S w lo vs us bs->bs.Nodup->(∀j q,m j=some q->q.b∉bs)->
  ∃m' S',bg O m' S' w H cH/\dW m m'/\(∀id p,m' id=some p->m id=some p\/(ct<=id/\id<(kG hp ct vs).2.2/\p.b∈bs))/\au O.ai m' S' w (kG hp ct vs).1 us/\(∀b,S b->S' b)/\(∀b,S' b->S b\/b∈bs)
 | [],us,bs,hp,ct,m,S,hh,hl,fI,hf,hn,hr,mo,pg=>by
  simp only [mb] at hr;exact ⟨m,S,hh,dW.refl,fun _ _ h=> .inl h,by simp only [kG,au];exact hr.1,fun _ h=>h,fun _ h=> .inl h⟩
 | v::r,us,bs,hp,ct,m,S,hh,hl,fI,hf,hn,hr,mo,pg=>by
  simp only [mb] at hr;obtain ⟨u,t,b1,b2,rfl,rfl,h1,h2⟩:=hr;simp only [kG] at hl fI hn ⊢;have eR:=N4 (hp:=hp) (ct:=ct) (r:=v);have zP:=N5 (vs:=r) (hp:=(fO hp ct v).2.1) (ct:=(fO hp ct v).2.2);rw [List.nodup_append] at mo;obtain ⟨m1,S1,k1,k2,k3,k4,k5,k6⟩:=ada (hp:=hp) (ct:=ct) (lo:=lo) hh ((fun id o h=>hl id o (N6 (JD hf) id o h))) (by omega) (fun id g1 g2=>hn id g1 (by omega)) h1 bt
   (fun j q hq hb=>pg j q hq (by simp [hb]))
  have W4:mb O.ai S1 w lo r t b2:=by
   clear k4;have Vp:∀b,S1 b->S b\/b∈b1:=k6;have hd:∀b,b∈b2->b∉b1:=fun b hb jY=>mo.2.2 b jY b hb rfl
   have one:∀{v:AV} {u:yf} {bb:List Nat},(∀b,b∈bb->b∉b1)->iI O.ai S w lo v u bb->iI O.ai S1 w lo v u bb:=by
    intro v u bb zK h
    cases v with
    | cR ex sz n cs=>
     simp only [iI] at h ⊢;obtain ⟨b,o,c,arr,tt,rfl,rfl,g1,g2,g3,g4,g5,g6,g7,g8,g9⟩:=h;exact ⟨b,o,c,arr,tt,rfl,rfl,g1,g2,g3,fun hs=>(Vp b hs).elim g4 (zK b (by simp)),g5,g6,g7,Dv k5 (fun _ _=>rfl) cs b o g9 rfl g8,g9⟩
    | _=>simp only [iI] at h ⊢;exact ⟨h.1,ri k5 (fun _ _=>rfl) _ _ h.2.2 h.2.1,h.2.2⟩
   clear k1 k2 k3 hl fI hn pg mo;revert hd h2;generalize b2=bb
   induction r generalizing t bb with
   | nil=>intro h2 hd;simpa only [mb] using h2
   | cons v' r ih=>
    intro h2 hd;simp only [mb] at h2 ⊢;obtain ⟨u',t',c1,c2,rfl,rfl,g1,g2⟩:=h2
    exact ⟨u',t',c1,c2,rfl,rfl,one (fun b hb=>hd b (by simp [hb])) g1,ih _ (by
     have:=N5 (vs:=r) (hp:=(fO hp ct v).2.1) (ct:=(fO hp ct v).2.2)
     exact this) _ g2 (fun b hb=>hd b (by simp [hb]))⟩
  obtain ⟨m2,S2,g1,g2,g3,g4,g5,g6⟩:=adb bt (vs:=r) (us:=t) (bs:=b2) (m:=m1) (S:=S1) k1 hl fI (JD hf) (fun id q1 q2=>by
   cases hq:m1 id with
   | none=>rfl
   | some p=>
    rcases k3 id p hq with h | ⟨_,h,_⟩
    ·rw [hn id (by omega) q2] at h;cases h
    ·omega) W4 mo.2.1 (fun j q hq hb=>by
     rcases k3 j q hq with h | ⟨_,_,h⟩
     ·exact pg j q h (by simp [hb])
     ·exact mo.2.2 q.b h q.b hb rfl)
  refine ⟨m2,S2,g1,k2.trans g2,fun id p ao=>?_,?_,fun b hb=>g5 b (k5 b hb),fun b hb=>?_⟩
  ·rcases g3 id p ao with h | ⟨a1,a2,a3⟩
   ·rcases k3 id p h with h | ⟨a1,a2,a3⟩
    ·exact .inl h
    ·exact .inr ⟨a1,by omega,by simp [a3]⟩
   ·exact .inr ⟨by omega,a2,by simp [a3]⟩
  ·simp only [au];exact ⟨u,t,rfl,mY g2 g5 (fun _ _=>rfl) _ _ k4,g4⟩
  ·rcases g6 b hb with h | h
   ·exact (k6 b h).imp (fun h=>h) (fun h=>by simp [h])
   ·exact .inr (by simp [h])
def asL {hp:Hp} {ct lo:Nat} {r:AV} {u:yf} (hh:bg O m S w H cH) (hl:dN (own hp ct r).2.1 H) (fI:(own hp ct r).2.2<=cH) (hf:∀id o,ap hp id=some o->id<ct)
  (hn:∀id,ct<=id->id<(own hp ct r).2.2->m id=none) (hr:oQ O.ai S w lo r u) (bt:O.w0.heap.size<=lo) (LJ:∀j q,m j=some q->q.b<lo):
  ∃m' S',bg O m' S' w H cH/\dW m m'/\(∀id p,m' id=some p->m id=some p\/(ct<=id/\id<(own hp ct r).2.2/\lo<=p.b))/\aj O.ai m' S' w (own hp ct r).1 u/\(∀b,S b->S' b)/\(∀b,S' b->S b\/lo<=b):=by
 have one:∀(r:AV) (bs:List Nat),own hp ct r=fO hp ct r->iI O.ai S w lo r u bs->dN (own hp ct r).2.1 H->(own hp ct r).2.2<=cH->(∀id,ct<=id->id<(own hp ct r).2.2->m id=none)->
   ∃m' S',bg O m' S' w H cH/\dW m m'/\(∀id p,m' id=some p->m id=some p\/(ct<=id/\id<(own hp ct r).2.2/\lo<=p.b))/\aj O.ai m' S' w (own hp ct r).1 u/\(∀b,S b->S' b)/\(∀b,S' b->S b\/lo<=b):=by
  intro r bs he hr hl fI hn;rw [he] at hl fI hn ⊢;have Eg:=TG hr;obtain ⟨m',S',k1,k2,k3,k4,k5,k6⟩:=ada hh hl fI hn hr bt (fun j q hq hb=>by have:=LJ j q hq;have:=(Eg _ hb).1;omega)
  exact ⟨m',S',k1,k2,fun id p h=>(k3 id p h).imp (fun h=>h) (fun h=>⟨h.1,h.2.1,(Eg _ h.2.2).1⟩),k4,k5,fun b hb=>(k6 b hb).imp (fun h=>h) (fun h=>(Eg _ h).1)⟩
 cases r with
 | aw vs=>
  simp only [own] at hl fI hn ⊢;simp only [oQ] at hr;obtain ⟨us,bs,rfl,h1,h2⟩:=hr;have Eg:=TH h1;obtain ⟨m',S',k1,k2,k3,k4,k5,k6⟩:=adb bt hh hl fI hf hn h1 h2 (fun j q hq hb=>by have:=LJ j q hq;have:=(Eg _ hb).1;omega)
  exact ⟨m',S',k1,k2,fun id p h=>(k3 id p h).imp (fun h=>h) (fun h=>⟨h.1,h.2.1,(Eg _ h.2.2).1⟩),by simp only [aj];exact ⟨us,rfl,k4⟩,k5,fun b hb=>(k6 b hb).imp (fun h=>h) (fun h=>(Eg _ h).1)⟩
 | _=>
  simp only [oQ] at hr;obtain ⟨bs,hr⟩:=hr;exact one _ bs rfl hr hl fI hn
end
end
section
open Go
section
variable {O:bD} {m m':Mp} {S:Nat->Prop} {w:yh} {f:Nat->Option Nat}
def Gq (f:Nat->Option Nat) (m m':Mp):Prop:=∀id j,f id=some j->m' j=m id
mutual
def ade {ai:Nat->Nat} (hf:Gq f m m'):∀(v:AV) (u:yf),aj ai m S w v u->aj ai m' S w (cE f v) u
 | .int _ _,_,h | .bool _,_,h | .dP _ _,_,h | .str _,_,h | .lm,_,h | .ae,_,h | .iH,_,h | .kF,_,h | .undef,_,h=>by
  simpa only [cE,aj] using h
 | .ptr id o,u,h=>by
  simp only [cE]
  cases hi:f id with
  | none=>simp only [aj]
  | some j=>
   simp only [aj] at h ⊢;rw [hf id j hi];exact h
 | .bi cs,u,h=>by
  simp only [cE];exact ri (fun _ h=>h) (fun _ _=>rfl) _ _ (by simp [aS]) h
 | .aO ex n cs,u,h=>by
  simp only [cE];exact ri (fun _ h=>h) (fun _ _=>rfl) _ _ (by simp [aS]) h
 | .cR _ _ _ _,u,h=>by simp only [aj] at h
 | .ak id o n,u,h=>by
  simp only [cE]
  cases hi:f id with
  | none=>simp only [aj]
  | some j=>
   simp only [aj] at h ⊢;rw [hf id j hi];exact h
 | .fn (.f g) first cap,u,h=>by
  simp only [cE,aj] at h ⊢;obtain ⟨fi,ca,h1,h2,h3⟩:=h;exact ⟨fi,ca,h1,BR hf first _ h2,BR hf cap _ h3⟩
 | .fn (.y l) first cap,u,h=>by
  simp only [cE]
  cases hi:f l with
  | none=>simp only [aj]
  | some j=>
   simp only [aj] at h ⊢;rw [hf l j hi];exact h
 | .map id,u,h=>by
  simp only [cE]
  cases hi:f id with
  | none=>simp only [aj]
  | some j=>
   simp only [aj] at h ⊢;rw [hf id j hi];exact h
 | .jS ks vs,u,h=>by
  simp only [cE];exact ri (fun _ h=>h) (fun _ _=>rfl) _ _ (by simp [aS]) h
 | .it id,u,h=>by
  simp only [cE]
  cases hi:f id with
  | none=>simp only [aj]
  | some j=>
   simp only [aj] at h ⊢;rw [hf id j hi];exact h
 | .agg cs,u,h=>by
  simp only [cE,aj] at h ⊢;obtain ⟨xs,h1,h2⟩:=h;exact ⟨xs,h1,BR hf cs _ h2⟩
 | .aw cs,u,h=>by
  simp only [cE,aj] at h ⊢;obtain ⟨xs,h1,h2⟩:=h;exact ⟨xs,h1,BR hf cs _ h2⟩
def BR {ai:Nat->Nat} (hf:Gq f m m'):∀(vs:List AV) (us:List yf),au ai m S w vs us->au ai m' S w (gm f vs) us
 | [],us,h=>by simpa only [gm,au] using h
 | v::r,us,h=>by
  simp only [gm,au] at h ⊢;obtain ⟨u,t,h1,h2,h3⟩:=h;exact ⟨u,t,h1,ade hf v u h2,BR hf r t h3⟩
end
def amd {ai:Nat->Nat} (hf:Gq f m m') {cs:List AV} {b o:Nat} (h:ck ai m S w cs b o):ck ai m' S w (gm f cs) b o:=by
 obtain ⟨us,h1,_,h3⟩:=Aa cs b o h;exact FA _ us o (BR hf cs us h1) h3
def S4:∀cs:List AV,(gm f cs).length=cs.length
 | []=>rfl
 | c::r=>by simp [gm,S4 r]
def abY:∀(tm:Env) (i:Nat),ab (ma f tm) i=cE f (ab tm i)
 | [],i=>by simp [ma,ab,cE]
 | (j,v)::r,i=>by
  simp only [ma,ab]
  cases yx j i with
  | true=>rfl
  | false=>exact abY r i
def aaY (tm:Env) (i:Nat):∀live:List Nat,ab (dE tm live) i=ab tm i\/ab (dE tm live) i= .undef
 | []=> .inr rfl
 | j::r=>by
  simp only [dE,ab]
  cases hb:yx j i with
  | true=>rw [yo hb];exact .inl rfl
  | false=>exact aaY tm i r
def abZ {tm:Env} {tmps:Array yf} (hf:Gq f m m') (h:cF O m S w tm tmps):cF O m' S w (ma f tm) tmps:=fun i=>by
 rw [abY];exact ade hf _ _ (h i)
def aoa {id j:Nat} {o:Obj} {p:Pl} (hf:Gq f m m') (hm:m id=some p) (hj:m' j=some p) (h:fV O m S w id o):fV O m' S w j (mE f o):=by
 cases o with
 | cells rw pu ex sz cs=>
  obtain ⟨q,arr,t,h1,h2,h3,h4,h5,h6,h7,h8,h9,iy⟩:=h;rw [hm] at h1;injection h1 with h1;subst h1
  cases pu with
  | true=>exact ⟨p,arr,t,hj,h2,h3,h4,h5,h6,Dv (fun _ h=>h) (fun _ _=>rfl) _ _ _ (h8 rfl) rfl h7,h8,h9,iy⟩
  | false=>exact ⟨p,arr,t,hj,h2,h3,by rw [yD,S4];exact h4,h5,by rw [yD,S4];exact h6,amd hf h7,by simp,h9,iy⟩
 | mp rw ks vs=>
  obtain ⟨q,es,clock,h1,h2,h3,h4,h5,h6⟩:=h;rw [hm] at h1;injection h1 with h1;subst h1
  exact ⟨p,es,clock,hj,h2,BR hf _ _ h3,BR hf _ _ h4,h5,h6⟩
 | si s pos=>
  obtain ⟨q,t,h1,h2,h3,h4⟩:=h;rw [hm] at h1;injection h1 with h1;subst h1
  exact ⟨p,t,hj,h2,h3,h4⟩
 | lp tm ps as_ body st pe=>
  obtain ⟨q,l,hi,h1,h2,h3,h4,h5,h6,h7,h8⟩:=h;rw [hm] at h1;injection h1 with h1;subst h1
  exact ⟨p,l,hi,hj,h2,h3,h4,h5,h6,abZ hf h7,h8⟩
def aaZ {i:Nat}:∀{l:List Nat} {k j:Nat},ns i l k=some j->k<=j/\l[j-k]? =some i
 | [],k,j,h=>by simp [ns] at h
 | x::r,k,j,h=>by
  simp only [ns] at h
  cases hb:yx x i with
  | true=>
   simp_all
  | false=>
   rw [hb] at h;obtain ⟨h1,h2⟩:=aaZ h
   grind
def An {a b:Nat}:yJ a b=true↔a<b:=by simp_all
def M4 {hp:Hp} {j:Nat} {o':Obj}:∀{l:List Nat} {k:Nat} {acc:Hp},ap (lR hp f l k acc) j=some o'->
  (∃i id o,l[i]? =some id/\j=k+i/\ap hp id=some o/\o'=mE f o)\/ap acc j=some o'
 | [],k,acc,h=> .inr h
 | x::r,k,acc,h=>by
  simp only [lR] at h
  cases hx:ap hp x with
  | none=>
   simp only [hx] at h;rcases M4 h with ⟨i,id,o,h1,h2,h3,h4⟩ | h
   ·exact .inl ⟨i+1,id,o,by simpa using h1,by omega,h3,h4⟩
   ·grind
  | some o=>
   simp only [hx] at h;rcases M4 h with ⟨i,id,o,h1,h2,h3,h4⟩ | h
   ·exact .inl ⟨i+1,id,o,by simpa using h1,by omega,h3,h4⟩
   ·rw [iC] at h;by_cases hc:k=j
    ·simp only [hc,yV,yc] at h;exact .inl ⟨0,x,o,by simp,by omega,hx,h.symm⟩
    ·grind
def M5 {base:Nat} {j:Nat} {o':Obj}:∀{hp:Hp},ap (nj base f hp) j=some o'->j<base/\∃o,ap hp j=some o/\o'=mE f o
 | [],h=>by simp [nj,ap] at h
 | (i,q)::r,h=>by
  simp only [nj] at h
  cases hb:yJ i base with
  | true=>
   rw [hb] at h;simp only [ym] at h;rw [iC] at h;by_cases hc:i=j
   ·simp only [hc,yV,yc] at h;exact ⟨by rw [<-hc];exact An.1 hb,q,by rw [iC];simp [hc],h.symm⟩
   ·simp only [hc,yN] at h;obtain ⟨h1,o,h2,h3⟩:=M5 h;exact ⟨h1,o,by rw [iC];simp [hc,h2],h3⟩
  | false=>
   rw [hb] at h;obtain ⟨h1,o,h2,h3⟩:=M5 h;have hc:¬i=j:=fun e=>by
    have:=An.2 h1
    grind
   exact ⟨h1,o,by rw [iC];simp [hc,h2],h3⟩
def qg (m:Mp) (base:Nat) (seen:List Nat):Mp:=fun j=>
 if j<base then m j else match seen[j-base]? with
  | some id=>if lQ base seen id=some j then m id else none
  | none=>none
def Sz {base:Nat} {seen:List Nat} {j:Nat} {p:Pl} (h:qg m base seen j=some p):∃id,lQ base seen id=some j/\m id=some p/\(j<base->id=j):=by
 unfold qg at h
 split at h
 ·rename_i hj;exact ⟨j,by simp [lQ,An.2 hj],h,fun _=>rfl⟩
 ·grind
def aob {base:Nat} {seen:List Nat}:Gq (lQ base seen) m (qg m base seen):=by
 intro id j h;have h0:=h;unfold lQ at h
 cases hb:yJ id base with
 | true=>
  rw [hb] at h;simp only [ym,yc] at h;subst h;simp [qg,An.1 hb]
 | false=>
  rw [hb] at h;obtain ⟨h1,h2⟩:=aaZ h
  have:¬j<base:=by omega
  simp only [qg,this,yN,h2,h0,yV]
def Sb {s:St} {tmps:Array yf} {live:List Nat} (ht:cF O m S w s.tm tmps) (hh:bg O m S w s.hp s.ct) (hb:s.base<=s.ct):
  ∃m',cF O m' S w (bA live s).tm tmps/\bg O m' S w (bA live s).hp (bA live s).ct/\(bA live s).base=s.base/\s.base<=(bA live s).ct/\cG m S w s.hp m' S w (bA live s).hp s.base:=by
 simp only [bA];generalize agj:reach s.hp s.base 100000 (fo (dE s.tm live)++dC s.base s.hp) []=seen;have hr:=aob (m:=m) (base:=s.base) (seen:=seen);have bm:∀j p,qg m s.base seen j=some p->j<s.base+seen.length:=by
  intro j p h;unfold qg at h
  grind
 have back:∀j o' p,ap (lR s.hp (lQ s.base seen) seen s.base (nj s.base (lQ s.base seen) s.hp)) j=some o'->qg m s.base seen j=some p->
   ∃id o,lQ s.base seen id=some j/\ap s.hp id=some o/\m id=some p/\o'=mE (lQ s.base seen) o:=by
  intro j o' p ho hm;obtain ⟨id,h1,h2,h3⟩:=Sz hm;rcases M4 ho with ⟨i,W5,o,g1,g2,g3,g4⟩ | ho
  ·have hj:¬j<s.base:=by omega
   have:qg m s.base seen j=if lQ s.base seen W5=some j then m W5 else none:=by
    simp only [qg,hj,yN,show j-s.base=i by omega,g1]
   grind
  ·obtain ⟨g1,o,g2,g3⟩:=M5 ho
   grind
 refine ⟨qg m s.base seen,?_,⟨?_,bm,?_,hh.slt,?_,?_,hh.mG,hh.gK,fun j o' ho=>(by
  rcases M4 ho with ⟨i,W5,o,g1,g2,g3,g4⟩ | ho
  ·grind
  ·have:=(M5 ho).1;omega)⟩,by trivial,by omega,⟨rfl,rfl,rfl,yB _,fun _ _ _=>rfl,fun _ h=>h,fun _ _=>rfl,fun _ h=> .inl h,?_,?_,fun _ r h=>⟨r,h⟩⟩⟩
 ·refine abZ hr (fun i=>?_);rcases aaY s.tm i live with h | h
  ·rw [h];exact ht i
  ·rw [h];simp only [aj]
 ·intro j o' p ho hm;obtain ⟨id,o,h1,h2,h3,rfl⟩:=back j o' p ho hm;exact aoa hr h3 hm (hh.obj id o p h2 h3)
 ·intro i j oi oj pi pj hi hj bX gT e;obtain ⟨idi,o1,a1,a2,a3,_⟩:=back i oi pi hi bX;obtain ⟨idj,o2,b1,b2,b3,_⟩:=back j oj pj hj gT
  have:=hh.inj idi idj o1 o2 pi pj a2 b2 a3 b3 e
  grind
 ·intro j p hm;obtain ⟨id,_,h2,_⟩:=Sz hm;exact hh.blt id p h2
 ·intro j p hm;obtain ⟨id,_,h2,_⟩:=Sz hm;exact hh.low id p h2
 ·rintro b ⟨j,o',p,h1,h2,h3⟩;obtain ⟨id,o,_,g2,g3,_⟩:=back j o' p h1 h2;exact .inl ⟨id,o,p,g2,g3,h3⟩
 ·intro id p hid hm;simp [qg,hid,hm]
end
end
section
open Go
section
variable {O:bD} {m:Mp} {S:Nat->Prop} {w:yh} {hp:Hp} {ct:Nat}
def ab0 (hh:bg O m S w hp ct) (id:Nat):bg O m S w (dL hp id) ct:=by
 have sub:∀i o,ap (dL hp id) i=some o->ap hp i=some o:=fun i o h=>by
  rw [Jl] at h
  grind
 exact ⟨fun i o p h hm=>hh.obj i o p (sub i o h) hm,hh.lt,fun i j oi oj pi pj hi hj=>hh.inj i j oi oj pi pj (sub i oi hi) (sub j oj hj),hh.slt,hh.blt,hh.low,hh.mG,hh.gK,fun i o h=>hh.bm i o (sub i o h)⟩
def adf {id b:Nat} (h:eL m (dL hp id) b):eL m hp b:=by
 obtain ⟨i,o,p,h1,h2,h3⟩:=h;rw [Jl] at h1;by_cases hc:id=i
 ·grind
 ·simp only [hc,yN] at h1;exact ⟨i,o,p,h1,h2,h3⟩
def ZH (hh:bg O m S w hp ct) {id:Nat} {o:Obj} {p:Pl} (hg:ap hp id=some o) (hm:m id=some p):¬eL m (dL hp id) p.b:=by
 rintro ⟨i,o',q,h1,h2,h3⟩;rw [Jl] at h1;by_cases hc:id=i
 ·grind
 ·simp only [hc,yN] at h1;exact hc (hh.inj i id o' o q p h1 hg h2 hm h3).symm
def aqv {ao:Hp} (hd:kT hp ao) {b:Nat} (h:eL m ao b):eL m hp b:=by
 obtain ⟨i,o,p,h1,h2,h3⟩:=h
 have:=hd i
 rw [h1] at this
 cases hq:ap hp i with
 | none=>rw [hq] at this;cases this
 | some q=>exact ⟨i,q,p,hq,h2,h3⟩
def aab {lo:Nat} {v v':AV} {ao:Hp} {n:Nat} (hh:bg O m S w hp ct) (hf:freeze n hp v=some (v',ao)) {u:yf} (hv:aj O.ai m S w v u):
  ∃S',bg O m S' w ao ct/\(∀b,S b->S' b)/\(∀b,S' b->S b\/eL m hp b)/\aS v'=true/\aj O.ai fE S' w v' u/\iI O.ai S' w lo v' u []:=by
 obtain ⟨h1,h2,h3⟩:=Sv (O:=O) hf;obtain ⟨S',g1,g2,g3⟩:=ac4 hh h1 (fun id o p ho hm=>by
  have:=h2 id
  rw [ho] at this
  cases hq:ap hp id with
  | none=>rw [hq] at this;cases this
  | some q=>exact ⟨q,rfl⟩) (yB _) (fun id o ho=>(by
  have:=h2 id
  rw [ho] at this
  cases hq:ap hp id with
  | none=>rw [hq] at this;cases this
  | some q=>exact hh.bm id q hq))
 obtain ⟨k1,k2⟩:=h3 ao m S' w ct dN.refl g1;have hr:=k1 u (mY (fun _ _ h=>h) g2 (fun _ _=>rfl) v u hv);have bW:aj O.ai fE S' w v' u:=ri (fun _ h=>h) (fun _ _=>rfl) v' u k2 hr;refine ⟨S',g1,g2,g3,k2,bW,?_⟩
 cases v' with
 | cR _ _ _ _=>simp [aS] at k2
 | _=>exact ⟨rfl,bW,k2⟩
def ame {S':Nat->Prop} {lo:Nat} {v:AV} {u:yf} {bs:List Nat} (hS:∀b,S b->S' b) (hn:∀b,b∈bs->¬S' b) (h:iI O.ai S w lo v u bs):iI O.ai S' w lo v u bs:=by
 cases v with
 | cR ex sz n cs=>
  obtain ⟨b,o,c,arr,t,rfl,rfl,g1,g2,g3,g4,g5,g6,g7,g8,g9⟩:=h;exact ⟨b,o,c,arr,t,rfl,rfl,g1,g2,g3,hn b (by simp),g5,g6,g7,Dv hS (fun _ _=>rfl) cs b o g9 rfl g8,g9⟩
 | _=>simp only [iI] at h ⊢;exact ⟨h.1,ri hS (fun _ _=>rfl) _ _ h.2.2 h.2.1,h.2.2⟩
def aa0 {lo:Nat} {v v':AV} {ao:Hp} {n:Nat} (hh:bg O m S w hp ct) (hf:pP n hp v=some (v',ao)) {u:yf} (hv:aj O.ai m S w v u) (bt:∀b,eL m hp b->lo<=b):
  ∃S' bs,bg O m S' w ao ct/\(∀b,S b->S' b)/\(∀b,S' b->S b\/eL m hp b)/\iI O.ai S' w lo v' u bs/\bs.Nodup/\(∀b,b∈bs->eL m hp b/\¬eL m ao b)/\(∀b,eL m ao b->eL m hp b):=by
 have frozen:freeze n hp v=some (v',ao)->∃S' bs,bg O m S' w ao ct/\(∀b,S b->S' b)/\(∀b,S' b->S b\/eL m hp b)/\iI O.ai S' w lo v' u bs/\bs.Nodup/\(∀b,b∈bs->eL m hp b/\¬eL m ao b)/\(∀b,eL m ao b->eL m hp b):=by
  intro hz;obtain ⟨S',g1,g2,g3,g4,g5,g6⟩:=aab (lo:=lo) hh hz hv
  exact ⟨S',[],g1,g2,g3,g6,by simp,by simp,fun b hb=>aqv (Sv (O:=O) hz).2.1 hb⟩
 unfold pP at hf
 split at hf
 ·rename_i id o k
  split at hf
  ·rename_i ex sz cs hg
   cases hc:Nat.ble (o+k*sz) cs.length with
   | false=>rw [hc] at hf;cases hf
   | true=>
    rw [hc] at hf;obtain ⟨rfl,rfl⟩:=hf;have hle:=Nat.le_of_ble_eq_true hc;obtain ⟨p,c,hm,rfl,h1,h2⟩:=hv;obtain ⟨p',arr,t,g1,g2,g3,g4,g5,g6,g7,g8,g9,g10⟩:=hh.obj id _ _ hg hm;rw [hm] at g1;injection g1 with g1
    subst g1;rw [g3] at h2;refine ⟨S,[p.b],ab0 hh id,fun _ h=>h,fun _ h=> .inl h,?_,by simp,?_,fun b hb=>adf hb⟩
    ·refine ⟨p.b,p.o+o,c,arr,t,rfl,rfl,h1,?_,bt _ (JQ hg hm),g9 rfl,g2,?_,by omega,?_,Du _ (BL _ _ (g8 rfl))⟩
     ·intro hx;simp only [yg] at hx;have e1:=yo hx.2;have e2:=An.1 hx.1.2;have e3:=g6 hx.1.1
      have:c*sz=k*sz:=by omega
      exact Nat.eq_of_mul_eq_mul_right e2 this
     ·simp only [slice,List.length_take,List.length_drop];omega
     ·exact Dv (fun _ h=>h) (fun _ _=>rfl) _ _ _ (Du _ (BL _ _ (g8 rfl))) rfl (Dw _ _ _ _ (sG _ _ _ _ g7))
    ·intro b hb;simp only [List.mem_singleton] at hb;subst hb;exact ⟨JQ hg hm,ZH hh hg hm⟩
  ·grind
 ·grind
def aac {lo n:Nat}:∀{vs eK:List AV} {us:List yf} {hp ao:Hp} {S:Nat->Prop},bg O m S w hp ct->sP n hp vs=some (eK,ao)->au O.ai m S w vs us->(∀b,eL m hp b->lo<=b)->
  ∃S' bs,(∀b,S b->S' b)/\(∀b,S' b->S b\/eL m hp b)/\mb O.ai S' w lo eK us bs/\bs.Nodup/\(∀b,b∈bs->eL m hp b)/\(∀b,S' b->b<w.heap.size)
 | [],eK,us,hp,ao,S,hh,hf,hv,bt=>by
  obtain ⟨rfl,rfl⟩:=hf;exact ⟨S,[],fun _ h=>h,fun _ h=> .inl h,by simp only [mb];exact ⟨hv,by trivial⟩,by simp,by simp,hh.slt⟩
 | v::r,eK,us,hp,ao,S,hh,hf,hv,bt=>by
  simp only [sP] at hf
  cases h1:pP n hp v with
  | none=>simp [h1] at hf
  | some q=>
   obtain ⟨v1,bI⟩:=q;simp only [h1] at hf
   cases h2:sP n bI r with
   | none=>simp [h2] at hf
   | some q2=>
    simp only [h2,yc,yk] at hf;obtain ⟨rfl,rfl⟩:=hf;obtain ⟨u,t,rfl,eN,di⟩:=hv;obtain ⟨S1,b1,k1,k2,k3,k4,k5,k6,k7⟩:=aa0 (lo:=lo) hh h1 eN bt;obtain ⟨S2,b2,g1,g2,g3,g4,g5,g6⟩:=aac (us:=t) k1 h2 (iB (fun _ _ h=>h) k2 (fun _ _=>rfl) _ _ di) (fun b hb=>bt b (k7 b hb));have Vp:∀b,b∈b1->¬S2 b:=by
     intro b hb hs;rcases g2 b hs with h | h
     ·cases v1 with
      | cR ex sz n cs=>
       simp only [iI] at k4
       grind
      | _=>simp only [iI] at k4;rw [k4.1] at hb;cases hb
     ·grind
    refine ⟨S2,b1++b2,fun b hb=>g1 b (k2 b hb),fun b hb=>?_,?_,?_,?_,g6⟩
    ·grind
    ·simp only [mb];exact ⟨u,t,b1,b2,rfl,rfl,ame g1 Vp k4,g3⟩
    ·grind
    ·grind
def SA {lo:Nat}:∀{cs:List AV} {us:List yf},aK cs=true->au O.ai fE S w cs us->mb O.ai S w lo cs us []
 | [],us,_,h=>by simp only [au] at h;exact ⟨h,by trivial⟩
 | c::r,us,hp,h=>by
  obtain ⟨u,t,rfl,h1,h2⟩:=h;simp only [aK,yg] at hp;refine ⟨u,t,[],[],rfl,rfl,?_,SA hp.2 h2⟩
  cases c with
  | cR _ _ _ _=>simp [aS] at hp
  | _=>exact ⟨rfl,h1,hp.1⟩
def amf {lo:Nat} {v r:AV} {u:yf} (hh:bg O m S w hp ct) (hr:result hp v=some r) (hv:aj O.ai m S w v u) (bt:∀b,eL m hp b->lo<=b):
  ∃S',(∀b,S b->S' b)/\(∀b,S' b->S b\/eL m hp b)/\(∀b,S' b->b<w.heap.size)/\oQ O.ai S' w lo r u:=by
 unfold result at hr
 split at hr
 ·rename_i vs
  split at hr
  ·cases h1:sP deep hp vs with
   | none=>simp [h1] at hr
   | some q=>
    simp only [h1,yc] at hr;subst hr;obtain ⟨us,rfl,hv⟩:=hv;obtain ⟨S',bs,g1,g2,g3,g4,g5,g6⟩:=aac (lo:=lo) hh h1 hv bt;exact ⟨S',g1,g2,g6,us,bs,rfl,g3,g4⟩
  ·cases h1:freeze deep hp (.aw vs) with
   | none=>simp [h1] at hr
   | some q=>
    obtain ⟨v',ao⟩:=q;simp only [h1,yc] at hr;subst hr;obtain ⟨S',g1,g2,g3,g4,g5,g6⟩:=aab (lo:=lo) hh h1 hv;refine ⟨S',g2,g3,g1.slt,?_⟩
    cases v' with
    | aw cs=>
     obtain ⟨xs,rfl,g5⟩:=g5;exact ⟨xs,[],rfl,SA (by simpa [aS] using g4) g5,by simp⟩
    | _=>exact ⟨[],g6⟩
 ·rename_i Qt
  cases h1:pP deep hp v with
  | none=>simp [h1] at hr
  | some q=>
   obtain ⟨v',ao⟩:=q;simp only [h1,yc] at hr;subst hr;obtain ⟨S',bs,g1,g2,g3,g4,_⟩:=aa0 (lo:=lo) hh h1 hv bt;refine ⟨S',g2,g3,g1.slt,?_⟩
   cases v' with
   | aw cs=>
    obtain ⟨rfl,h2,h3⟩:=g4;obtain ⟨xs,rfl,h2⟩:=h2;exact ⟨xs,[],rfl,SA (by simpa [aS] using h3) h2,by simp⟩
   | _=>exact ⟨bs,g4⟩
end
end
section
open Go
def WF (ro:Option Nat):Fence:={Fence.wide with round:=ro}
section
variable {O:bD}
def aes (O:bD) (hp:Hp) (ct:Nat) (l:Nat) (xs:List AV) (v:AV) (ao:Hp) (bj:Nat):Prop:=
 ∀(m:Mp) (S:Nat->Prop) (w:yh) (args:Array yf) (p:Pl),bg O m S w hp ct->m l=some p->au O.ai m S w xs args.toList->
  ∃f tmps assign body,(Instr.yield p.b args).run O.P w= .ok (.round p.b f tmps assign body) w/\yaH Fence.wide 0 O.P p.b f tmps assign body w (Ae O m S w hp ct v ao bj)
structure oG (O:bD) (run:cT):Prop where
 pure:∀n vals r,bY O.prog O.aU run n vals=some r->eX O n vals r
 heap:∀hp ct n vals v ao bj,iS O.prog O.aU run hp ct n vals=some (v,ao,bj)->Ci O n hp ct vals v ao bj
 round:∀hp ct l xs v ao bj,jq run hp ct l xs=some (v,ao,bj)->aes O hp ct l xs v ao bj
end
section
variable {P:y7} {o:yY} {a:Act} {w:yh} {ro:Option Nat} {next:Act->yh->Prop} {Q:uQ->Act->yh->Prop}
def M6 {c:yar} {f:xB} (ho:o.op= .call c) (hc:c.callee= .value f) {g:tQ} {fi ca:Array yf} (hf:a.eval f= .func (.func g) fi ca) {R:uU->yh->Prop}
  (h:BY P g (fi++c.args.map a.eval++ca) w R) (hn:∀e w',R e w'->∃u,e= .returned u/\next (a.put o.dst u) w'):o.wpIn (WF ro) 0 P a w next Q:=by
 have fW:(o.semAt ro a.eval).run P w=(callFunc g (fi++c.args.map a.eval++ca)).run P w:=by
  rw [Oper.semAt_eq _ _ _ (fun c' h'=>by rw [ho] at h';cases h')];simp only [execOp,ho,resolve,hc,Deferred.ofValue,hf,Sem.run_bind,Sem.run_pure,Result.andThen_ok,invoke]
 refine ⟨fun _ _=>trivial,?_⟩;show o.uponIn (WF ro) 0 P a next Q ((o.semAt ro a.eval).run P w)
 rw [fW];rcases h with ⟨h1,h2⟩ | ⟨u,w',h1,h2⟩
 ·rw [h1,Oper.uponIn_enter];refine ⟨fun h=>by simp [WF,Fence.wide] at h,?_⟩;have h3:CallsIn (WF ro) 0 P g (fi++c.args.map a.eval++ca) w R:=h2;refine CallsIn.mono h3 (fun e w' he=>?_);obtain ⟨u,rfl,hq⟩:=hn e w' he;exact hq
 ·rw [h1];obtain ⟨u',e,hq⟩:=hn _ _ h2;injection e with e
  subst e;exact hq
def aoc {c:yar} {f:xB} (ho:o.op= .call c) (hc:c.callee= .value f) {l:Nat} (hf:a.eval f= .func (.yield l) #[] #[]) {R:uU->yh->Prop} {g:tQ} {tmps:Array yf} {assign body:Code}
  (hy:(Instr.yield l (c.args.map a.eval)).run P w= .ok (.round l g tmps assign body) w) (h:yaH Fence.wide 0 P l g tmps assign body w R) (hn:∀e w',R e w'->∃u,e= .returned u/\next (a.put o.dst u) w'):o.wpIn (WF ro) 0 P a w next Q:=by
 have fW:(o.semAt ro a.eval).run P w= .ok (.round l g tmps assign body) w:=by
  rw [Oper.semAt_eq _ _ _ (fun c' h'=>by rw [ho] at h';cases h')];simp only [execOp,ho,resolve,hc,Deferred.ofValue,hf,Sem.run_bind,Sem.run_pure,Result.andThen_ok,invoke,Array.empty_append];exact hy
 refine ⟨fun _ _=>trivial,?_⟩;show o.uponIn (WF ro) 0 P a next Q ((o.semAt ro a.eval).run P w)
 rw [fW,Oper.uponIn_round];refine ⟨fun h=>by simp [WF,Fence.wide] at h,?_⟩;have h3:yaH (WF ro) 0 P l g tmps assign body w R:=h;refine RoundIn.mono h3 (fun e w' he=>?_);obtain ⟨u,rfl,hq⟩:=hn e w' he;exact hq
def Ok {n:Next} {u:yf} {w':yh} (hd:∀c,o.op≠.defer c) (h:(execOp a.eval o).run P w= .ok n w') (hn:n= .value u\/(n= .skip/\u=undef)) (hq:next (a.put o.dst u) w'):o.wpIn (WF ro) 0 P a w next Q:=by
 refine ⟨fun _ _=>trivial,?_⟩;show o.uponIn (WF ro) 0 P a next Q ((o.semAt ro a.eval).run P w)
 rw [Oper.semAt_eq _ _ _ hd,h];rcases hn with rfl | ⟨rfl,rfl⟩
 ·exact hq
 ·exact hq
end
def AS (P:y7) (H:Hint) (q:Op) (o:yY):Prop:=
 (∃k,q=bw P H k o)\/(∃c f rs,o.op= .call c/\c.callee= .value f/\q= .iE rs (aV H f) (ir H c.args.toList))\/
  ∃t x y sz rs,o.op= .store t x y/\da P t=some sz/\q= .jf rs sz (aV H x) (aV H y)
def nZ:Op->Op
 | .iE _ f xs=> .iE [] f xs
 | .jf _ s x v=> .st s x v
 | o=>o
section
variable {O:bD} {H:Hint} {m:Mp} {S:Nat->Prop} {w:yh} {tm:Env} {a:Act} {hp:Hp} {ct:Nat} {self:cT} {ro:Option Nat} {next:Act->yh->Prop} {Q:uQ->Act->yh->Prop}
def N7 {o:yY} {k:Nat} {md:Md} {x:X} {xs:List X} (h:bw O.P H k o= .call md x xs) (hb:x≠.c .undef):∃c f,o.op= .call c/\c.callee= .value f/\x=aV H f/\xs=ir H c.args.toList:=by
 have nb:bad= .call md x xs->False:=fun h=>by simp only [bad,Op.call.injEq] at h;exact hb h.2.1.symm
 cases ho:o.op with
 | call c=>
  obtain ⟨callee,args,ts⟩:=c;simp only [bw,ho] at h
  split at h
  ·rename_i f;cases hm:H.mode k<;>simp only [hm,Op.call.injEq,reduceCtorEq] at h
   all_goals exact ⟨_,f,rfl,rfl,h.2.1.symm,h.2.2.symm⟩
  ·repeat' split at h
   all_goals first
    | exact (nb h).elim
    | (cases h;done)
    | (revert h;generalize yx _ _=bb;intro h;cases bb<;>first | exact (nb h).elim | (cases h;done))
  ·exact (nb h).elim
 | binOp op t x' y ty=>
  cases op<;>simp only [bw,ho,sS,Al] at h
  case eql=>
        repeat' split at h
        all_goals first
         | exact (nb h).elim
         | (cases h;done)
         | (cases dl:(O.P.stoodInHeld t||O.P.eqGuardType O.P.depth t)<;>rw [dl] at h<;>first | exact (nb h).elim | (cases h;done))
  case neq=>
        repeat' split at h
        all_goals first
         | exact (nb h).elim
         | (cases h;done)
         | (cases dl:(O.P.stoodInHeld t||O.P.eqGuardType O.P.depth t)<;>rw [dl] at h<;>first | exact (nb h).elim | (cases h;done))
  all_goals cases h
 | buildSlice t n parts=>
  simp only [bw,ho] at h
  repeat' split at h
  all_goals first
   | exact (nb h).elim
   | (cases h;done)
   | (revert h;generalize Nat.ble _ _=bb;intro h;cases bb<;>first | exact (nb h).elim | (simp only [ym] at h;cases h;done))
 | makeMap t r=>
  cases r<;>simp only [bw,ho] at h
  ·repeat' split at h
   all_goals first
    | exact (nb h).elim
    | (cases h;done)
  ·exact (nb h).elim
 | next x' b=>
  cases b<;>simp only [bw,ho] at h
  ·exact (nb h).elim
  ·cases h
 | _=>
  simp only [bw,ho] at h
  (repeat' split at h)
  all_goals first
   | contradiction
   | exact (nb h).elim
   | (cases h;done)
def ak9 {o:yY} {k:Nat} {r:AV×Hp×Nat} (hv:bC O.prog O.aU self tm hp ct (bw O.P H k o)=some r):∀c,o.op≠.defer c:=by
 intro c ho;simp [bw,ho,bad,bC,dR,aC] at hv
end
end
section
open Go
section
variable {O:bD} {H:Hint} {m:Mp} {S:Nat->Prop} {w:yh} {tm:Env} {a:Act} {hp ao Hq:Hp} {ct bj cH:Nat} {self:cT} {ro:Option Nat} {next:Act->yh->Prop} {Q:uQ->Act->yh->Prop}
def amg {g:Go.Obj} {p:Pl} {S':Nat->Prop} {base:Nat} (hh:bg O m S w Hq cH) (hi:m ct=none) (hb:p.b=w.heap.size) (h1:∀b,S b->S' b) (h2:∀b,S' b->S b\/b=w.heap.size):
  cG m S w Hq (fX m ct p) S' (w.alloc g) Hq base where
 os:=rfl
 tape:=rfl
 output:=rfl
 size:=by simp
 same b hb _:=alloc_old hb
 sub:=h1
 still b hb:=alloc_old (hh.slt b hb)
 new b hb:=(h2 b hb).imp (fun h=>h) (fun h=> .inr (by omega))
 own b hb:=by
  obtain ⟨i,o,q,g1,g2,g3⟩:=hb;by_cases hc:i=ct
  ·subst hc;rw [eT] at g2
   grind
  ·rw [eS hc] at g2;exact .inl ⟨i,o,q,g1,g2,g3⟩
 old i q _ h:=lK hi i q h
 loops b r hb:=⟨r,(alloc_old (xy.1 hb).1).trans hb⟩
def ZI {OE vals:List AV} {us:List yf} {bI:Hp} (hz:cW deep hp OE=some (vals,bI)) (hl:dN bI Hq) (hh:bg O m S w Hq cH) (hr:au O.ai m S w OE us):au O.ai fE S w vals us/\aK vals=true:=by
 obtain ⟨_,_,h3⟩:=R8 (O:=O) hz;obtain ⟨k1,k2⟩:=h3 Hq m S w cH hl hh;exact ⟨Ab (fun _ h=>h) (fun _ _=>rfl) _ _ k2 (k1 us hr),k2⟩
def TJ (hh:bg O m S w Hq cH):Ch O w:=⟨hh.mG,hh.gK⟩
def NG (hH:gl O H) (ht:cF O m S w tm a.tmps) {f:xB} {g:Nat} {first cap:List AV} {args:Array xB} (hf:aC tm (aV H f)= .fn (.f g) first cap):
  ∃fi ca:Array yf,a.eval f= .func (.func (O.ai g)) fi ca/\au O.ai m S w (first++(dS tm (ir H args.toList)++cap)) (fi++args.map a.eval++ca).toList:=by
 have rf:=cQ hH ht f;rw [hf] at rf;obtain ⟨fi,ca,h1,h2,h3⟩:=rf;refine ⟨fi,ca,h1,?_⟩
 have:=mW h2 (mW (DL hH ht args.toList) h3)
 simp_all
def ala (hC:oG O self) (hH:gl O H) {o:yY} {c:yar} {f:xB} (ho:o.op= .call c) (ji:c.callee= .value f) {g:Nat} {first cap vals:List AV} {bI:Hp} {r:AV}
  (hf:aC tm (aV H f)= .fn (.f g) first cap) (hz:cW deep hp (first++(dS tm (ir H c.args.toList)++cap))=some (vals,bI)) (hr:bY O.prog O.aU self g vals=some r)
  (hl:dN bI Hq) (ht:cF O m S w tm a.tmps) (hh:bg O m S w Hq cH)
  (hn:∀u S' w',bg O m S' w' Hq cH->aj O.ai m S' w' (shut r) u->cG m S w Hq m S' w' Hq cH->next (a.put o.dst u) w'):o.wpIn (WF ro) 0 O.P a w next Q:=by
 obtain ⟨fi,ca,h1,h2⟩:=NG hH ht (args:=c.args) hf;obtain ⟨h3,h4⟩:=ZI hz hl hh h2;refine M6 ho ji h1 (hC.pure g vals r hr w S _ (TJ hh) hh.slt h3 h4) ?_;rintro e w' ⟨u,S',rfl,hw,g1,g2,g3,g4⟩;refine ⟨u,rfl,?_⟩;obtain ⟨S2,k1,k2,k3⟩:=aaX g4 m;have hS:∀b,S b->S2 b:=fun b hb=>k1 b (g1 b hb)
 have LM:∀b,S2 b->S b\/w.heap.size<=b:=fun b hb=>(k2 b hb).elim (g2 b) (fun h=> .inr h.1)
 have hl:∀b,S2 b->b<w'.heap.size:=fun b hb=>(k2 b hb).elim (g3 b) (fun h=>h.2)
 exact hn u S2 w' (Fw hh hw hS LM hl) k3 (Dz hh hw hS LM)
def amh (hC:oG O self) (hH:gl O H) {o:yY} {c:yar} {f:xB} (ho:o.op= .call c) (ji:c.callee= .value f) {g:Nat} {first cap vals:List AV} {bI:Hp} {r:AV}
  (hf:aC tm (aV H f)= .fn (.f g) first cap) (hz:cW deep hp (first++(dS tm (ir H c.args.toList)++cap))=some (vals,bI)) (hr:bY O.prog O.aU self g vals=some r)
  (hl:dN (own bI ct r).2.1 Hq) (fI:(own bI ct r).2.2<=cH) (bm:∀id o,ap hp id=some o->id<ct) (Bk:∀id,ct<=id->id<(own bI ct r).2.2->m id=none)
  (ht:cF O m S w tm a.tmps) (hh:bg O m S w Hq cH)
  (hn:∀u m' S' w',bg O m' S' w' Hq cH->dW m m'->(∀id p,m' id=some p->m id=some p\/(ct<=id/\id<(own bI ct r).2.2))->aj O.ai m' S' w' (own bI ct r).1 u->cG m S w Hq m' S' w' Hq cH->next (a.put o.dst u) w'):
  o.wpIn (WF ro) 0 O.P a w next Q:=by
 obtain ⟨fi,ca,h1,h2⟩:=NG hH ht (args:=c.args) hf;obtain ⟨z1,z2,z3⟩:=R8 (O:=O) hz;have Vq:∀id o,ap bI id=some o->id<ct:=fun id o h=>by
  have:=z2 id
  rw [h] at this
  cases hq:ap hp id with
  | none=>rw [hq] at this;cases this
  | some q=>exact bm id q hq
 have asM:∀id o,ap bI id=some o->ap (own bI ct r).2.1 id=some o:=fun id o h=>by
  cases r with
  | aw vs=>exact N6 Vq id o h
  | _=>exact TI Vq id o h
 have og:dN bI Hq:=fun id o h=>hl id o (asM id o h)
 obtain ⟨h3,h4⟩:=ZI hz og hh h2;refine M6 ho ji h1 (hC.pure g vals r hr w S _ (TJ hh) hh.slt h3 h4) ?_;rintro e w' ⟨u,S',rfl,hw,g1,g2,g3,g4⟩;refine ⟨u,rfl,?_⟩;have CX:=Fw hh hw g1 g2 g3;have nG:=Dz (base:=cH) hh hw g1 g2;obtain ⟨m',S2,k1,k2,k3,k4,k5,k6⟩:=asL (lo:=w.heap.size) CX hl fI Vq Bk g4 hh.gK (fun j q hq=>hh.blt j q hq);refine hn u m' S2 w' k1 k2 (fun id p h=>(k3 id p h).imp (fun h=>h) (fun h=>⟨h.1,h.2.1⟩)) k4 ⟨hw.os,hw.tape,hw.output,hw.size,fun b hb _=>hw.same b hb,fun b hb=>k5 b (g1 b hb),fun b hb=>hw.same b (hh.slt b hb),?_,?_,fun i q _ h=>k2 i q h,nG.loops⟩
 ·grind
 ·rintro b ⟨i,ob,q,q1,q2,q3⟩;rcases k3 i q q2 with h | h
  ·exact .inl ⟨i,ob,q,q1,h,q3⟩
  ·grind
def quiet_step (hC:oG O self) (hH:gl O H) {o:yY} {q:Op} {v:AV} (hk:bK q<=1) (hq:AS O.P H q o) (hd:∀c,o.op≠.defer c) (hv:bC O.prog O.aU self tm hp ct q=some (v,ao,bj)) (hl:dN ao Hq) (fI:bj<=cH)
  (bm:∀id o,ap hp id=some o->id<ct) (Bk:∀id,ct<=id->id<bj->m id=none) (ht:cF O m S w tm a.tmps) (hh:bg O m S w Hq cH)
  (hn:∀u m' S' w',bg O m' S' w' Hq cH->dW m m'->(∀id p,m' id=some p->m id=some p\/(ct<=id/\id<bj))->aj O.ai m' S' w' v u->cG m S w Hq m' S' w' Hq cH->next (a.put o.dst u) w'):
  o.wpIn (WF ro) 0 O.P a w next Q:=by
 have kK:∃k,q=bw O.P H k o:=by
  rcases hq with h | ⟨c,f,rs,_,_,rfl⟩ | ⟨_,_,_,_,_,_,_,rfl⟩
  ·grind
  ·simp [bK] at hk
  ·simp [bK] at hk
 obtain ⟨k,hq⟩:=kK;have read:∀{v:AV},bH tm hp q=some v->dN hp Hq->(∀u m' S' w',bg O m' S' w' Hq cH->dW m m'->(∀id p,m' id=some p->m id=some p\/(ct<=id/\id<bj))->aj O.ai m' S' w' v u->cG m S w Hq m' S' w' Hq cH->next (a.put o.dst u) w')->o.wpIn (WF ro) 0 O.P a w next Q:=by
  intro v hr hl hn;have bW:=ama hl hr;rw [hq] at bW;obtain ⟨u,h1,h2⟩:=ac3 hH ht hh bW;exact Ok hd h1 (.inl rfl) (hn u m S w hh dW.refl (fun _ _ h=> .inl h) h2 cG.refl)
 have makes:∀{v:AV} {b:Obj},dt tm hp ct q=some (v,b)->dN ((ct,b)::hp) Hq->ct+1<=cH->m ct=none->(∀u m' S' w',bg O m' S' w' Hq cH->dW m m'->(∀id p,m' id=some p->m id=some p\/(ct<=id/\id<ct+1))->aj O.ai m' S' w' v u->cG m S w Hq m' S' w' Hq cH->next (a.put o.dst u) w')->o.wpIn (WF ro) 0 O.P a w next Q:=by
  intro v b hr hl hc hi hn;rw [hq] at hr;have bW:dt tm Hq ct (bw O.P H k o)=some (v,b):=by rw [<-hr];exact I6 (fun _ _=>rfl)
  obtain ⟨u,g,p,h1,h2,h3,h4⟩:=aqp hH ht hh bW;obtain ⟨S',k1,k2,k3⟩:=abS (i:=ct) (g:=g) (p:=p) hh hi hc h2 (fun o' ml=>by
   obtain ⟨o'',g1,g2⟩:=hl ct b (by rw [iC];simp)
   rw [ml] at g1;injection g1 with g1
   subst g1
   have:=ZF g2 eT (h4 _ (lK hi) eT).1 h3
   rwa [h2] at this)
  refine Ok hd h1 (.inl rfl) (hn u _ S' _ k1 (lK hi) (fun id q hq=>?_) (mY (fun _ _ h=>h) k2 (fun _ _=>rfl) _ _ (h4 _ (lK hi) eT).2) (amg hh hi h2 k2 k3));by_cases hc:id=ct
  ·grind
  ·rw [eS hc] at hq;exact .inl hq
 have dc:∀{q:Op},(match dt tm hp ct q with | some (v,b)=>some (v,(ct,b)::hp,ct+1) | none=>(none:gM))=some (v,ao,bj)->∃b,dt tm hp ct q=some (v,b)/\ao=(ct,b)::hp/\bj=ct+1:=by
  intro q h
  cases hm:dt tm hp ct q with
  | none=>simp [hm] at h
  | some r=>
   grind
 have lF:∀{q:Op},(match bH tm hp q with | some v=>some (v,hp,ct) | none=>(none:gM))=some (v,ao,bj)->bH tm hp q=some v/\ao=hp/\bj=ct:=by
  intro q h
  cases hm:bH tm hp q with
  | none=>simp [hm] at h
  | some r=>
   grind
 have JR:(∃b,dt tm hp ct q=some (v,b)/\ao=(ct,b)::hp/\bj=ct+1)->o.wpIn (WF ro) 0 O.P a w next Q:=by
  grind
 have asN:(bH tm hp q=some v/\ao=hp/\bj=ct)->o.wpIn (WF ro) 0 O.P a w next Q:=by
  grind
 cases q with
 | st _ _ _=>simp [bK] at hk
 | qF _ _ _ _=>simp [bK] at hk
 | qH _=>simp [bK] at hk
 | dV _ _ _ _=>simp [bK] at hk
 | qI _ _ _=>simp [bK] at hk
 | iE _ _ _=>simp [bK] at hk
 | jf _ _ _ _=>simp [bK] at hk
 | box s x=>exact JR (dc (by simp only [bC] at hv;exact hv))
 | dI n s z ps=>exact JR (dc (by simp only [bC] at hv;exact hv))
 | iw s b z x y=>exact JR (dc (by simp only [bC] at hv;exact hv))
 | Ba=>exact JR (dc (by simp only [bC] at hv;exact hv))
 | qG x=>exact JR (dc (by simp only [bC] at hv;exact hv))
 | call md x xs=>
  cases md with
  | heap=>simp [bK] at hk
  | dyn=>simp [bK] at hk
  | pure=>
   simp only [bC,dR] at hv
   split at hv
   ·rename_i g first cap hx
    (try simp only at hv)
    cases hz:cW deep hp (first++(dS tm xs++cap)) with
    | none=>simp [hz] at hv
    | some z=>
     obtain ⟨vals,bI⟩:=z;simp only [hz] at hv
     cases hr:bY O.prog O.aU self g vals with
     | none=>simp [hr] at hv
     | some r=>
      simp only [hr,yc,yk] at hv;obtain ⟨rfl,rfl,rfl⟩:=hv;obtain ⟨c,f,ho,ji,rfl,rfl⟩:=N7 hq.symm (by rintro rfl;simp [aC] at hx);exact ala hC hH ho ji hx hz hr hl ht hh (fun u S' w' h1 h2 h3=>hn u m S' w' h1 dW.refl (fun _ _ h=> .inl h) h2 h3)
   ·simp at hv
   ·cases hv
  | own=>
   simp only [bC,dR] at hv
   split at hv
   ·rename_i g first cap hx
    (try simp only at hv)
    cases hz:cW deep hp (first++(dS tm xs++cap)) with
    | none=>simp [hz] at hv
    | some z=>
     obtain ⟨vals,bI⟩:=z;simp only [hz] at hv
     cases hr:bY O.prog O.aU self g vals with
     | none=>simp [hr] at hv
     | some r=>
      simp only [hr,yc] at hv;obtain ⟨c,f,ho,ji,rfl,rfl⟩:=N7 hq.symm (by rintro rfl;simp [aC] at hx);have e1:v=(own bI ct r).1:=by rw [hv]
      have e2:ao=(own bI ct r).2.1:=by rw [hv]
      have e3:bj=(own bI ct r).2.2:=by rw [hv]
      subst e1;subst e2;subst e3;exact amh hC hH ho ji hx hz hr hl fI bm Bk ht hh hn
   ·simp at hv
   ·cases hv
 | _=>exact asN (lF (by simp only [bC] at hv;exact hv))
end
end
end VE
