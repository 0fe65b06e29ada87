import Derived.RangeFuncLeaves
import Derived.Test.YtmedhadbdofioaaGreatDoorTad
set_option linter.all false
set_option maxRecDepth 100000
open Array renaming getElem?_eq_some_iff→xx
open Bool renaming and_eq_true→yg
open Go renaming Call→tR,Ending→uC,Exit→uz,FuncId→tk,Oper→yZ,Operand→xA,Program→y6,RoundIn→RK,Value→yf,World→yi
open Nat renaming beq→yu,blt→yK,eq_of_beq_eq_true→yp,le_refl→yC,le_trans→xj,lt_of_lt_of_le→yN
open Option.some renaming injEq→yc
open Prod.mk renaming injEq→yk
namespace VE
section
open Go
structure Calm (w w':yi):Prop where
 os:w'.os=w.os
 tape:w'.tape=w.tape
 output:w'.output=w.output
 size:w.heap.size<=w'.heap.size
 same:∀b,b<w.heap.size->w'.heap[b]? =w.heap[b]?
def Calm.refl {w:yi}:Calm w w:=⟨rfl,rfl,rfl,yC _,fun _ _=>rfl⟩
def Calm.trans {w w' Dr:yi} (h:Calm w w') (k:Calm w' Dr):Calm w Dr:=
 ⟨k.os.trans h.os,k.tape.trans h.tape,k.output.trans h.output,xj h.size k.size,fun b hb=>(k.same b (yN hb h.size)).trans (h.same b hb)⟩
def Bc (O:bA) (w:yi):Prop:=(∀b,b<O.w0.heap.size->w.heap[b]? =O.w0.heap[b]?)/\O.w0.heap.size<=w.heap.size
def fq:Mp:=fun _=>none
def iB (ai:Nat->Nat) (S:Nat->Prop) (w:yi) (lo:Nat):AV->yf->List Nat->Prop
 | .cJ ex sz n cs,u,bs=>∃b o c arr t,bs=[b]/\u= .slice (some ⟨b,o,none⟩) n c/\n<=c/\(ex=true->c=n)/\lo<=b/\¬S b/\w.heap[b]? =some (.cells arr t (0,0))/\cs.length=n*sz/\
   o+c*sz<=arr.size/\bW ai fq S w cs b o/\aH cs=true
 | r,u,bs=>bs=[]/\aj ai fq S w r u/\aR r=true
def kW (ai:Nat->Nat) (S:Nat->Prop) (w:yi) (lo:Nat):List AV->List yf->List Nat->Prop
 | [],us,bs=>us=[]/\bs=[]
 | v::r,us,bs=>∃u t b1 b2,us=u::t/\bs=b1++b2/\iB ai S w lo v u b1/\kW ai S w lo r t b2
def nL (ai:Nat->Nat) (S:Nat->Prop) (w:yi) (lo:Nat) (r:AV) (u:yf):Prop:=
 match r with
 | .ap vs=>∃(us:Array yf) (bs:List Nat),u= .tuple us/\kW ai S w lo vs us.toList bs/\bs.Nodup
 | r=>∃bs,iB ai S w lo r u bs
def AY (P:y6) (f:tk) (args:Array yf) (w:yi) (R:uC->yi->Prop):Prop:=
 ((callFunc f args).run P w= .ok (.enter f args) w/\CallsIn Fence.wide 0 P f args w R)\/∃u w',(callFunc f args).run P w= .ok (.value u) w'/\R (.returned u) w'
def aah (O:bA) (w:yi) (S:Nat->Prop) (r:AV) (e:uC) (w':yi):Prop:=
 ∃u S',e= .returned u/\Calm w w'/\(∀b,S b->S' b)/\(∀b,S' b->S b\/w.heap.size<=b)/\(∀b,S' b->b<w'.heap.size)/\nL O.ai S' w' w.heap.size r u
def eX (O:bA) (n:Nat) (vals:List AV) (r:AV):Prop:=
 ∀(w:yi) (S:Nat->Prop) (args:Array yf),Bc O w->(∀b,S b->b<w.heap.size)->au O.ai fq S w vals args.toList->aH vals=true->
  AY O.P (O.ai n) args w (aah O w S r)
def sO (O:bA) (m:Mp) (S:Nat->Prop) (w:yi) (hp:Hp) (ct:Nat) (v:AV) (ao:Hp) (bg:Nat) (e:uC) (w':yi):Prop:=
 ∃u m' S',e= .returned u/\bf O m' S' w' ao bg/\ct<=bg/\aj O.ai m' S' w' v u/\cB m S w hp m' S' w' ao ct
def Be (O:bA) (n:Nat) (hp:Hp) (ct:Nat) (vals:List AV) (v:AV) (ao:Hp) (bg:Nat):Prop:=
 ∀(m:Mp) (S:Nat->Prop) (w:yi) (args:Array yf),bf O m S w hp ct->au O.ai m S w vals args.toList->AY O.P (O.ai n) args w (sO O m S w hp ct v ao bg)
section
variable {ai:Nat->Nat} {m m':Mp} {S S':Nat->Prop} {w w':yi}
mutual
def pX (hS:∀b,S b->S' b) (hw:gm S w w'):∀(v:AV) (u:yf),aR v=true->aj ai m S w v u->aj ai m' S' w' v u
 | .int _ _,_,_,h | .bool _,_,_,h | .dE _ _,_,_,h | .str _,_,_,h | .kB,_,_,h | .ab,_,_,h | .iA,_,_,h | .jP,_,_,h | .undef,_,_,h=>by
  simpa only [aj] using h
 | .ptr id o,u,hp,h=>by simp [aR] at hp
 | .aI cs,u,hp,h=>by
  simp only [aj] at h ⊢;obtain ⟨b,o,h1,h2,h3,h4⟩:=h;refine ⟨b,o,h1,h2.imp id (hS b),h3,?_⟩;rcases h2 with rfl | h2
  ·simp only [bW]
  ·exact QP hS hw cs b o h3 h2 h4
 | .aE ex n cs,u,hp,h=>by
  simp only [aj] at h ⊢;rcases h with ⟨b,o,c,h1,h2,h3,h4,h5,h6⟩ | h
  ·refine .inl ⟨b,o,c,h1,h2,h3,h4.imp id (hS b),h5,?_⟩;rcases h4 with rfl | h4
   ·simp only [bW]
   ·exact QP hS hw cs b o h5 h4 h6
  ·exact .inr h
 | .cJ _ _ _ _,u,hp,h=>by simp [aR] at hp
 | .an id o n,u,hp,h=>by simp [aR] at hp
 | .fn (.f g) first cap,u,hp,h=>by
  simp only [aj] at h ⊢;simp only [aR,yg] at hp;obtain ⟨fi,ca,h1,h2,h3⟩:=h;exact ⟨fi,ca,h1,sN hS hw first _ hp.1 h2,sN hS hw cap _ hp.2 h3⟩
 | .fn (.y l) _ _,u,hp,h=>by simp [aR] at hp
 | .map id,u,hp,h=>by simp [aR] at hp
 | .jy ks vs,u,hp,h=>by
  simp only [aj] at h ⊢;obtain ⟨b,es,clock,h1,h2,h3,h4,h5,h6,h7⟩:=h;exact ⟨b,es,clock,h1,hS b h2,h3,h4,(hw b h2).trans h5,sN hS hw ks _ h3 h6,sN hS hw vs _ h4 h7⟩
 | .it id,u,hp,h=>by simp [aR] at hp
 | .agg cs,u,hp,h=>by
  simp only [aj] at h ⊢;simp only [aR] at hp;obtain ⟨xs,h1,h2⟩:=h;exact ⟨xs,h1,sN hS hw cs _ hp h2⟩
 | .ap cs,u,hp,h=>by
  simp only [aj] at h ⊢;simp only [aR] at hp;obtain ⟨xs,h1,h2⟩:=h;exact ⟨xs,h1,sN hS hw cs _ hp h2⟩
def sN (hS:∀b,S b->S' b) (hw:gm S w w'):∀(vs:List AV) (us:List yf),aH vs=true->au ai m S w vs us->au ai m' S' w' vs us
 | [],us,_,h=>by simpa only [au] using h
 | v::r,us,hp,h=>by
  simp only [au] at h ⊢;simp only [aH,yg] at hp;obtain ⟨u,t,h1,h2,h3⟩:=h;exact ⟨u,t,h1,pX hS hw v u hp.1 h2,sN hS hw r t hp.2 h3⟩
def QP (hS:∀b,S b->S' b) (hw:gm S w w'):∀(cs:List AV) (b o:Nat),aH cs=true->S b->bW ai m S w cs b o->bW ai m' S' w' cs b o
 | [],_,_,_,_,_=>by simp only [bW]
 | c::cs,b,o,hp,hb,h=>by
  simp only [bW] at h ⊢;simp only [aH,yg] at hp;obtain ⟨⟨u,h1,h2⟩,h3⟩:=h;exact ⟨⟨u,(Lx (hw b hb)).trans h1,pX hS hw c u hp.1 h2⟩,QP hS hw cs b (o+1) hp.2 hb h3⟩
end
def Ch (hS:∀b,S b->S' b) (hw:gm S w w'):∀(cs:List AV) (b o:Nat),aH cs=true->w'.heap[b]? =w.heap[b]? ->bW ai m S w cs b o->bW ai m' S' w' cs b o
 | [],_,_,_,_,_=>by simp only [bW]
 | c::cs,b,o,hp,hb,h=>by
  simp only [aH,yg] at hp;obtain ⟨⟨u,h1,h2⟩,h3⟩:=h;exact ⟨⟨u,(Lx hb).trans h1,pX hS hw c u hp.1 h2⟩,Ch hS hw cs b (o+1) hp.2 hb h3⟩
end
section
variable {O:bA} {m:Mp} {S S':Nat->Prop} {w w':yi} {hp:Hp} {ct:Nat}
def akn (hh:bf O m S w hp ct) (hw:Calm w w'):gm S w w':=fun b hb=>hw.same b (hh.slt b hb)
def Ee (hh:bf O m S w hp ct) (hw:Calm w w') (hS:∀b,S b->S' b) (hn:∀b,S' b->S b\/w.heap.size<=b) (hl:∀b,S' b->b<w'.heap.size):bf O m S' w' hp ct where
 obj id o p ho hm:=rb (fun _ _ h=>h) hS (akn hh hw) (fun q hq=>hw.same _ (hh.blt id q hq)) (fun q hq hs=>(hn _ hs).resolve_right (by have:=hh.blt id q hq;omega)) (hh.obj id o p ho hm)
 lt:=hh.lt
 inj:=hh.inj
 slt:=hl
 blt id p h:=yN (hh.blt id p h) hw.size
 low:=hh.low
 lR b hb:=(hw.same b (yN hb hh.gA)).trans (hh.lR b hb)
 gA:=xj hh.gA hw.size
 bi:=hh.bi
def Co {base:Nat} (hh:bf O m S w hp ct) (hw:Calm w w') (hS:∀b,S b->S' b) (hn:∀b,S' b->S b\/w.heap.size<=b):cB m S w hp m S' w' hp base where
 os:=hw.os
 tape:=hw.tape
 output:=hw.output
 size:=hw.size
 same b hb _:=hw.same b hb
 sub:=hS
 still b hb:=hw.same b (hh.slt b hb)
 new b hb:=(hn b hb).imp id .inr
 own b hb:= .inl hb
 old _ _ _ h:=h
 loops b r hb:=⟨r,(hw.same b (xx.1 hb).1).trans hb⟩
def amo {i:Nat} (hh:bf O m S w hp ct) (hi:m i=none) (FI:i<ct) {p:Pl} (hb:p.b<w.heap.size) (bq:O.w0.heap.size<=p.b) (FJ:¬S p.b) (gW:∀j q,m j=some q->q.b≠p.b)
  (hf:∀o,ak hp i=some o->(fM O (fO m i p) S w i o/\¬ju o)\/(ju o/\fM O (fO m i p) (fun b=>S b\/b=p.b) w i o)):
  ∃S',bf O (fO m i p) S' w hp ct/\(∀b,S b->S' b)/\∀b,S' b->S b\/b=p.b:=by
 have aX:gm S w w:=fun _ _=>rfl
 have gen:∀S':Nat->Prop,(∀b,S b->S' b)->(∀b,S' b->S b\/b=p.b)->(∀o,ak hp i=some o->fM O (fO m i p) S' w i o)->bf O (fO m i p) S' w hp ct:=by
  intro S' h1 h2 h3;refine ⟨?_,?_,?_,?_,?_,?_,hh.lR,hh.gA,hh.bi⟩
  ·intro id o q ho hm;by_cases hc:id=i
   ·grind
   ·rw [eI hc] at hm;refine rb (kN hi) h1 aX (fun _ _=>rfl) (fun q' cd hs=>?_) (hh.obj id o q ho hm)
    grind
  ·intro id q hm;by_cases hc:id=i
   ·grind
   ·rw [eI hc] at hm;exact hh.lt id q hm
  ·intro a b oa ob pa pb ha cY Du zH e;by_cases ca:a=i
   ·by_cases cb:b=i
    ·grind
    ·subst ca;rw [eJ] at Du;rw [eI cb] at zH
     grind
   ·rw [eI ca] at Du;by_cases cb:b=i
    ·subst cb;rw [eJ] at zH
     grind
    ·rw [eI cb] at zH;exact hh.inj a b oa ob pa pb ha cY Du zH e
  ·intro b hs;rcases h2 b hs with h | h
   ·exact hh.slt b h
   ·grind
  ·intro id q hm;by_cases hc:id=i
   ·subst hc;rw [eJ] at hm
    grind
   ·rw [eI hc] at hm;exact hh.blt id q hm
  ·intro id q hm;by_cases hc:id=i
   ·subst hc;rw [eJ] at hm
    grind
   ·rw [eI hc] at hm;exact hh.low id q hm
 cases ho:ak hp i with
 | none=>exact ⟨S,gen S (fun _ h=>h) (fun _ h=> .inl h) (fun o h=>by rw [ho] at h;cases h),fun _ h=>h,fun _ h=> .inl h⟩
 | some o=>
  rcases hf o ho with ⟨h1,_⟩ | ⟨_,h1⟩
  ·exact ⟨S,gen S (fun _ h=>h) (fun _ h=> .inl h) (fun o' h=>by rw [ho] at h;injection h with h;subst h;exact h1),fun _ h=>h,fun _ h=> .inl h⟩
  ·exact ⟨_,gen (fun b=>S b\/b=p.b) (fun _ h=> .inl h) (fun _ h=>h) (fun o' h=>by rw [ho] at h;injection h with h;subst h;exact h1),fun _ h=> .inl h,fun _ h=>h⟩
def Zh {ai:Nat->Nat} {lo:Nat} {r:AV} {u:yf} {bs:List Nat} (h:iB ai S w lo r u bs) (m:Mp) (hS:∀b,S b->S' b) (hbs:∀b,b∈bs->S' b):aj ai m S' w (bT r) u:=by
 have aX:gm S w w:=fun _ _=>rfl
 cases r with
 | cJ ex sz n cs=>
  obtain ⟨b,o,c,arr,t,rfl,rfl,h1,h2,h3,h4,h5,h6,h7,h8,h9⟩:=h;exact .inl ⟨b,o,c,rfl,h1,h2,.inr (hbs b (by simp)),h9,Ch hS aX cs b o h9 rfl h8⟩
 | _=>simp only [iB] at h;exact pX hS aX _ _ h.2.2 h.2.1
def Zi {ai:Nat->Nat} {lo:Nat} (m:Mp) (hS:∀b,S b->S' b):∀{vs:List AV} {us:List yf} {bs:List Nat},kW ai S w lo vs us bs->(∀b,b∈bs->S' b)->au ai m S' w (CO vs) us
 | [],us,bs,h,_=>by simp only [kW] at h;exact h.1
 | v::r,us,bs,h,hb=>by
  obtain ⟨u,t,b1,b2,rfl,rfl,h1,h2⟩:=h;exact ⟨u,t,rfl,Zh h1 m hS (fun b cY=>hb b (by simp [cY])),Zi m hS h2 (fun b cY=>hb b (by simp [cY]))⟩
def R7 {ai:Nat->Nat} {lo:Nat} {r:AV} {u:yf} {bs:List Nat} (h:iB ai S w lo r u bs):∀b,b∈bs->lo<=b/\b<w.heap.size:=by
 intro b hb
 cases r with
 | cJ ex sz n cs=>
  simp only [iB] at h
  grind
 | _=>simp only [iB] at h;rw [h.1] at hb;cases hb
def R8 {ai:Nat->Nat} {lo:Nat}:∀{vs:List AV} {us:List yf} {bs:List Nat},kW ai S w lo vs us bs->∀b,b∈bs->lo<=b/\b<w.heap.size
 | [],us,bs,h,b,hb=>by simp only [kW] at h;rw [h.2] at hb;cases hb
 | v::r,us,bs,h,b,hb=>by
  obtain ⟨u,t,b1,b2,rfl,rfl,h1,h2⟩:=h;rcases List.mem_append.1 hb with hb | hb
  ·exact R7 h1 b hb
  ·exact R8 h2 b hb
def Zj {ai:Nat->Nat} {lo:Nat} {r:AV} {u:yf} (h:nL ai S w lo r u) (m:Mp):∃S',(∀b,S b->S' b)/\(∀b,S' b->S b\/(lo<=b/\b<w.heap.size))/\aj ai m S' w (shut r) u:=by
 have one:∀(r:AV) (bs:List Nat),shut r=bT r->iB ai S w lo r u bs->∃S',(∀b,S b->S' b)/\(∀b,S' b->S b\/(lo<=b/\b<w.heap.size))/\aj ai m S' w (shut r) u:=by
  intro r bs hs h;refine ⟨fun b=>S b\/b∈bs,fun _ h=> .inl h,fun b hb=>hb.imp (fun x=>x) (fun hb=>R7 h b hb),?_⟩;rw [hs];exact Zh h m (fun _ h=> .inl h) (fun _ h=> .inr h)
 cases r with
 | ap vs=>
  obtain ⟨us,bs,rfl,h1,h2⟩:=h;refine ⟨fun b=>S b\/b∈bs,fun _ h=> .inl h,fun b hb=>hb.imp (fun x=>x) (fun hb=>R8 h1 b hb),?_⟩;exact ⟨us,rfl,Zi m (fun _ h=> .inl h) h1 (fun _ h=> .inr h)⟩
 | _=>
  obtain ⟨bs,h⟩:=h;exact one _ bs rfl h
end
end
section
open Go
section
variable {O:bA} {m:Mp} {S:Nat->Prop} {w:yi} {H:Hp} {cH:Nat}
def MJ {hp:Hp} {ct:Nat} {r:AV}:ct<=(fH hp ct r).2.2:=by
 cases r<;>simp only [fH]<;>omega
def MK:∀{vs:List AV} {hp:Hp} {ct:Nat},ct<=(jQ hp ct vs).2.2
 | [],hp,ct=>by simp [jQ]
 | v::r,hp,ct=>by
  simp only [jQ];have h1:=MJ (hp:=hp) (ct:=ct) (r:=v);have h2:=MK (vs:=r) (hp:=(fH hp ct v).2.1) (ct:=(fH hp ct v).2.2);omega
def R9 {hp:Hp} {ct:Nat} {r:AV} (hf:∀id o,ak hp id=some o->id<ct):∀id o,ak hp id=some o->ak (fH hp ct r).2.1 id=some o:=by
 intro id o h;cases r<;>simp only [fH]<;>try exact h
 rw [ir,yB (by have:=hf id o h;omega)];exact h
def abi {hp:Hp} {ct lo:Nat} {r:AV} {u:yf} {bs:List Nat} (hh:bf O m S w H cH) (hl:dw (fH hp ct r).2.1 H) (fR:(fH hp ct r).2.2<=cH) (hn:∀id,ct<=id->id<(fH hp ct r).2.2->m id=none)
  (hr:iB O.ai S w lo r u bs) (bq:O.w0.heap.size<=lo) (gW:∀j q,m j=some q->q.b∉bs):
  ∃m' S',bf O m' S' w H cH/\dM m m'/\(∀id p,m' id=some p->m id=some p\/(ct<=id/\id<(fH hp ct r).2.2/\p.b∈bs))/\aj O.ai m' S' w (fH hp ct r).1 u/\(∀b,S b->S' b)/\(∀b,S' b->S b\/b∈bs):=by
 have aX:gm S w w:=fun _ _=>rfl
 cases r with
 | cJ ex sz n cs=>
  simp only [fH] at hl fR hn;obtain ⟨b,o,c,arr,t,rfl,rfl,h1,h2,h3,h4,h5,h6,h7,h8,h9⟩:=hr;have bL:m ct=none:=hn ct (yC _) (Nat.lt_succ_self _);have auZ:b<w.heap.size:=(xx.1 h5).1;have oc:fM O (fO m ct ⟨b,o,c*sz,sz⟩) S w ct (.cells true true ex sz cs):=by
   refine ⟨_,arr,t,eJ,h5,rfl,?_,h7,fun hx=>?_,Ch (fun _ h=>h) aX cs b o h9 rfl h8,fun _=>h9,fun _=>h4,by simp⟩
   ·show cs.length<=c*sz
    rw [h6];exact Nat.mul_le_mul_right _ h1
   ·grind
  obtain ⟨S',k1,k2,k3⟩:=amo (p:=⟨b,o,c*sz,sz⟩) hh bL (by omega) auZ (by show _<=b;omega) h4 (fun j q hq e=>gW j q hq (by rw [e];simp)) (fun o' lA=>by
   obtain ⟨o'',g1,g2⟩:=hl ct (.cells true true ex sz cs) (by rw [ir];simp)
   rw [lA] at g1;injection g1 with g1
   subst g1
   exact X4 (p:=⟨b,o,c*sz,sz⟩) g2 eJ oc (by simp [ju]))
  refine ⟨_,S',k1,kN bL,fun id p ao=>?_,?_,k2,fun b' cY=>(k3 b' cY).imp (fun h=>h) (fun h=>by rw [h];simp)⟩
  ·by_cases hc:id=ct
   ·subst hc;rw [eJ] at ao;injection ao with ao
    subst ao;exact .inr ⟨yC _,by simp [fH],by simp⟩
   ·rw [eI hc] at ao;exact .inl ao
  ·simp only [fH,aj];exact ⟨_,c,eJ,by simp,h1,by simp⟩
 | _=>
  exact ⟨m,S,hh,dM.refl,fun _ _ h=> .inl h,pX (fun _ h=>h) aX _ _ hr.2.2 hr.2.1,fun _ h=>h,fun _ h=> .inl h⟩
def Ib {hp:Hp} {ct:Nat} {r:AV} (hf:∀id o,ak hp id=some o->id<ct):∀id o,ak (fH hp ct r).2.1 id=some o->id<(fH hp ct r).2.2:=by
 intro id o h;cases r<;>simp only [fH] at h ⊢<;>try exact hf id o h
 rw [ir] at h
 grind
def ML:∀{vs:List AV} {hp:Hp} {ct:Nat},(∀id o,ak hp id=some o->id<ct)->∀id o,ak hp id=some o->ak (jQ hp ct vs).2.1 id=some o
 | [],hp,ct,_,id,o,h=>by simpa [jQ] using h
 | v::r,hp,ct,hf,id,o,h=>by
  exact ML (Ib hf) id o (R9 hf id o h)
def abj {lo:Nat} (bq:O.w0.heap.size<=lo):∀{vs:List AV} {us:List yf} {bs:List Nat} {hp:Hp} {ct:Nat} {m:Mp} {S:Nat->Prop},bf O m S w H cH->dw (jQ hp ct vs).2.1 H->(jQ hp ct vs).2.2<=cH->
  (∀id o,ak hp id=some o->id<ct)->(∀id,ct<=id->id<(jQ hp ct vs).2.2->m id=none)->
  kW O.ai S w lo vs us bs->bs.Nodup->(∀j q,m j=some q->q.b∉bs)->
  ∃m' S',bf O m' S' w H cH/\dM m m'/\(∀id p,m' id=some p->m id=some p\/(ct<=id/\id<(jQ hp ct vs).2.2/\p.b∈bs))/\au O.ai m' S' w (jQ hp ct vs).1 us/\(∀b,S b->S' b)/\(∀b,S' b->S b\/b∈bs)
 | [],us,bs,hp,ct,m,S,hh,hl,fR,hf,hn,hr,lX,gW=>by
  simp only [kW] at hr;exact ⟨m,S,hh,dM.refl,fun _ _ h=> .inl h,by simp only [jQ,au];exact hr.1,fun _ h=>h,fun _ h=> .inl h⟩
 | v::r,us,bs,hp,ct,m,S,hh,hl,fR,hf,hn,hr,lX,gW=>by
  simp only [kW] at hr;obtain ⟨u,t,b1,b2,rfl,rfl,h1,h2⟩:=hr;simp only [jQ] at hl fR hn ⊢;have eh:=MJ (hp:=hp) (ct:=ct) (r:=v);have pG:=MK (vs:=r) (hp:=(fH hp ct v).2.1) (ct:=(fH hp ct v).2.2);rw [List.nodup_append] at lX;obtain ⟨m1,S1,k1,k2,k3,k4,k5,k6⟩:=abi (hp:=hp) (ct:=ct) (lo:=lo) hh ((fun id o h=>hl id o (ML (Ib hf) id o h))) (by omega) (fun id g1 g2=>hn id g1 (by omega)) h1 bq
   (fun j q hq hb=>gW j q hq (by simp [hb]))
  have h2':kW O.ai S1 w lo r t b2:=by
   clear k4;have TG:∀b,S1 b->S b\/b∈b1:=k6;have hd:∀b,b∈b2->b∉b1:=fun b hb ff=>lX.2.2 b ff b hb rfl
   have one:∀{v:AV} {u:yf} {bb:List Nat},(∀b,b∈bb->b∉b1)->iB O.ai S w lo v u bb->iB O.ai S1 w lo v u bb:=by
    intro v u bb sd h
    cases v with
    | cJ ex sz n cs=>
     simp only [iB] at h ⊢;obtain ⟨b,o,c,arr,tt,rfl,rfl,g1,g2,g3,g4,g5,g6,g7,g8,g9⟩:=h;exact ⟨b,o,c,arr,tt,rfl,rfl,g1,g2,g3,fun hs=>(TG b hs).elim g4 (sd b (by simp)),g5,g6,g7,Ch k5 (fun _ _=>rfl) cs b o g9 rfl g8,g9⟩
    | _=>simp only [iB] at h ⊢;exact ⟨h.1,pX k5 (fun _ _=>rfl) _ _ h.2.2 h.2.1,h.2.2⟩
   clear k1 k2 k3 hl fR hn gW lX;revert hd h2;generalize b2=bb
   induction r generalizing t bb with
   | nil=>intro h2 hd;simpa only [kW] using h2
   | cons v' r ih=>
    intro h2 hd;simp only [kW] at h2 ⊢;obtain ⟨u',t',c1,c2,rfl,rfl,g1,g2⟩:=h2
    exact ⟨u',t',c1,c2,rfl,rfl,one (fun b hb=>hd b (by simp [hb])) g1,ih _ (by
     have:=MK (vs:=r) (hp:=(fH hp ct v).2.1) (ct:=(fH hp ct v).2.2)
     exact this) _ g2 (fun b hb=>hd b (by simp [hb]))⟩
  obtain ⟨m2,S2,g1,g2,g3,g4,g5,g6⟩:=abj bq (vs:=r) (us:=t) (bs:=b2) (m:=m1) (S:=S1) k1 hl fR (Ib hf) (fun id q1 q2=>by
   cases hq:m1 id with
   | none=>rfl
   | some p=>
    rcases k3 id p hq with h | ⟨_,h,_⟩
    ·rw [hn id (by omega) q2] at h;cases h
    ·omega) h2' lX.2.1 (fun j q hq hb=>by
     rcases k3 j q hq with h | ⟨_,_,h⟩
     ·exact gW j q h (by simp [hb])
     ·exact lX.2.2 q.b h q.b hb rfl)
  refine ⟨m2,S2,g1,k2.trans g2,fun id p ao=>?_,?_,fun b hb=>g5 b (k5 b hb),fun b hb=>?_⟩
  ·rcases g3 id p ao with h | ⟨a1,a2,a3⟩
   ·rcases k3 id p h with h | ⟨a1,a2,a3⟩
    ·exact .inl h
    ·exact .inr ⟨a1,by omega,by simp [a3]⟩
   ·exact .inr ⟨by omega,a2,by simp [a3]⟩
  ·simp only [au];exact ⟨u,t,rfl,mi g2 g5 (fun _ _=>rfl) _ _ k4,g4⟩
  ·rcases g6 b hb with h | h
   ·exact (k6 b h).imp (fun h=>h) (fun h=>by simp [h])
   ·exact .inr (by simp [h])
def aqN {hp:Hp} {ct lo:Nat} {r:AV} {u:yf} (hh:bf O m S w H cH) (hl:dw (own hp ct r).2.1 H) (fR:(own hp ct r).2.2<=cH) (hf:∀id o,ak hp id=some o->id<ct)
  (hn:∀id,ct<=id->id<(own hp ct r).2.2->m id=none) (hr:nL O.ai S w lo r u) (bq:O.w0.heap.size<=lo) (Ks:∀j q,m j=some q->q.b<lo):
  ∃m' S',bf O m' S' w H cH/\dM m m'/\(∀id p,m' id=some p->m id=some p\/(ct<=id/\id<(own hp ct r).2.2/\lo<=p.b))/\aj O.ai m' S' w (own hp ct r).1 u/\(∀b,S b->S' b)/\(∀b,S' b->S b\/lo<=b):=by
 have one:∀(r:AV) (bs:List Nat),own hp ct r=fH hp ct r->iB O.ai S w lo r u bs->dw (own hp ct r).2.1 H->(own hp ct r).2.2<=cH->(∀id,ct<=id->id<(own hp ct r).2.2->m id=none)->
   ∃m' S',bf O m' S' w H cH/\dM m m'/\(∀id p,m' id=some p->m id=some p\/(ct<=id/\id<(own hp ct r).2.2/\lo<=p.b))/\aj O.ai m' S' w (own hp ct r).1 u/\(∀b,S b->S' b)/\(∀b,S' b->S b\/lo<=b):=by
  intro r bs he hr hl fR hn;rw [he] at hl fR hn ⊢;have C0:=R7 hr;obtain ⟨m',S',k1,k2,k3,k4,k5,k6⟩:=abi hh hl fR hn hr bq (fun j q hq hb=>by have:=Ks j q hq;have:=(C0 _ hb).1;omega)
  exact ⟨m',S',k1,k2,fun id p h=>(k3 id p h).imp (fun h=>h) (fun h=>⟨h.1,h.2.1,(C0 _ h.2.2).1⟩),k4,k5,fun b hb=>(k6 b hb).imp (fun h=>h) (fun h=>(C0 _ h).1)⟩
 cases r with
 | ap vs=>
  simp only [own] at hl fR hn ⊢;simp only [nL] at hr;obtain ⟨us,bs,rfl,h1,h2⟩:=hr;have C0:=R8 h1;obtain ⟨m',S',k1,k2,k3,k4,k5,k6⟩:=abj bq hh hl fR hf hn h1 h2 (fun j q hq hb=>by have:=Ks j q hq;have:=(C0 _ hb).1;omega)
  exact ⟨m',S',k1,k2,fun id p h=>(k3 id p h).imp (fun h=>h) (fun h=>⟨h.1,h.2.1,(C0 _ h.2.2).1⟩),by simp only [aj];exact ⟨us,rfl,k4⟩,k5,fun b hb=>(k6 b hb).imp (fun h=>h) (fun h=>(C0 _ h).1)⟩
 | _=>
  simp only [nL] at hr;obtain ⟨bs,hr⟩:=hr;exact one _ bs rfl hr hl fR hn
end
end
section
open Go
section
variable {O:bA} {m m':Mp} {S:Nat->Prop} {w:yi} {f:Nat->Option Nat}
def EY (f:Nat->Option Nat) (m m':Mp):Prop:=∀id j,f id=some j->m' j=m id
mutual
def abk {ai:Nat->Nat} (hf:EY f m m'):∀(v:AV) (u:yf),aj ai m S w v u->aj ai m' S w (cr f v) u
 | .int _ _,_,h | .bool _,_,h | .dE _ _,_,h | .str _,_,h | .kB,_,h | .ab,_,h | .iA,_,h | .jP,_,h | .undef,_,h=>by
  simpa only [cr,aj] using h
 | .ptr id o,u,h=>by
  simp only [cr]
  cases hi:f id with
  | none=>simp only [aj]
  | some j=>
   simp only [aj] at h ⊢;rw [hf id j hi];exact h
 | .aI cs,u,h=>by
  simp only [cr];exact pX (fun _ h=>h) (fun _ _=>rfl) _ _ (by simp [aR]) h
 | .aE ex n cs,u,h=>by
  simp only [cr];exact pX (fun _ h=>h) (fun _ _=>rfl) _ _ (by simp [aR]) h
 | .cJ _ _ _ _,u,h=>by simp only [aj] at h
 | .an id o n,u,h=>by
  simp only [cr]
  cases hi:f id with
  | none=>simp only [aj]
  | some j=>
   simp only [aj] at h ⊢;rw [hf id j hi];exact h
 | .fn (.f g) first cap,u,h=>by
  simp only [cr,aj] at h ⊢;obtain ⟨fi,ca,h1,h2,h3⟩:=h;exact ⟨fi,ca,h1,AS hf first _ h2,AS hf cap _ h3⟩
 | .fn (.y l) first cap,u,h=>by
  simp only [cr]
  cases hi:f l with
  | none=>simp only [aj]
  | some j=>
   simp only [aj] at h ⊢;rw [hf l j hi];exact h
 | .map id,u,h=>by
  simp only [cr]
  cases hi:f id with
  | none=>simp only [aj]
  | some j=>
   simp only [aj] at h ⊢;rw [hf id j hi];exact h
 | .jy ks vs,u,h=>by
  simp only [cr];exact pX (fun _ h=>h) (fun _ _=>rfl) _ _ (by simp [aR]) h
 | .it id,u,h=>by
  simp only [cr]
  cases hi:f id with
  | none=>simp only [aj]
  | some j=>
   simp only [aj] at h ⊢;rw [hf id j hi];exact h
 | .agg cs,u,h=>by
  simp only [cr,aj] at h ⊢;obtain ⟨xs,h1,h2⟩:=h;exact ⟨xs,h1,AS hf cs _ h2⟩
 | .ap cs,u,h=>by
  simp only [cr,aj] at h ⊢;obtain ⟨xs,h1,h2⟩:=h;exact ⟨xs,h1,AS hf cs _ h2⟩
def AS {ai:Nat->Nat} (hf:EY f m m'):∀(vs:List AV) (us:List yf),au ai m S w vs us->au ai m' S w (fV f vs) us
 | [],us,h=>by simpa only [fV,au] using h
 | v::r,us,h=>by
  simp only [fV,au] at h ⊢;obtain ⟨u,t,h1,h2,h3⟩:=h;exact ⟨u,t,h1,abk hf v u h2,AS hf r t h3⟩
end
def ako {ai:Nat->Nat} (hf:EY f m m') {cs:List AV} {b o:Nat} (h:bW ai m S w cs b o):bW ai m' S w (fV f cs) b o:=by
 obtain ⟨us,h1,_,h3⟩:=sM cs b o h;exact Eh _ us o (AS hf cs us h1) h3
def RI:∀cs:List AV,(fV f cs).length=cs.length
 | []=>rfl
 | c::r=>by simp [fV,RI r]
def aai:∀(tm:Env) (i:Nat),af (kV f tm) i=cr f (af tm i)
 | [],i=>by simp [kV,af,cr]
 | (j,v)::r,i=>by
  simp only [kV,af]
  cases yu j i with
  | true=>rfl
  | false=>exact aai r i
def Zk (tm:Env) (i:Nat):∀live:List Nat,af (df tm live) i=af tm i\/af (df tm live) i= .undef
 | []=> .inr rfl
 | j::r=>by
  simp only [df,af]
  cases hb:yu j i with
  | true=>rw [yp hb];exact .inl rfl
  | false=>exact Zk tm i r
def aaj {tm:Env} {tmps:Array yf} (hf:EY f m m') (h:cw O m S w tm tmps):cw O m' S w (kV f tm) tmps:=fun i=>by
 rw [aai];exact abk hf _ _ (h i)
def amp {id j:Nat} {o:Obj} {p:Pl} (hf:EY f m m') (hm:m id=some p) (hj:m' j=some p) (h:fM O m S w id o):fM O m' S w j (lP f o):=by
 cases o with
 | cells rw pu ex sz cs=>
  obtain ⟨q,arr,t,h1,h2,h3,h4,h5,h6,h7,h8,h9,iT⟩:=h;rw [hm] at h1;injection h1 with h1;subst h1
  cases pu with
  | true=>exact ⟨p,arr,t,hj,h2,h3,h4,h5,h6,Ch (fun _ h=>h) (fun _ _=>rfl) _ _ _ (h8 rfl) rfl h7,h8,h9,iT⟩
  | false=>exact ⟨p,arr,t,hj,h2,h3,by rw [yA,RI];exact h4,h5,by rw [yA,RI];exact h6,ako hf h7,by simp,h9,iT⟩
 | mp rw ks vs=>
  obtain ⟨q,es,clock,h1,h2,h3,h4,h5,h6⟩:=h;rw [hm] at h1;injection h1 with h1;subst h1
  exact ⟨p,es,clock,hj,h2,AS hf _ _ h3,AS hf _ _ h4,h5,h6⟩
 | si s pos=>
  obtain ⟨q,t,h1,h2,h3,h4⟩:=h;rw [hm] at h1;injection h1 with h1;subst h1
  exact ⟨p,t,hj,h2,h3,h4⟩
 | lp tm ps as_ body st pe=>
  obtain ⟨q,l,hi,h1,h2,h3,h4,h5,h6,h7,h8⟩:=h;rw [hm] at h1;injection h1 with h1;subst h1
  exact ⟨p,l,hi,hj,h2,h3,h4,h5,h6,aaj hf h7,h8⟩
def Zl {i:Nat}:∀{l:List Nat} {k j:Nat},mD i l k=some j->k<=j/\l[j-k]? =some i
 | [],k,j,h=>by simp [mD] at h
 | x::r,k,j,h=>by
  simp only [mD] at h
  cases hb:yu x i with
  | true=>
   simp_all
  | false=>
   rw [hb] at h;obtain ⟨h1,h2⟩:=Zl h
   grind
def sW {a b:Nat}:yK a b=true↔a<b:=by simp_all
def LL {hp:Hp} {j:Nat} {o':Obj}:∀{l:List Nat} {k:Nat} {acc:Hp},ak (kQ hp f l k acc) j=some o'->
  (∃i id o,l[i]? =some id/\j=k+i/\ak hp id=some o/\o'=lP f o)\/ak acc j=some o'
 | [],k,acc,h=> .inr h
 | x::r,k,acc,h=>by
  simp only [kQ] at h
  cases hx:ak hp x with
  | none=>
   simp only [hx] at h;rcases LL h with ⟨i,id,o,h1,h2,h3,h4⟩ | h
   ·exact .inl ⟨i+1,id,o,by simpa using h1,by omega,h3,h4⟩
   ·grind
  | some o=>
   simp only [hx] at h;rcases LL h with ⟨i,id,o,h1,h2,h3,h4⟩ | h
   ·exact .inl ⟨i+1,id,o,by simpa using h1,by omega,h3,h4⟩
   ·rw [ir] at h;by_cases hc:k=j
    ·simp only [hc,y5,yc] at h;exact .inl ⟨0,x,o,by simp,by omega,hx,h.symm⟩
    ·grind
def LM {base:Nat} {j:Nat} {o':Obj}:∀{hp:Hp},ak (mw base f hp) j=some o'->j<base/\∃o,ak hp j=some o/\o'=lP f o
 | [],h=>by simp [mw,ak] at h
 | (i,q)::r,h=>by
  simp only [mw] at h
  cases hb:yK i base with
  | true=>
   rw [hb] at h;simp only [ym] at h;rw [ir] at h;by_cases hc:i=j
   ·simp only [hc,y5,yc] at h;exact ⟨by rw [<-hc];exact sW.1 hb,q,by rw [ir];simp [hc],h.symm⟩
   ·simp only [hc,yO] at h;obtain ⟨h1,o,h2,h3⟩:=LM h;exact ⟨h1,o,by rw [ir];simp [hc,h2],h3⟩
  | false=>
   rw [hb] at h;obtain ⟨h1,o,h2,h3⟩:=LM h;have hc:¬i=j:=fun e=>by
    have:=sW.2 h1
    grind
   exact ⟨h1,o,by rw [ir];simp [hc,h2],h3⟩
def oU (m:Mp) (base:Nat) (seen:List Nat):Mp:=fun j=>
 if j<base then m j else match seen[j-base]? with
  | some id=>if kP base seen id=some j then m id else none
  | none=>none
def Rc {base:Nat} {seen:List Nat} {j:Nat} {p:Pl} (h:oU m base seen j=some p):∃id,kP base seen id=some j/\m id=some p/\(j<base->id=j):=by
 unfold oU at h
 split at h
 ·rename_i hj;exact ⟨j,by simp [kP,sW.2 hj],h,fun _=>rfl⟩
 ·grind
def amq {base:Nat} {seen:List Nat}:EY (kP base seen) m (oU m base seen):=by
 intro id j h;have h0:=h;unfold kP at h
 cases hb:yK id base with
 | true=>
  rw [hb] at h;simp only [ym,yc] at h;subst h;simp [oU,sW.1 hb]
 | false=>
  rw [hb] at h;obtain ⟨h1,h2⟩:=Zl h
  have:¬j<base:=by omega
  simp only [oU,this,yO,h2,h0,y5]
def QQ {s:St} {tmps:Array yf} {live:List Nat} (ht:cw O m S w s.tm tmps) (hh:bf O m S w s.hp s.ct) (hb:s.base<=s.ct):
  ∃m',cw O m' S w (bD live s).tm tmps/\bf O m' S w (bD live s).hp (bD live s).ct/\(bD live s).base=s.base/\s.base<=(bD live s).ct/\cB m S w s.hp m' S w (bD live s).hp s.base:=by
 simp only [bD];generalize adV:reach s.hp s.base 100000 (fy (df s.tm live)++dz s.base s.hp) []=seen;have hr:=amq (m:=m) (base:=s.base) (seen:=seen);have bi:∀j p,oU m s.base seen j=some p->j<s.base+seen.length:=by
  intro j p h;unfold oU at h
  grind
 have back:∀j o' p,ak (kQ s.hp (kP s.base seen) seen s.base (mw s.base (kP s.base seen) s.hp)) j=some o'->oU m s.base seen j=some p->
   ∃id o,kP s.base seen id=some j/\ak s.hp id=some o/\m id=some p/\o'=lP (kP s.base seen) o:=by
  intro j o' p ho hm;obtain ⟨id,h1,h2,h3⟩:=Rc hm;rcases LL ho with ⟨i,VG,o,g1,g2,g3,g4⟩ | ho
  ·have hj:¬j<s.base:=by omega
   have:oU m s.base seen j=if kP s.base seen VG=some j then m VG else none:=by
    simp only [oU,hj,yO,show j-s.base=i by omega,g1]
   grind
  ·obtain ⟨g1,o,g2,g3⟩:=LM ho
   grind
 refine ⟨oU m s.base seen,?_,⟨?_,bi,?_,hh.slt,?_,?_,hh.lR,hh.gA,fun j o' ho=>(by
  rcases LL ho with ⟨i,VG,o,g1,g2,g3,g4⟩ | ho
  ·grind
  ·have:=(LM ho).1;omega)⟩,by trivial,by omega,⟨rfl,rfl,rfl,yC _,fun _ _ _=>rfl,fun _ h=>h,fun _ _=>rfl,fun _ h=> .inl h,?_,?_,fun _ r h=>⟨r,h⟩⟩⟩
 ·refine aaj hr (fun i=>?_);rcases Zk s.tm i live with h | h
  ·rw [h];exact ht i
  ·rw [h];simp only [aj]
 ·intro j o' p ho hm;obtain ⟨id,o,h1,h2,h3,rfl⟩:=back j o' p ho hm;exact amp hr h3 hm (hh.obj id o p h2 h3)
 ·intro i j oi oj pi pj hi hj bL gE e;obtain ⟨idi,o1,a1,a2,a3,_⟩:=back i oi pi hi bL;obtain ⟨idj,o2,b1,b2,b3,_⟩:=back j oj pj hj gE
  have:=hh.inj idi idj o1 o2 pi pj a2 b2 a3 b3 e
  grind
 ·intro j p hm;obtain ⟨id,_,h2,_⟩:=Rc hm;exact hh.blt id p h2
 ·intro j p hm;obtain ⟨id,_,h2,_⟩:=Rc hm;exact hh.low id p h2
 ·rintro b ⟨j,o',p,h1,h2,h3⟩;obtain ⟨id,o,_,g2,g3,_⟩:=back j o' p h1 h2;exact .inl ⟨id,o,p,g2,g3,h3⟩
 ·intro id p hid hm;simp [oU,hid,hm]
end
end
section
open Go
section
variable {O:bA} {m:Mp} {S:Nat->Prop} {w:yi} {hp:Hp} {ct:Nat}
def aak (hh:bf O m S w hp ct) (id:Nat):bf O m S w (dA hp id) ct:=by
 have sub:∀i o,ak (dA hp id) i=some o->ak hp i=some o:=fun i o h=>by
  rw [HK] at h
  grind
 exact ⟨fun i o p h hm=>hh.obj i o p (sub i o h) hm,hh.lt,fun i j oi oj pi pj hi hj=>hh.inj i j oi oj pi pj (sub i oi hi) (sub j oj hj),hh.slt,hh.blt,hh.low,hh.lR,hh.gA,fun i o h=>hh.bi i o (sub i o h)⟩
def abl {id b:Nat} (h:eE m (dA hp id) b):eE m hp b:=by
 obtain ⟨i,o,p,h1,h2,h3⟩:=h;rw [HK] at h1;by_cases hc:id=i
 ·grind
 ·simp only [hc,yO] at h1;exact ⟨i,o,p,h1,h2,h3⟩
def X6 (hh:bf O m S w hp ct) {id:Nat} {o:Obj} {p:Pl} (hg:ak hp id=some o) (hm:m id=some p):¬eE m (dA hp id) p.b:=by
 rintro ⟨i,o',q,h1,h2,h3⟩;rw [HK] at h1;by_cases hc:id=i
 ·grind
 ·simp only [hc,yO] at h1;exact hc (hh.inj i id o' o q p h1 hg h2 hm h3).symm
def aoM {ao:Hp} (hd:j0 hp ao) {b:Nat} (h:eE m ao b):eE m hp b:=by
 obtain ⟨i,o,p,h1,h2,h3⟩:=h
 have:=hd i
 rw [h1] at this
 cases hq:ak hp i with
 | none=>rw [hq] at this;cases this
 | some q=>exact ⟨i,q,p,hq,h2,h3⟩
def YA {lo:Nat} {v v':AV} {ao:Hp} {n:Nat} (hh:bf O m S w hp ct) (hf:freeze n hp v=some (v',ao)) {u:yf} (hv:aj O.ai m S w v u):
  ∃S',bf O m S' w ao ct/\(∀b,S b->S' b)/\(∀b,S' b->S b\/eE m hp b)/\aR v'=true/\aj O.ai fq S' w v' u/\iB O.ai S' w lo v' u []:=by
 obtain ⟨h1,h2,h3⟩:=Q6 (O:=O) hf;obtain ⟨S',g1,g2,g3⟩:=abc hh h1 (fun id o p ho hm=>by
  have:=h2 id
  rw [ho] at this
  cases hq:ak hp id with
  | none=>rw [hq] at this;cases this
  | some q=>exact ⟨q,rfl⟩) (yC _) (fun id o ho=>(by
  have:=h2 id
  rw [ho] at this
  cases hq:ak hp id with
  | none=>rw [hq] at this;cases this
  | some q=>exact hh.bi id q hq))
 obtain ⟨k1,k2⟩:=h3 ao m S' w ct dw.refl g1;have hr:=k1 u (mi (fun _ _ h=>h) g2 (fun _ _=>rfl) v u hv);have bX:aj O.ai fq S' w v' u:=pX (fun _ h=>h) (fun _ _=>rfl) v' u k2 hr;refine ⟨S',g1,g2,g3,k2,bX,?_⟩
 cases v' with
 | cJ _ _ _ _=>simp [aR] at k2
 | _=>exact ⟨rfl,bX,k2⟩
def akp {S':Nat->Prop} {lo:Nat} {v:AV} {u:yf} {bs:List Nat} (hS:∀b,S b->S' b) (hn:∀b,b∈bs->¬S' b) (h:iB O.ai S w lo v u bs):iB O.ai S' w lo v u bs:=by
 cases v with
 | cJ ex sz n cs=>
  obtain ⟨b,o,c,arr,t,rfl,rfl,g1,g2,g3,g4,g5,g6,g7,g8,g9⟩:=h;exact ⟨b,o,c,arr,t,rfl,rfl,g1,g2,g3,hn b (by simp),g5,g6,g7,Ch hS (fun _ _=>rfl) cs b o g9 rfl g8,g9⟩
 | _=>simp only [iB] at h ⊢;exact ⟨h.1,pX hS (fun _ _=>rfl) _ _ h.2.2 h.2.1,h.2.2⟩
def Zm {lo:Nat} {v v':AV} {ao:Hp} {n:Nat} (hh:bf O m S w hp ct) (hf:oJ n hp v=some (v',ao)) {u:yf} (hv:aj O.ai m S w v u) (bq:∀b,eE m hp b->lo<=b):
  ∃S' bs,bf O m S' w ao ct/\(∀b,S b->S' b)/\(∀b,S' b->S b\/eE m hp b)/\iB O.ai S' w lo v' u bs/\bs.Nodup/\(∀b,b∈bs->eE m hp b/\¬eE m ao b)/\(∀b,eE m ao b->eE m hp b):=by
 have frozen:freeze n hp v=some (v',ao)->∃S' bs,bf O m S' w ao ct/\(∀b,S b->S' b)/\(∀b,S' b->S b\/eE m hp b)/\iB O.ai S' w lo v' u bs/\bs.Nodup/\(∀b,b∈bs->eE m hp b/\¬eE m ao b)/\(∀b,eE m ao b->eE m hp b):=by
  intro hz;obtain ⟨S',g1,g2,g3,g4,g5,g6⟩:=YA (lo:=lo) hh hz hv
  exact ⟨S',[],g1,g2,g3,g6,by simp,by simp,fun b hb=>aoM (Q6 (O:=O) hz).2.1 hb⟩
 unfold oJ at hf
 split at hf
 ·rename_i id o k
  split at hf
  ·rename_i ex sz cs hg
   cases hc:Nat.ble (o+k*sz) cs.length with
   | false=>rw [hc] at hf;cases hf
   | true=>
    rw [hc] at hf;obtain ⟨rfl,rfl⟩:=hf;have hle:=Nat.le_of_ble_eq_true hc;obtain ⟨p,c,hm,rfl,h1,h2⟩:=hv;obtain ⟨p',arr,t,g1,g2,g3,g4,g5,g6,g7,g8,g9,g10⟩:=hh.obj id _ _ hg hm;rw [hm] at g1;injection g1 with g1
    subst g1;rw [g3] at h2;refine ⟨S,[p.b],aak hh id,fun _ h=>h,fun _ h=> .inl h,?_,by simp,?_,fun b hb=>abl hb⟩
    ·refine ⟨p.b,p.o+o,c,arr,t,rfl,rfl,h1,?_,bq _ (Iv hg hm),g9 rfl,g2,?_,by omega,?_,Cg _ (AL _ _ (g8 rfl))⟩
     ·intro hx;simp only [yg] at hx;have e1:=yp hx.2;have e2:=sW.1 hx.1.2;have e3:=g6 hx.1.1
      have:c*sz=k*sz:=by omega
      exact Nat.eq_of_mul_eq_mul_right e2 this
     ·simp only [slice,List.length_take,List.length_drop];omega
     ·exact Ch (fun _ h=>h) (fun _ _=>rfl) _ _ _ (Cg _ (AL _ _ (g8 rfl))) rfl (Ci _ _ _ _ (qZ _ _ _ _ g7))
    ·intro b hb;simp only [List.mem_singleton] at hb;subst hb;exact ⟨Iv hg hm,X6 hh hg hm⟩
  ·grind
 ·grind
def YB {lo n:Nat}:∀{vs eD:List AV} {us:List yf} {hp ao:Hp} {S:Nat->Prop},bf O m S w hp ct->rk n hp vs=some (eD,ao)->au O.ai m S w vs us->(∀b,eE m hp b->lo<=b)->
  ∃S' bs,(∀b,S b->S' b)/\(∀b,S' b->S b\/eE m hp b)/\kW O.ai S' w lo eD us bs/\bs.Nodup/\(∀b,b∈bs->eE m hp b)/\(∀b,S' b->b<w.heap.size)
 | [],eD,us,hp,ao,S,hh,hf,hv,bq=>by
  obtain ⟨rfl,rfl⟩:=hf;exact ⟨S,[],fun _ h=>h,fun _ h=> .inl h,by simp only [kW];exact ⟨hv,by trivial⟩,by simp,by simp,hh.slt⟩
 | v::r,eD,us,hp,ao,S,hh,hf,hv,bq=>by
  simp only [rk] at hf
  cases h1:oJ n hp v with
  | none=>simp [h1] at hf
  | some q=>
   obtain ⟨v1,bF⟩:=q;simp only [h1] at hf
   cases h2:rk n bF r with
   | none=>simp [h2] at hf
   | some q2=>
    simp only [h2,yc,yk] at hf;obtain ⟨rfl,rfl⟩:=hf;obtain ⟨u,t,rfl,eG,cX⟩:=hv;obtain ⟨S1,b1,k1,k2,k3,k4,k5,k6,k7⟩:=Zm (lo:=lo) hh h1 eG bq;obtain ⟨S2,b2,g1,g2,g3,g4,g5,g6⟩:=YB (us:=t) k1 h2 (iq (fun _ _ h=>h) k2 (fun _ _=>rfl) _ _ cX) (fun b hb=>bq b (k7 b hb));have TG:∀b,b∈b1->¬S2 b:=by
     intro b hb hs;rcases g2 b hs with h | h
     ·cases v1 with
      | cJ ex sz n cs=>
       simp only [iB] at k4
       grind
      | _=>simp only [iB] at k4;rw [k4.1] at hb;cases hb
     ·grind
    refine ⟨S2,b1++b2,fun b hb=>g1 b (k2 b hb),fun b hb=>?_,?_,?_,?_,g6⟩
    ·grind
    ·simp only [kW];exact ⟨u,t,b1,b2,rfl,rfl,akp g1 TG k4,g3⟩
    ·grind
    ·grind
def Re {lo:Nat}:∀{cs:List AV} {us:List yf},aH cs=true->au O.ai fq S w cs us->kW O.ai S w lo cs us []
 | [],us,_,h=>by simp only [au] at h;exact ⟨h,by trivial⟩
 | c::r,us,hp,h=>by
  obtain ⟨u,t,rfl,h1,h2⟩:=h;simp only [aH,yg] at hp;refine ⟨u,t,[],[],rfl,rfl,?_,Re hp.2 h2⟩
  cases c with
  | cJ _ _ _ _=>simp [aR] at hp
  | _=>exact ⟨rfl,h1,hp.1⟩
def akq {lo:Nat} {v r:AV} {u:yf} (hh:bf O m S w hp ct) (hr:result hp v=some r) (hv:aj O.ai m S w v u) (bq:∀b,eE m hp b->lo<=b):
  ∃S',(∀b,S b->S' b)/\(∀b,S' b->S b\/eE m hp b)/\(∀b,S' b->b<w.heap.size)/\nL O.ai S' w lo r u:=by
 unfold result at hr
 split at hr
 ·rename_i vs
  split at hr
  ·cases h1:rk deep hp vs with
   | none=>simp [h1] at hr
   | some q=>
    simp only [h1,yc] at hr;subst hr;obtain ⟨us,rfl,hv⟩:=hv;obtain ⟨S',bs,g1,g2,g3,g4,g5,g6⟩:=YB (lo:=lo) hh h1 hv bq;exact ⟨S',g1,g2,g6,us,bs,rfl,g3,g4⟩
  ·cases h1:freeze deep hp (.ap vs) with
   | none=>simp [h1] at hr
   | some q=>
    obtain ⟨v',ao⟩:=q;simp only [h1,yc] at hr;subst hr;obtain ⟨S',g1,g2,g3,g4,g5,g6⟩:=YA (lo:=lo) hh h1 hv;refine ⟨S',g2,g3,g1.slt,?_⟩
    cases v' with
    | ap cs=>
     obtain ⟨xs,rfl,g5⟩:=g5;exact ⟨xs,[],rfl,Re (by simpa [aR] using g4) g5,by simp⟩
    | _=>exact ⟨[],g6⟩
 ·rename_i Pp
  cases h1:oJ deep hp v with
  | none=>simp [h1] at hr
  | some q=>
   obtain ⟨v',ao⟩:=q;simp only [h1,yc] at hr;subst hr;obtain ⟨S',bs,g1,g2,g3,g4,_⟩:=Zm (lo:=lo) hh h1 hv bq;refine ⟨S',g2,g3,g1.slt,?_⟩
   cases v' with
   | ap cs=>
    obtain ⟨rfl,h2,h3⟩:=g4;obtain ⟨xs,rfl,h2⟩:=h2;exact ⟨xs,[],rfl,Re (by simpa [aR] using h3) h2,by simp⟩
   | _=>exact ⟨bs,g4⟩
end
end
section
open Go
def WF (ro:Option Nat):Fence:={Fence.wide with round:=ro}
section
variable {O:bA}
def ab5 (O:bA) (hp:Hp) (ct:Nat) (l:Nat) (xs:List AV) (v:AV) (ao:Hp) (bg:Nat):Prop:=
 ∀(m:Mp) (S:Nat->Prop) (w:yi) (args:Array yf) (p:Pl),bf O m S w hp ct->m l=some p->au O.ai m S w xs args.toList->
  ∃f tmps assign body,(Instr.yield p.b args).run O.P w= .ok (.round p.b f tmps assign body) w/\RK Fence.wide 0 O.P p.b f tmps assign body w (sO O m S w hp ct v ao bg)
structure nD (O:bA) (run:cK):Prop where
 pure:∀n vals r,bO O.prog O.aU run n vals=some r->eX O n vals r
 heap:∀hp ct n vals v ao bg,iH O.prog O.aU run hp ct n vals=some (v,ao,bg)->Be O n hp ct vals v ao bg
 round:∀hp ct l xs v ao bg,jt run hp ct l xs=some (v,ao,bg)->ab5 O hp ct l xs v ao bg
end
section
variable {P:y6} {o:yZ} {a:Act} {w:yi} {ro:Option Nat} {next:Act->yi->Prop} {Q:uz->Act->yi->Prop}
def LO {c:tR} {f:xA} (ho:o.op= .call c) (hc:c.callee= .value f) {g:tk} {fi ca:Array yf} (hf:a.eval f= .func (.func g) fi ca) {R:uC->yi->Prop}
  (h:AY P g (fi++c.args.map a.eval++ca) w R) (hn:∀e w',R e w'->∃u,e= .returned u/\next (a.put o.dst u) w'):o.wpIn (WF ro) 0 P a w next Q:=by
 have fN:(o.semAt ro a.eval).run P w=(callFunc g (fi++c.args.map a.eval++ca)).run P w:=by
  rw [Oper.semAt_eq _ _ _ (fun c' h'=>by rw [ho] at h';cases h')];simp only [execOp,ho,resolve,hc,Deferred.ofValue,hf,Sem.run_bind,Sem.run_pure,Result.andThen_ok,invoke]
 refine ⟨fun _ _=>trivial,?_⟩;show o.uponIn (WF ro) 0 P a next Q ((o.semAt ro a.eval).run P w)
 rw [fN];rcases h with ⟨h1,h2⟩ | ⟨u,w',h1,h2⟩
 ·rw [h1,Oper.uponIn_enter];refine ⟨fun h=>by simp [WF,Fence.wide] at h,?_⟩;have h3:CallsIn (WF ro) 0 P g (fi++c.args.map a.eval++ca) w R:=h2;refine CallsIn.mono h3 (fun e w' he=>?_);obtain ⟨u,rfl,hq⟩:=hn e w' he;exact hq
 ·rw [h1];obtain ⟨u',e,hq⟩:=hn _ _ h2;injection e with e
  subst e;exact hq
def amr {c:tR} {f:xA} (ho:o.op= .call c) (hc:c.callee= .value f) {l:Nat} (hf:a.eval f= .func (.yield l) #[] #[]) {R:uC->yi->Prop} {g:tk} {tmps:Array yf} {assign body:Code}
  (hy:(Instr.yield l (c.args.map a.eval)).run P w= .ok (.round l g tmps assign body) w) (h:RK Fence.wide 0 P l g tmps assign body w R) (hn:∀e w',R e w'->∃u,e= .returned u/\next (a.put o.dst u) w'):o.wpIn (WF ro) 0 P a w next Q:=by
 have fN:(o.semAt ro a.eval).run P w= .ok (.round l g tmps assign body) w:=by
  rw [Oper.semAt_eq _ _ _ (fun c' h'=>by rw [ho] at h';cases h')];simp only [execOp,ho,resolve,hc,Deferred.ofValue,hf,Sem.run_bind,Sem.run_pure,Result.andThen_ok,invoke,Array.empty_append];exact hy
 refine ⟨fun _ _=>trivial,?_⟩;show o.uponIn (WF ro) 0 P a next Q ((o.semAt ro a.eval).run P w)
 rw [fN,Oper.uponIn_round];refine ⟨fun h=>by simp [WF,Fence.wide] at h,?_⟩;have h3:RK (WF ro) 0 P l g tmps assign body w R:=h;refine RoundIn.mono h3 (fun e w' he=>?_);obtain ⟨u,rfl,hq⟩:=hn e w' he;exact hq
def M0 {n:Next} {u:yf} {w':yi} (hd:∀c,o.op≠.defer c) (h:(execOp a.eval o).run P w= .ok n w') (hn:n= .value u\/(n= .skip/\u=undef)) (hq:next (a.put o.dst u) w'):o.wpIn (WF ro) 0 P a w next Q:=by
 refine ⟨fun _ _=>trivial,?_⟩;show o.uponIn (WF ro) 0 P a next Q ((o.semAt ro a.eval).run P w)
 rw [Oper.semAt_eq _ _ _ hd,h];rcases hn with rfl | ⟨rfl,rfl⟩
 ·exact hq
 ·exact hq
end
def zI (P:y6) (H:Hint) (q:Op) (o:yZ):Prop:=
 (∃k,q=bt P H k o)\/(∃c f rs,o.op= .call c/\c.callee= .value f/\q= .iy rs (aT H f) (ia H c.args.toList))\/
  ∃t x y sz rs,o.op= .store t x y/\cT P t=some sz/\q= .jA rs sz (aT H x) (aT H y)
def mZ:Op->Op
 | .iy _ f xs=> .iy [] f xs
 | .jA _ s x v=> .st s x v
 | o=>o
section
variable {O:bA} {H:Hint} {m:Mp} {S:Nat->Prop} {w:yi} {tm:Env} {a:Act} {hp:Hp} {ct:Nat} {self:cK} {ro:Option Nat} {next:Act->yi->Prop} {Q:uz->Act->yi->Prop}
def MM {o:yZ} {k:Nat} {md:Md} {x:X} {xs:List X} (h:bt O.P H k o= .call md x xs) (hb:x≠.c .undef):∃c f,o.op= .call c/\c.callee= .value f/\x=aT H f/\xs=ia H c.args.toList:=by
 have nb:bad= .call md x xs->False:=fun h=>by simp only [bad,Op.call.injEq] at h;exact hb h.2.1.symm
 cases ho:o.op with
 | call c=>
  obtain ⟨callee,args,ts⟩:=c;simp only [bt,ho] at h
  split at h
  ·rename_i f;cases hm:H.mode k<;>simp only [hm,Op.call.injEq,reduceCtorEq] at h
   all_goals exact ⟨_,f,rfl,rfl,h.2.1.symm,h.2.2.symm⟩
  ·repeat' split at h
   all_goals first
    | exact (nb h).elim
    | (cases h;done)
    | (revert h;generalize yu _ _=bb;intro h;cases bb<;>first | exact (nb h).elim | (cases h;done))
  ·exact (nb h).elim
 | binOp op t x' y ty=>
  cases op<;>simp only [bt,ho,rn,sT] at h
  case eql=>
        repeat' split at h
        all_goals first
         | exact (nb h).elim
         | (cases h;done)
         | (cases cY:(O.P.stoodInHeld t||O.P.eqGuardType O.P.depth t)<;>rw [cY] at h<;>first | exact (nb h).elim | (cases h;done))
  case neq=>
        repeat' split at h
        all_goals first
         | exact (nb h).elim
         | (cases h;done)
         | (cases cY:(O.P.stoodInHeld t||O.P.eqGuardType O.P.depth t)<;>rw [cY] at h<;>first | exact (nb h).elim | (cases h;done))
  all_goals cases h
 | buildSlice t n parts=>
  simp only [bt,ho] at h
  repeat' split at h
  all_goals first
   | exact (nb h).elim
   | (cases h;done)
   | (revert h;generalize Nat.ble _ _=bb;intro h;cases bb<;>first | exact (nb h).elim | (simp only [ym] at h;cases h;done))
 | makeMap t r=>
  cases r<;>simp only [bt,ho] at h
  ·repeat' split at h
   all_goals first
    | exact (nb h).elim
    | (cases h;done)
  ·exact (nb h).elim
 | next x' b=>
  cases b<;>simp only [bt,ho] at h
  ·exact (nb h).elim
  ·cases h
 | _=>
  simp only [bt,ho] at h
  (repeat' split at h)
  all_goals first
   | contradiction
   | exact (nb h).elim
   | (cases h;done)
def ajh {o:yZ} {k:Nat} {r:AV×Hp×Nat} (hv:bw O.prog O.aU self tm hp ct (bt O.P H k o)=some r):∀c,o.op≠.defer c:=by
 intro c ho;simp [bt,ho,bad,bw,dF,aA] at hv
end
end
section
open Go
section
variable {O:bA} {H:Hint} {m:Mp} {S:Nat->Prop} {w:yi} {tm:Env} {a:Act} {hp ao Hq:Hp} {ct bg cH:Nat} {self:cK} {ro:Option Nat} {next:Act->yi->Prop} {Q:uz->Act->yi->Prop}
def akr {g:Go.Obj} {p:Pl} {S':Nat->Prop} {base:Nat} (hh:bf O m S w Hq cH) (hi:m ct=none) (hb:p.b=w.heap.size) (h1:∀b,S b->S' b) (h2:∀b,S' b->S b\/b=w.heap.size):
  cB m S w Hq (fO m ct p) S' (w.alloc g) Hq base where
 os:=rfl
 tape:=rfl
 output:=rfl
 size:=by simp
 same b hb _:=alloc_old hb
 sub:=h1
 still b hb:=alloc_old (hh.slt b hb)
 new b hb:=(h2 b hb).imp (fun h=>h) (fun h=> .inr (by omega))
 own b hb:=by
  obtain ⟨i,o,q,g1,g2,g3⟩:=hb;by_cases hc:i=ct
  ·subst hc;rw [eJ] at g2
   grind
  ·rw [eI hc] at g2;exact .inl ⟨i,o,q,g1,g2,g3⟩
 old i q _ h:=kN hi i q h
 loops b r hb:=⟨r,(alloc_old (xx.1 hb).1).trans hb⟩
def X7 {Nl vals:List AV} {us:List yf} {bF:Hp} (hz:cO deep hp Nl=some (vals,bF)) (hl:dw bF Hq) (hh:bf O m S w Hq cH) (hr:au O.ai m S w Nl us):au O.ai fq S w vals us/\aH vals=true:=by
 obtain ⟨_,_,h3⟩:=QN (O:=O) hz;obtain ⟨k1,k2⟩:=h3 Hq m S w cH hl hh;exact ⟨sN (fun _ h=>h) (fun _ _=>rfl) _ _ k2 (k1 us hr),k2⟩
def Sa (hh:bf O m S w Hq cH):Bc O w:=⟨hh.lR,hh.gA⟩
def Mk (hH:fT O H) (ht:cw O m S w tm a.tmps) {f:xA} {g:Nat} {first cap:List AV} {args:Array xA} (hf:aA tm (aT H f)= .fn (.f g) first cap):
  ∃fi ca:Array yf,a.eval f= .func (.func (O.ai g)) fi ca/\au O.ai m S w (first++(dG tm (ia H args.toList)++cap)) (fi++args.map a.eval++ca).toList:=by
 have rf:=cI hH ht f;rw [hf] at rf;obtain ⟨fi,ca,h1,h2,h3⟩:=rf;refine ⟨fi,ca,h1,?_⟩
 have:=mf h2 (mf (CA hH ht args.toList) h3)
 simp_all
def aji (hC:nD O self) (hH:fT O H) {o:yZ} {c:tR} {f:xA} (ho:o.op= .call c) (iU:c.callee= .value f) {g:Nat} {first cap vals:List AV} {bF:Hp} {r:AV}
  (hf:aA tm (aT H f)= .fn (.f g) first cap) (hz:cO deep hp (first++(dG tm (ia H c.args.toList)++cap))=some (vals,bF)) (hr:bO O.prog O.aU self g vals=some r)
  (hl:dw bF Hq) (ht:cw O m S w tm a.tmps) (hh:bf O m S w Hq cH)
  (hn:∀u S' w',bf O m S' w' Hq cH->aj O.ai m S' w' (shut r) u->cB m S w Hq m S' w' Hq cH->next (a.put o.dst u) w'):o.wpIn (WF ro) 0 O.P a w next Q:=by
 obtain ⟨fi,ca,h1,h2⟩:=Mk hH ht (args:=c.args) hf;obtain ⟨h3,h4⟩:=X7 hz hl hh h2;refine LO ho iU h1 (hC.pure g vals r hr w S _ (Sa hh) hh.slt h3 h4) ?_;rintro e w' ⟨u,S',rfl,hw,g1,g2,g3,g4⟩;refine ⟨u,rfl,?_⟩;obtain ⟨S2,k1,k2,k3⟩:=Zj g4 m;have hS:∀b,S b->S2 b:=fun b hb=>k1 b (g1 b hb)
 have Kw:∀b,S2 b->S b\/w.heap.size<=b:=fun b hb=>(k2 b hb).elim (g2 b) (fun h=> .inr h.1)
 have hl:∀b,S2 b->b<w'.heap.size:=fun b hb=>(k2 b hb).elim (g3 b) (fun h=>h.2)
 exact hn u S2 w' (Ee hh hw hS Kw hl) k3 (Co hh hw hS Kw)
def aks (hC:nD O self) (hH:fT O H) {o:yZ} {c:tR} {f:xA} (ho:o.op= .call c) (iU:c.callee= .value f) {g:Nat} {first cap vals:List AV} {bF:Hp} {r:AV}
  (hf:aA tm (aT H f)= .fn (.f g) first cap) (hz:cO deep hp (first++(dG tm (ia H c.args.toList)++cap))=some (vals,bF)) (hr:bO O.prog O.aU self g vals=some r)
  (hl:dw (own bF ct r).2.1 Hq) (fR:(own bF ct r).2.2<=cH) (bi:∀id o,ak hp id=some o->id<ct) (BS:∀id,ct<=id->id<(own bF ct r).2.2->m id=none)
  (ht:cw O m S w tm a.tmps) (hh:bf O m S w Hq cH)
  (hn:∀u m' S' w',bf O m' S' w' Hq cH->dM m m'->(∀id p,m' id=some p->m id=some p\/(ct<=id/\id<(own bF ct r).2.2))->aj O.ai m' S' w' (own bF ct r).1 u->cB m S w Hq m' S' w' Hq cH->next (a.put o.dst u) w'):
  o.wpIn (WF ro) 0 O.P a w next Q:=by
 obtain ⟨fi,ca,h1,h2⟩:=Mk hH ht (args:=c.args) hf;obtain ⟨z1,z2,z3⟩:=QN (O:=O) hz;have TH:∀id o,ak bF id=some o->id<ct:=fun id o h=>by
  have:=z2 id
  rw [h] at this
  cases hq:ak hp id with
  | none=>rw [hq] at this;cases this
  | some q=>exact bi id q hq
 have aqO:∀id o,ak bF id=some o->ak (own bF ct r).2.1 id=some o:=fun id o h=>by
  cases r with
  | ap vs=>exact ML TH id o h
  | _=>exact R9 TH id o h
 have ni:dw bF Hq:=fun id o h=>hl id o (aqO id o h)
 obtain ⟨h3,h4⟩:=X7 hz ni hh h2;refine LO ho iU h1 (hC.pure g vals r hr w S _ (Sa hh) hh.slt h3 h4) ?_;rintro e w' ⟨u,S',rfl,hw,g1,g2,g3,g4⟩;refine ⟨u,rfl,?_⟩;have BT:=Ee hh hw g1 g2 g3;have n7:=Co (base:=cH) hh hw g1 g2;obtain ⟨m',S2,k1,k2,k3,k4,k5,k6⟩:=aqN (lo:=w.heap.size) BT hl fR TH BS g4 hh.gA (fun j q hq=>hh.blt j q hq);refine hn u m' S2 w' k1 k2 (fun id p h=>(k3 id p h).imp (fun h=>h) (fun h=>⟨h.1,h.2.1⟩)) k4 ⟨hw.os,hw.tape,hw.output,hw.size,fun b hb _=>hw.same b hb,fun b hb=>k5 b (g1 b hb),fun b hb=>hw.same b (hh.slt b hb),?_,?_,fun i q _ h=>k2 i q h,n7.loops⟩
 ·grind
 ·rintro b ⟨i,ob,q,q1,q2,q3⟩;rcases k3 i q q2 with h | h
  ·exact .inl ⟨i,ob,q,q1,h,q3⟩
  ·grind
def quiet_step (hC:nD O self) (hH:fT O H) {o:yZ} {q:Op} {v:AV} (hk:bH q<=1) (hq:zI O.P H q o) (hd:∀c,o.op≠.defer c) (hv:bw O.prog O.aU self tm hp ct q=some (v,ao,bg)) (hl:dw ao Hq) (fR:bg<=cH)
  (bi:∀id o,ak hp id=some o->id<ct) (BS:∀id,ct<=id->id<bg->m id=none) (ht:cw O m S w tm a.tmps) (hh:bf O m S w Hq cH)
  (hn:∀u m' S' w',bf O m' S' w' Hq cH->dM m m'->(∀id p,m' id=some p->m id=some p\/(ct<=id/\id<bg))->aj O.ai m' S' w' v u->cB m S w Hq m' S' w' Hq cH->next (a.put o.dst u) w'):
  o.wpIn (WF ro) 0 O.P a w next Q:=by
 have jU:∃k,q=bt O.P H k o:=by
  rcases hq with h | ⟨c,f,rs,_,_,rfl⟩ | ⟨_,_,_,_,_,_,_,rfl⟩
  ·grind
  ·simp [bH] at hk
  ·simp [bH] at hk
 obtain ⟨k,hq⟩:=jU;have read:∀{v:AV},bE tm hp q=some v->dw hp Hq->(∀u m' S' w',bf O m' S' w' Hq cH->dM m m'->(∀id p,m' id=some p->m id=some p\/(ct<=id/\id<bg))->aj O.ai m' S' w' v u->cB m S w Hq m' S' w' Hq cH->next (a.put o.dst u) w')->o.wpIn (WF ro) 0 O.P a w next Q:=by
  intro v hr hl hn;have bX:=akl hl hr;rw [hq] at bX;obtain ⟨u,h1,h2⟩:=abb hH ht hh bX;exact M0 hd h1 (.inl rfl) (hn u m S w hh dM.refl (fun _ _ h=> .inl h) h2 cB.refl)
 have makes:∀{v:AV} {b:Obj},da tm hp ct q=some (v,b)->dw ((ct,b)::hp) Hq->ct+1<=cH->m ct=none->(∀u m' S' w',bf O m' S' w' Hq cH->dM m m'->(∀id p,m' id=some p->m id=some p\/(ct<=id/\id<ct+1))->aj O.ai m' S' w' v u->cB m S w Hq m' S' w' Hq cH->next (a.put o.dst u) w')->o.wpIn (WF ro) 0 O.P a w next Q:=by
  intro v b hr hl hc hi hn;rw [hq] at hr;have bX:da tm Hq ct (bt O.P H k o)=some (v,b):=by rw [<-hr];exact Hv (fun _ _=>rfl)
  obtain ⟨u,g,p,h1,h2,h3,h4⟩:=aoG hH ht hh bX;obtain ⟨S',k1,k2,k3⟩:=aac (i:=ct) (g:=g) (p:=p) hh hi hc h2 (fun o' lA=>by
   obtain ⟨o'',g1,g2⟩:=hl ct b (by rw [ir];simp)
   rw [lA] at g1;injection g1 with g1
   subst g1
   have:=X4 g2 eJ (h4 _ (kN hi) eJ).1 h3
   rwa [h2] at this)
  refine M0 hd h1 (.inl rfl) (hn u _ S' _ k1 (kN hi) (fun id q hq=>?_) (mi (fun _ _ h=>h) k2 (fun _ _=>rfl) _ _ (h4 _ (kN hi) eJ).2) (akr hh hi h2 k2 k3));by_cases hc:id=ct
  ·grind
  ·rw [eI hc] at hq;exact .inl hq
 have cU:∀{q:Op},(match da tm hp ct q with | some (v,b)=>some (v,(ct,b)::hp,ct+1) | none=>(none:gD))=some (v,ao,bg)->∃b,da tm hp ct q=some (v,b)/\ao=(ct,b)::hp/\bg=ct+1:=by
  intro q h
  cases hm:da tm hp ct q with
  | none=>simp [hm] at h
  | some r=>
   grind
 have lC:∀{q:Op},(match bE tm hp q with | some v=>some (v,hp,ct) | none=>(none:gD))=some (v,ao,bg)->bE tm hp q=some v/\ao=hp/\bg=ct:=by
  intro q h
  cases hm:bE tm hp q with
  | none=>simp [hm] at h
  | some r=>
   grind
 have Iw:(∃b,da tm hp ct q=some (v,b)/\ao=(ct,b)::hp/\bg=ct+1)->o.wpIn (WF ro) 0 O.P a w next Q:=by
  grind
 have aqP:(bE tm hp q=some v/\ao=hp/\bg=ct)->o.wpIn (WF ro) 0 O.P a w next Q:=by
  grind
 cases q with
 | st _ _ _=>simp [bH] at hk
 | pn _ _ _ _=>simp [bH] at hk
 | pq _=>simp [bH] at hk
 | dL _ _ _ _=>simp [bH] at hk
 | pv _ _ _=>simp [bH] at hk
 | iy _ _ _=>simp [bH] at hk
 | jA _ _ _ _=>simp [bH] at hk
 | box s x=>exact Iw (cU (by simp only [bw] at hv;exact hv))
 | bN n s z ps=>exact Iw (cU (by simp only [bw] at hv;exact hv))
 | ig s b z x y=>exact Iw (cU (by simp only [bw] at hv;exact hv))
 | z8=>exact Iw (cU (by simp only [bw] at hv;exact hv))
 | po x=>exact Iw (cU (by simp only [bw] at hv;exact hv))
 | call md x xs=>
  cases md with
  | heap=>simp [bH] at hk
  | dyn=>simp [bH] at hk
  | pure=>
   simp only [bw,dF] at hv
   split at hv
   ·rename_i g first cap hx
    (try simp only at hv)
    cases hz:cO deep hp (first++(dG tm xs++cap)) with
    | none=>simp [hz] at hv
    | some z=>
     obtain ⟨vals,bF⟩:=z;simp only [hz] at hv
     cases hr:bO O.prog O.aU self g vals with
     | none=>simp [hr] at hv
     | some r=>
      simp only [hr,yc,yk] at hv;obtain ⟨rfl,rfl,rfl⟩:=hv;obtain ⟨c,f,ho,iU,rfl,rfl⟩:=MM hq.symm (by rintro rfl;simp [aA] at hx);exact aji hC hH ho iU hx hz hr hl ht hh (fun u S' w' h1 h2 h3=>hn u m S' w' h1 dM.refl (fun _ _ h=> .inl h) h2 h3)
   ·simp at hv
   ·cases hv
  | own=>
   simp only [bw,dF] at hv
   split at hv
   ·rename_i g first cap hx
    (try simp only at hv)
    cases hz:cO deep hp (first++(dG tm xs++cap)) with
    | none=>simp [hz] at hv
    | some z=>
     obtain ⟨vals,bF⟩:=z;simp only [hz] at hv
     cases hr:bO O.prog O.aU self g vals with
     | none=>simp [hr] at hv
     | some r=>
      simp only [hr,yc] at hv;obtain ⟨c,f,ho,iU,rfl,rfl⟩:=MM hq.symm (by rintro rfl;simp [aA] at hx);have e1:v=(own bF ct r).1:=by rw [hv]
      have e2:ao=(own bF ct r).2.1:=by rw [hv]
      have e3:bg=(own bF ct r).2.2:=by rw [hv]
      subst e1;subst e2;subst e3;exact aks hC hH ho iU hx hz hr hl fR bi BS ht hh hn
   ·simp at hv
   ·cases hv
 | _=>exact aqP (lC (by simp only [bw] at hv;exact hv))
end
end
end VE
