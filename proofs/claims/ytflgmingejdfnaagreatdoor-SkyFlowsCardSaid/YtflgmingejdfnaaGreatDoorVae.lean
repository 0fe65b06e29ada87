import Derived.RangeFuncLeaves
import Derived.Test.YtflgmingejdfnaaGreatDoorVad
set_option linter.all false
set_option maxRecDepth 100000
open Array renaming getElem?_eq_some_iff→xz
open Bool renaming and_eq_true→yf
open Go renaming Call→yag,Ending→uL,Exit→uI,FuncId→tJ,Oper→yY,Operand→xB,Program→y5,RoundIn→yav,Value→ye,World→yh
open Nat renaming beq→yr,blt→yG,eq_of_beq_eq_true→yo,le_refl→yD,le_trans→xi,lt_of_lt_of_le→yH
open Option.some renaming injEq→yc
open Prod.mk renaming injEq→yk
namespace VE
section
open Go
structure Calm (w w':yh):Prop where
 os:w'.os=w.os
 tape:w'.tape=w.tape
 output:w'.output=w.output
 size:w.heap.size<=w'.heap.size
 same:∀b,b<w.heap.size->w'.heap[b]? =w.heap[b]?
def Calm.refl {w:yh}:Calm w w:=⟨rfl,rfl,rfl,yD _,fun _ _=>rfl⟩
def Calm.trans {w w' C7:yh} (h:Calm w w') (k:Calm w' C7):Calm w C7:=
 ⟨k.os.trans h.os,k.tape.trans h.tape,k.output.trans h.output,xi h.size k.size,fun b hb=>(k.same b (yH hb h.size)).trans (h.same b hb)⟩
def AZ (O:bw) (w:yh):Prop:=(∀b,b<O.w0.heap.size->w.heap[b]? =O.w0.heap[b]?)/\O.w0.heap.size<=w.heap.size
def eZ:Mp:=fun _=>none
def hX (ah:Nat->Nat) (S:Nat->Prop) (w:yh) (lo:Nat):AV->ye->List Nat->Prop
 | .cG ex sz n cs,u,bs=>∃b o c arr t,bs=[b]/\u= .slice (some ⟨b,o,none⟩) n c/\n<=c/\(ex=true->c=n)/\lo<=b/\¬S b/\w.heap[b]? =some (.cells arr t (0,0))/\cs.length=n*sz/\
   o+c*sz<=arr.size/\bT ah eZ S w cs b o/\aJ cs=true
 | r,u,bs=>bs=[]/\aj ah eZ S w r u/\aS r=true
def kN (ah:Nat->Nat) (S:Nat->Prop) (w:yh) (lo:Nat):List AV->List ye->List Nat->Prop
 | [],us,bs=>us=[]/\bs=[]
 | v::r,us,bs=>∃u t b1 b2,us=u::t/\bs=b1++b2/\hX ah S w lo v u b1/\kN ah S w lo r t b2
def nH (ah:Nat->Nat) (S:Nat->Prop) (w:yh) (lo:Nat) (r:AV) (u:ye):Prop:=
 match r with
 | .aq vs=>∃(us:Array ye) (bs:List Nat),u= .tuple us/\kN ah S w lo vs us.toList bs/\bs.Nodup
 | r=>∃bs,hX ah S w lo r u bs
def AK (P:y5) (f:tJ) (args:Array ye) (w:yh) (R:uL->yh->Prop):Prop:=
 ((callFunc f args).run P w= .ok (.enter f args) w/\CallsIn Fence.wide 0 P f args w R)\/∃u w',(callFunc f args).run P w= .ok (.value u) w'/\R (.returned u) w'
def Zz (O:bw) (w:yh) (S:Nat->Prop) (r:AV) (e:uL) (w':yh):Prop:=
 ∃u S',e= .returned u/\Calm w w'/\(∀b,S b->S' b)/\(∀b,S' b->S b\/w.heap.size<=b)/\(∀b,S' b->b<w'.heap.size)/\nH O.ah S' w' w.heap.size r u
def eN (O:bw) (n:Nat) (vals:List AV) (r:AV):Prop:=
 ∀(w:yh) (S:Nat->Prop) (args:Array ye),AZ O w->(∀b,S b->b<w.heap.size)->au O.ah eZ S w vals args.toList->aJ vals=true->
  AK O.P (O.ah n) args w (Zz O w S r)
def sH (O:bw) (m:Mp) (S:Nat->Prop) (w:yh) (hp:Hp) (ct:Nat) (v:AV) (ao:Hp) (bh:Nat) (e:uL) (w':yh):Prop:=
 ∃u m' S',e= .returned u/\aZ O m' S' w' ao bh/\ct<=bh/\aj O.ah m' S' w' v u/\cu m S w hp m' S' w' ao ct
def A0 (O:bw) (n:Nat) (hp:Hp) (ct:Nat) (vals:List AV) (v:AV) (ao:Hp) (bh:Nat):Prop:=
 ∀(m:Mp) (S:Nat->Prop) (w:yh) (args:Array ye),aZ O m S w hp ct->au O.ah m S w vals args.toList->AK O.P (O.ah n) args w (sH O m S w hp ct v ao bh)
section
variable {ah:Nat->Nat} {m m':Mp} {S S':Nat->Prop} {w w':yh}
mutual
def pJ (hS:∀b,S b->S' b) (hw:fO S w w'):∀(v:AV) (u:ye),aS v=true->aj ah m S w v u->aj ah m' S' w' v u
 | .int _ _,_,_,h | .bool _,_,_,h | .dB _ _,_,_,h | .str _,_,_,h | .jT,_,_,h | .ab,_,_,h | .hO,_,_,h | .jz,_,_,h | .undef,_,_,h=>by
  simpa only [aj] using h
 | .ptr id o,u,hp,h=>by simp [aS] at hp
 | .aF cs,u,hp,h=>by
  simp only [aj] at h ⊢;obtain ⟨b,o,h1,h2,h3,h4⟩:=h;refine ⟨b,o,h1,h2.imp id (hS b),h3,?_⟩;rcases h2 with rfl | h2
  ·simp only [bT]
  ·exact PJ hS hw cs b o h3 h2 h4
 | .aE ex n cs,u,hp,h=>by
  simp only [aj] at h ⊢;rcases h with ⟨b,o,c,h1,h2,h3,h4,h5,h6⟩ | h
  ·refine .inl ⟨b,o,c,h1,h2,h3,h4.imp id (hS b),h5,?_⟩;rcases h4 with rfl | h4
   ·simp only [bT]
   ·exact PJ hS hw cs b o h5 h4 h6
  ·exact .inr h
 | .cG _ _ _ _,u,hp,h=>by simp [aS] at hp
 | .ak id o n,u,hp,h=>by simp [aS] at hp
 | .fn (.f g) first cap,u,hp,h=>by
  simp only [aj] at h ⊢;simp only [aS,yf] at hp;obtain ⟨fi,ca,h1,h2,h3⟩:=h;exact ⟨fi,ca,h1,sF hS hw first _ hp.1 h2,sF hS hw cap _ hp.2 h3⟩
 | .fn (.y l) _ _,u,hp,h=>by simp [aS] at hp
 | .map id,u,hp,h=>by simp [aS] at hp
 | .jf ks vs,u,hp,h=>by
  simp only [aj] at h ⊢;obtain ⟨b,es,clock,h1,h2,h3,h4,h5,h6,h7⟩:=h;exact ⟨b,es,clock,h1,hS b h2,h3,h4,(hw b h2).trans h5,sF hS hw ks _ h3 h6,sF hS hw vs _ h4 h7⟩
 | .it id,u,hp,h=>by simp [aS] at hp
 | .agg cs,u,hp,h=>by
  simp only [aj] at h ⊢;simp only [aS] at hp;obtain ⟨xs,h1,h2⟩:=h;exact ⟨xs,h1,sF hS hw cs _ hp h2⟩
 | .aq cs,u,hp,h=>by
  simp only [aj] at h ⊢;simp only [aS] at hp;obtain ⟨xs,h1,h2⟩:=h;exact ⟨xs,h1,sF hS hw cs _ hp h2⟩
def sF (hS:∀b,S b->S' b) (hw:fO S w w'):∀(vs:List AV) (us:List ye),aJ vs=true->au ah m S w vs us->au ah m' S' w' vs us
 | [],us,_,h=>by simpa only [au] using h
 | v::r,us,hp,h=>by
  simp only [au] at h ⊢;simp only [aJ,yf] at hp;obtain ⟨u,t,h1,h2,h3⟩:=h;exact ⟨u,t,h1,pJ hS hw v u hp.1 h2,sF hS hw r t hp.2 h3⟩
def PJ (hS:∀b,S b->S' b) (hw:fO S w w'):∀(cs:List AV) (b o:Nat),aJ cs=true->S b->bT ah m S w cs b o->bT ah m' S' w' cs b o
 | [],_,_,_,_,_=>by simp only [bT]
 | c::cs,b,o,hp,hb,h=>by
  simp only [bT] at h ⊢;simp only [aJ,yf] at hp;obtain ⟨⟨u,h1,h2⟩,h3⟩:=h;exact ⟨⟨u,(KC (hw b hb)).trans h1,pJ hS hw c u hp.1 h2⟩,PJ hS hw cs b (o+1) hp.2 hb h3⟩
end
def B6 (hS:∀b,S b->S' b) (hw:fO S w w'):∀(cs:List AV) (b o:Nat),aJ cs=true->w'.heap[b]? =w.heap[b]? ->bT ah m S w cs b o->bT ah m' S' w' cs b o
 | [],_,_,_,_,_=>by simp only [bT]
 | c::cs,b,o,hp,hb,h=>by
  simp only [aJ,yf] at hp;obtain ⟨⟨u,h1,h2⟩,h3⟩:=h;exact ⟨⟨u,(KC hb).trans h1,pJ hS hw c u hp.1 h2⟩,B6 hS hw cs b (o+1) hp.2 hb h3⟩
end
section
variable {O:bw} {m:Mp} {S S':Nat->Prop} {w w':yh} {hp:Hp} {ct:Nat}
def ajw (hh:aZ O m S w hp ct) (hw:Calm w w'):fO S w w':=fun b hb=>hw.same b (hh.slt b hb)
def DO (hh:aZ O m S w hp ct) (hw:Calm w w') (hS:∀b,S b->S' b) (hn:∀b,S' b->S b\/w.heap.size<=b) (hl:∀b,S' b->b<w'.heap.size):aZ O m S' w' hp ct where
 obj id o p ho hm:=qP (fun _ _ h=>h) hS (ajw hh hw) (fun q hq=>hw.same _ (hh.blt id q hq)) (fun q hq hs=>(hn _ hs).resolve_right (by have:=hh.blt id q hq;omega)) (hh.obj id o p ho hm)
 lt:=hh.lt
 inj:=hh.inj
 slt:=hl
 blt id p h:=yH (hh.blt id p h) hw.size
 low:=hh.low
 lE b hb:=(hw.same b (yH hb hh.fP)).trans (hh.lE b hb)
 fP:=xi hh.fP hw.size
 bi:=hh.bi
def Cc {base:Nat} (hh:aZ O m S w hp ct) (hw:Calm w w') (hS:∀b,S b->S' b) (hn:∀b,S' b->S b\/w.heap.size<=b):cu m S w hp m S' w' hp base where
 os:=hw.os
 tape:=hw.tape
 output:=hw.output
 size:=hw.size
 same b hb _:=hw.same b hb
 sub:=hS
 still b hb:=hw.same b (hh.slt b hb)
 new b hb:=(hn b hb).imp id .inr
 own b hb:= .inl hb
 old _ _ _ h:=h
 loops b r hb:=⟨r,(hw.same b (xz.1 hb).1).trans hb⟩
def alv {i:Nat} (hh:aZ O m S w hp ct) (hi:m i=none) (Fc:i<ct) {p:Pl} (hb:p.b<w.heap.size) (bn:O.w0.heap.size<=p.b) (Ff:¬S p.b) (nV:∀j q,m j=some q->q.b≠p.b)
  (hf:∀o,ap hp i=some o->(fB O (fD m i p) S w i o/\¬iU o)\/(iU o/\fB O (fD m i p) (fun b=>S b\/b=p.b) w i o)):
  ∃S',aZ O (fD m i p) S' w hp ct/\(∀b,S b->S' b)/\∀b,S' b->S b\/b=p.b:=by
 have bf:fO S w w:=fun _ _=>rfl
 have gen:∀S':Nat->Prop,(∀b,S b->S' b)->(∀b,S' b->S b\/b=p.b)->(∀o,ap hp i=some o->fB O (fD m i p) S' w i o)->aZ O (fD m i p) S' w hp ct:=by
  intro S' h1 h2 h3;refine ⟨?_,?_,?_,?_,?_,?_,hh.lE,hh.fP,hh.bi⟩
  ·intro id o q ho hm;by_cases hc:id=i
   ·grind
   ·rw [eB hc] at hm;refine qP (kC hi) h1 bf (fun _ _=>rfl) (fun q' cf hs=>?_) (hh.obj id o q ho hm)
    grind
  ·intro id q hm;by_cases hc:id=i
   ·grind
   ·rw [eB hc] at hm;exact hh.lt id q hm
  ·intro a b oa ob pa pb ha cS Da zq e;by_cases ca:a=i
   ·by_cases cb:b=i
    ·grind
    ·subst ca;rw [eC] at Da;rw [eB cb] at zq
     grind
   ·rw [eB ca] at Da;by_cases cb:b=i
    ·subst cb;rw [eC] at zq
     grind
    ·rw [eB cb] at zq;exact hh.inj a b oa ob pa pb ha cS Da zq e
  ·intro b hs;rcases h2 b hs with h | h
   ·exact hh.slt b h
   ·grind
  ·intro id q hm;by_cases hc:id=i
   ·subst hc;rw [eC] at hm
    grind
   ·rw [eB hc] at hm;exact hh.blt id q hm
  ·intro id q hm;by_cases hc:id=i
   ·subst hc;rw [eC] at hm
    grind
   ·rw [eB hc] at hm;exact hh.low id q hm
 cases ho:ap hp i with
 | none=>exact ⟨S,gen S (fun _ h=>h) (fun _ h=> .inl h) (fun o h=>by rw [ho] at h;cases h),fun _ h=>h,fun _ h=> .inl h⟩
 | some o=>
  rcases hf o ho with ⟨h1,_⟩ | ⟨_,h1⟩
  ·exact ⟨S,gen S (fun _ h=>h) (fun _ h=> .inl h) (fun o' h=>by rw [ho] at h;injection h with h;subst h;exact h1),fun _ h=>h,fun _ h=> .inl h⟩
  ·exact ⟨_,gen (fun b=>S b\/b=p.b) (fun _ h=> .inl h) (fun _ h=>h) (fun o' h=>by rw [ho] at h;injection h with h;subst h;exact h1),fun _ h=> .inl h,fun _ h=>h⟩
def Yy {ah:Nat->Nat} {lo:Nat} {r:AV} {u:ye} {bs:List Nat} (h:hX ah S w lo r u bs) (m:Mp) (hS:∀b,S b->S' b) (hbs:∀b,b∈bs->S' b):aj ah m S' w (bO r) u:=by
 have bf:fO S w w:=fun _ _=>rfl
 cases r with
 | cG ex sz n cs=>
  obtain ⟨b,o,c,arr,t,rfl,rfl,h1,h2,h3,h4,h5,h6,h7,h8,h9⟩:=h;exact .inl ⟨b,o,c,rfl,h1,h2,.inr (hbs b (by simp)),h9,B6 hS bf cs b o h9 rfl h8⟩
 | _=>simp only [hX] at h;exact pJ hS bf _ _ h.2.2 h.2.1
def Yz {ah:Nat->Nat} {lo:Nat} (m:Mp) (hS:∀b,S b->S' b):∀{vs:List AV} {us:List ye} {bs:List Nat},kN ah S w lo vs us bs->(∀b,b∈bs->S' b)->au ah m S' w (Cz vs) us
 | [],us,bs,h,_=>by simp only [kN] at h;exact h.1
 | v::r,us,bs,h,hb=>by
  obtain ⟨u,t,b1,b2,rfl,rfl,h1,h2⟩:=h;exact ⟨u,t,rfl,Yy h1 m hS (fun b cS=>hb b (by simp [cS])),Yz m hS h2 (fun b cS=>hb b (by simp [cS]))⟩
def QX {ah:Nat->Nat} {lo:Nat} {r:AV} {u:ye} {bs:List Nat} (h:hX ah S w lo r u bs):∀b,b∈bs->lo<=b/\b<w.heap.size:=by
 intro b hb
 cases r with
 | cG ex sz n cs=>
  simp only [hX] at h
  grind
 | _=>simp only [hX] at h;rw [h.1] at hb;cases hb
def QY {ah:Nat->Nat} {lo:Nat}:∀{vs:List AV} {us:List ye} {bs:List Nat},kN ah S w lo vs us bs->∀b,b∈bs->lo<=b/\b<w.heap.size
 | [],us,bs,h,b,hb=>by simp only [kN] at h;rw [h.2] at hb;cases hb
 | v::r,us,bs,h,b,hb=>by
  obtain ⟨u,t,b1,b2,rfl,rfl,h1,h2⟩:=h;rcases List.mem_append.1 hb with hb | hb
  ·exact QX h1 b hb
  ·exact QY h2 b hb
def YA {ah:Nat->Nat} {lo:Nat} {r:AV} {u:ye} (h:nH ah S w lo r u) (m:Mp):∃S',(∀b,S b->S' b)/\(∀b,S' b->S b\/(lo<=b/\b<w.heap.size))/\aj ah m S' w (shut r) u:=by
 have one:∀(r:AV) (bs:List Nat),shut r=bO r->hX ah S w lo r u bs->∃S',(∀b,S b->S' b)/\(∀b,S' b->S b\/(lo<=b/\b<w.heap.size))/\aj ah m S' w (shut r) u:=by
  intro r bs hs h;refine ⟨fun b=>S b\/b∈bs,fun _ h=> .inl h,fun b hb=>hb.imp (fun x=>x) (fun hb=>QX h b hb),?_⟩;rw [hs];exact Yy h m (fun _ h=> .inl h) (fun _ h=> .inr h)
 cases r with
 | aq vs=>
  obtain ⟨us,bs,rfl,h1,h2⟩:=h;refine ⟨fun b=>S b\/b∈bs,fun _ h=> .inl h,fun b hb=>hb.imp (fun x=>x) (fun hb=>QY h1 b hb),?_⟩;exact ⟨us,rfl,Yz m (fun _ h=> .inl h) h1 (fun _ h=> .inr h)⟩
 | _=>
  obtain ⟨bs,h⟩:=h;exact one _ bs rfl h
end
end
section
open Go
section
variable {O:bw} {m:Mp} {S:Nat->Prop} {w:yh} {H:Hp} {cH:Nat}
def LM {hp:Hp} {ct:Nat} {r:AV}:ct<=(fu hp ct r).2.2:=by
 cases r<;>simp only [fu]<;>omega
def LO:∀{vs:List AV} {hp:Hp} {ct:Nat},ct<=(jA hp ct vs).2.2
 | [],hp,ct=>by simp [jA]
 | v::r,hp,ct=>by
  simp only [jA];have h1:=LM (hp:=hp) (ct:=ct) (r:=v);have h2:=LO (vs:=r) (hp:=(fu hp ct v).2.1) (ct:=(fu hp ct v).2.2);omega
def QZ {hp:Hp} {ct:Nat} {r:AV} (hf:∀id o,ap hp id=some o->id<ct):∀id o,ap hp id=some o->ap (fu hp ct r).2.1 id=some o:=by
 intro id o h;cases r<;>simp only [fu]<;>try exact h
 rw [gU,yz (by have:=hf id o h;omega)];exact h
def aaC {hp:Hp} {ct lo:Nat} {r:AV} {u:ye} {bs:List Nat} (hh:aZ O m S w H cH) (hl:dt (fu hp ct r).2.1 H) (fE:(fu hp ct r).2.2<=cH) (hn:∀id,ct<=id->id<(fu hp ct r).2.2->m id=none)
  (hr:hX O.ah S w lo r u bs) (bn:O.w0.heap.size<=lo) (nV:∀j q,m j=some q->q.b∉bs):
  ∃m' S',aZ O m' S' w H cH/\dI m m'/\(∀id p,m' id=some p->m id=some p\/(ct<=id/\id<(fu hp ct r).2.2/\p.b∈bs))/\aj O.ah m' S' w (fu hp ct r).1 u/\(∀b,S b->S' b)/\(∀b,S' b->S b\/b∈bs):=by
 have bf:fO S w w:=fun _ _=>rfl
 cases r with
 | cG ex sz n cs=>
  simp only [fu] at hl fE hn;obtain ⟨b,o,c,arr,t,rfl,rfl,h1,h2,h3,h4,h5,h6,h7,h8,h9⟩:=hr;have bM:m ct=none:=hn ct (yD _) (Nat.lt_succ_self _);have atW:b<w.heap.size:=(xz.1 h5).1;have nU:fB O (fD m ct ⟨b,o,c*sz,sz⟩) S w ct (.cells true true ex sz cs):=by
   refine ⟨_,arr,t,eC,h5,rfl,?_,h7,fun hx=>?_,B6 (fun _ h=>h) bf cs b o h9 rfl h8,fun _=>h9,fun _=>h4,by simp⟩
   ·show cs.length<=c*sz
    rw [h6];exact Nat.mul_le_mul_right _ h1
   ·grind
  obtain ⟨S',k1,k2,k3⟩:=alv (p:=⟨b,o,c*sz,sz⟩) hh bM (by omega) atW (by show _<=b;omega) h4 (fun j q hq e=>nV j q hq (by rw [e];simp)) (fun o' kV=>by
   obtain ⟨o'',g1,g2⟩:=hl ct (.cells true true ex sz cs) (by rw [gU];simp)
   rw [kV] at g1;injection g1 with g1
   subst g1
   exact Xj (p:=⟨b,o,c*sz,sz⟩) g2 eC nU (by simp [iU]))
  refine ⟨_,S',k1,kC bM,fun id p ao=>?_,?_,k2,fun b' cS=>(k3 b' cS).imp (fun h=>h) (fun h=>by rw [h];simp)⟩
  ·by_cases hc:id=ct
   ·subst hc;rw [eC] at ao;injection ao with ao
    subst ao;exact .inr ⟨yD _,by simp [fu],by simp⟩
   ·rw [eB hc] at ao;exact .inl ao
  ·simp only [fu,aj];exact ⟨_,c,eC,by simp,h1,by simp⟩
 | _=>
  exact ⟨m,S,hh,dI.refl,fun _ _ h=> .inl h,pJ (fun _ h=>h) bf _ _ hr.2.2 hr.2.1,fun _ h=>h,fun _ h=> .inl h⟩
def HE {hp:Hp} {ct:Nat} {r:AV} (hf:∀id o,ap hp id=some o->id<ct):∀id o,ap (fu hp ct r).2.1 id=some o->id<(fu hp ct r).2.2:=by
 intro id o h;cases r<;>simp only [fu] at h ⊢<;>try exact hf id o h
 rw [gU] at h
 grind
def LP:∀{vs:List AV} {hp:Hp} {ct:Nat},(∀id o,ap hp id=some o->id<ct)->∀id o,ap hp id=some o->ap (jA hp ct vs).2.1 id=some o
 | [],hp,ct,_,id,o,h=>by simpa [jA] using h
 | v::r,hp,ct,hf,id,o,h=>by
  exact LP (HE hf) id o (QZ hf id o h)
def aaD {lo:Nat} (bn:O.w0.heap.size<=lo):∀{vs:List AV} {us:List ye} {bs:List Nat} {hp:Hp} {ct:Nat} {m:Mp} {S:Nat->Prop},aZ O m S w H cH->dt (jA hp ct vs).2.1 H->(jA hp ct vs).2.2<=cH->
  (∀id o,ap hp id=some o->id<ct)->(∀id,ct<=id->id<(jA hp ct vs).2.2->m id=none)->
  kN O.ah S w lo vs us bs->bs.Nodup->(∀j q,m j=some q->q.b∉bs)->
  ∃m' S',aZ O m' S' w H cH/\dI m m'/\(∀id p,m' id=some p->m id=some p\/(ct<=id/\id<(jA hp ct vs).2.2/\p.b∈bs))/\au O.ah m' S' w (jA hp ct vs).1 us/\(∀b,S b->S' b)/\(∀b,S' b->S b\/b∈bs)
 | [],us,bs,hp,ct,m,S,hh,hl,fE,hf,hn,hr,lP,nV=>by
  simp only [kN] at hr;exact ⟨m,S,hh,dI.refl,fun _ _ h=> .inl h,by simp only [jA,au];exact hr.1,fun _ h=>h,fun _ h=> .inl h⟩
 | v::r,us,bs,hp,ct,m,S,hh,hl,fE,hf,hn,hr,lP,nV=>by
  simp only [kN] at hr;obtain ⟨u,t,b1,b2,rfl,rfl,h1,h2⟩:=hr;simp only [jA] at hl fE hn ⊢;have ez:=LM (hp:=hp) (ct:=ct) (r:=v);have rX:=LO (vs:=r) (hp:=(fu hp ct v).2.1) (ct:=(fu hp ct v).2.2);rw [List.nodup_append] at lP;obtain ⟨m1,S1,k1,k2,k3,k4,k5,k6⟩:=aaC (hp:=hp) (ct:=ct) (lo:=lo) hh ((fun id o h=>hl id o (LP (HE hf) id o h))) (by omega) (fun id g1 g2=>hn id g1 (by omega)) h1 bn
   (fun j q hq hb=>nV j q hq (by simp [hb]))
  have Uu:kN O.ah S1 w lo r t b2:=by
   clear k4;have SA:∀b,S1 b->S b\/b∈b1:=k6;have hd:∀b,b∈b2->b∉b1:=fun b hb jG=>lP.2.2 b jG b hb rfl
   have one:∀{v:AV} {u:ye} {bb:List Nat},(∀b,b∈bb->b∉b1)->hX O.ah S w lo v u bb->hX O.ah S1 w lo v u bb:=by
    intro v u bb rT h
    cases v with
    | cG ex sz n cs=>
     simp only [hX] at h ⊢;obtain ⟨b,o,c,arr,tt,rfl,rfl,g1,g2,g3,g4,g5,g6,g7,g8,g9⟩:=h;exact ⟨b,o,c,arr,tt,rfl,rfl,g1,g2,g3,fun hs=>(SA b hs).elim g4 (rT b (by simp)),g5,g6,g7,B6 k5 (fun _ _=>rfl) cs b o g9 rfl g8,g9⟩
    | _=>simp only [hX] at h ⊢;exact ⟨h.1,pJ k5 (fun _ _=>rfl) _ _ h.2.2 h.2.1,h.2.2⟩
   clear k1 k2 k3 hl fE hn nV lP;revert hd h2;generalize b2=bb
   induction r generalizing t bb with
   | nil=>intro h2 hd;simpa only [kN] using h2
   | cons v' r ih=>
    intro h2 hd;simp only [kN] at h2 ⊢;obtain ⟨u',t',c1,c2,rfl,rfl,g1,g2⟩:=h2
    exact ⟨u',t',c1,c2,rfl,rfl,one (fun b hb=>hd b (by simp [hb])) g1,ih _ (by
     have:=LO (vs:=r) (hp:=(fu hp ct v).2.1) (ct:=(fu hp ct v).2.2)
     exact this) _ g2 (fun b hb=>hd b (by simp [hb]))⟩
  obtain ⟨m2,S2,g1,g2,g3,g4,g5,g6⟩:=aaD bn (vs:=r) (us:=t) (bs:=b2) (m:=m1) (S:=S1) k1 hl fE (HE hf) (fun id q1 q2=>by
   cases hq:m1 id with
   | none=>rfl
   | some p=>
    rcases k3 id p hq with h | ⟨_,h,_⟩
    ·rw [hn id (by omega) q2] at h;cases h
    ·omega) Uu lP.2.1 (fun j q hq hb=>by
     rcases k3 j q hq with h | ⟨_,_,h⟩
     ·exact nV j q h (by simp [hb])
     ·exact lP.2.2 q.b h q.b hb rfl)
  refine ⟨m2,S2,g1,k2.trans g2,fun id p ao=>?_,?_,fun b hb=>g5 b (k5 b hb),fun b hb=>?_⟩
  ·rcases g3 id p ao with h | ⟨a1,a2,a3⟩
   ·rcases k3 id p h with h | ⟨a1,a2,a3⟩
    ·exact .inl h
    ·exact .inr ⟨a1,by omega,by simp [a3]⟩
   ·exact .inr ⟨by omega,a2,by simp [a3]⟩
  ·simp only [au];exact ⟨u,t,rfl,lX g2 g5 (fun _ _=>rfl) _ _ k4,g4⟩
  ·rcases g6 b hb with h | h
   ·exact (k6 b h).imp (fun h=>h) (fun h=>by simp [h])
   ·exact .inr (by simp [h])
def apY {hp:Hp} {ct lo:Nat} {r:AV} {u:ye} (hh:aZ O m S w H cH) (hl:dt (own hp ct r).2.1 H) (fE:(own hp ct r).2.2<=cH) (hf:∀id o,ap hp id=some o->id<ct)
  (hn:∀id,ct<=id->id<(own hp ct r).2.2->m id=none) (hr:nH O.ah S w lo r u) (bn:O.w0.heap.size<=lo) (JF:∀j q,m j=some q->q.b<lo):
  ∃m' S',aZ O m' S' w H cH/\dI m m'/\(∀id p,m' id=some p->m id=some p\/(ct<=id/\id<(own hp ct r).2.2/\lo<=p.b))/\aj O.ah m' S' w (own hp ct r).1 u/\(∀b,S b->S' b)/\(∀b,S' b->S b\/lo<=b):=by
 have one:∀(r:AV) (bs:List Nat),own hp ct r=fu hp ct r->hX O.ah S w lo r u bs->dt (own hp ct r).2.1 H->(own hp ct r).2.2<=cH->(∀id,ct<=id->id<(own hp ct r).2.2->m id=none)->
   ∃m' S',aZ O m' S' w H cH/\dI m m'/\(∀id p,m' id=some p->m id=some p\/(ct<=id/\id<(own hp ct r).2.2/\lo<=p.b))/\aj O.ah m' S' w (own hp ct r).1 u/\(∀b,S b->S' b)/\(∀b,S' b->S b\/lo<=b):=by
  intro r bs he hr hl fE hn;rw [he] at hl fE hn ⊢;have CK:=QX hr;obtain ⟨m',S',k1,k2,k3,k4,k5,k6⟩:=aaC hh hl fE hn hr bn (fun j q hq hb=>by have:=JF j q hq;have:=(CK _ hb).1;omega)
  exact ⟨m',S',k1,k2,fun id p h=>(k3 id p h).imp (fun h=>h) (fun h=>⟨h.1,h.2.1,(CK _ h.2.2).1⟩),k4,k5,fun b hb=>(k6 b hb).imp (fun h=>h) (fun h=>(CK _ h).1)⟩
 cases r with
 | aq vs=>
  simp only [own] at hl fE hn ⊢;simp only [nH] at hr;obtain ⟨us,bs,rfl,h1,h2⟩:=hr;have CK:=QY h1;obtain ⟨m',S',k1,k2,k3,k4,k5,k6⟩:=aaD bn hh hl fE hf hn h1 h2 (fun j q hq hb=>by have:=JF j q hq;have:=(CK _ hb).1;omega)
  exact ⟨m',S',k1,k2,fun id p h=>(k3 id p h).imp (fun h=>h) (fun h=>⟨h.1,h.2.1,(CK _ h.2.2).1⟩),by simp only [aj];exact ⟨us,rfl,k4⟩,k5,fun b hb=>(k6 b hb).imp (fun h=>h) (fun h=>(CK _ h).1)⟩
 | _=>
  simp only [nH] at hr;obtain ⟨bs,hr⟩:=hr;exact one _ bs rfl hr hl fE hn
end
end
section
open Go
section
variable {O:bw} {m m':Mp} {S:Nat->Prop} {w:yh} {f:Nat->Option Nat}
def Ew (f:Nat->Option Nat) (m m':Mp):Prop:=∀id j,f id=some j->m' j=m id
mutual
def aaE {ah:Nat->Nat} (hf:Ew f m m'):∀(v:AV) (u:ye),aj ah m S w v u->aj ah m' S w (cm f v) u
 | .int _ _,_,h | .bool _,_,h | .dB _ _,_,h | .str _,_,h | .jT,_,h | .ab,_,h | .hO,_,h | .jz,_,h | .undef,_,h=>by
  simpa only [cm,aj] using h
 | .ptr id o,u,h=>by
  simp only [cm]
  cases hi:f id with
  | none=>simp only [aj]
  | some j=>
   simp only [aj] at h ⊢;rw [hf id j hi];exact h
 | .aF cs,u,h=>by
  simp only [cm];exact pJ (fun _ h=>h) (fun _ _=>rfl) _ _ (by simp [aS]) h
 | .aE ex n cs,u,h=>by
  simp only [cm];exact pJ (fun _ h=>h) (fun _ _=>rfl) _ _ (by simp [aS]) h
 | .cG _ _ _ _,u,h=>by simp only [aj] at h
 | .ak id o n,u,h=>by
  simp only [cm]
  cases hi:f id with
  | none=>simp only [aj]
  | some j=>
   simp only [aj] at h ⊢;rw [hf id j hi];exact h
 | .fn (.f g) first cap,u,h=>by
  simp only [cm,aj] at h ⊢;obtain ⟨fi,ca,h1,h2,h3⟩:=h;exact ⟨fi,ca,h1,AE hf first _ h2,AE hf cap _ h3⟩
 | .fn (.y l) first cap,u,h=>by
  simp only [cm]
  cases hi:f l with
  | none=>simp only [aj]
  | some j=>
   simp only [aj] at h ⊢;rw [hf l j hi];exact h
 | .map id,u,h=>by
  simp only [cm]
  cases hi:f id with
  | none=>simp only [aj]
  | some j=>
   simp only [aj] at h ⊢;rw [hf id j hi];exact h
 | .jf ks vs,u,h=>by
  simp only [cm];exact pJ (fun _ h=>h) (fun _ _=>rfl) _ _ (by simp [aS]) h
 | .it id,u,h=>by
  simp only [cm]
  cases hi:f id with
  | none=>simp only [aj]
  | some j=>
   simp only [aj] at h ⊢;rw [hf id j hi];exact h
 | .agg cs,u,h=>by
  simp only [cm,aj] at h ⊢;obtain ⟨xs,h1,h2⟩:=h;exact ⟨xs,h1,AE hf cs _ h2⟩
 | .aq cs,u,h=>by
  simp only [cm,aj] at h ⊢;obtain ⟨xs,h1,h2⟩:=h;exact ⟨xs,h1,AE hf cs _ h2⟩
def AE {ah:Nat->Nat} (hf:Ew f m m'):∀(vs:List AV) (us:List ye),au ah m S w vs us->au ah m' S w (fG f vs) us
 | [],us,h=>by simpa only [fG,au] using h
 | v::r,us,h=>by
  simp only [fG,au] at h ⊢;obtain ⟨u,t,h1,h2,h3⟩:=h;exact ⟨u,t,h1,aaE hf v u h2,AE hf r t h3⟩
end
def ajx {ah:Nat->Nat} (hf:Ew f m m') {cs:List AV} {b o:Nat} (h:bT ah m S w cs b o):bT ah m' S w (fG f cs) b o:=by
 obtain ⟨us,h1,_,h3⟩:=sE cs b o h;exact DS _ us o (AE hf cs us h1) h3
def Qt:∀cs:List AV,(fG f cs).length=cs.length
 | []=>rfl
 | c::r=>by simp [fG,Qt r]
def ZA:∀(tm:Env) (i:Nat),af (kM f tm) i=cm f (af tm i)
 | [],i=>by simp [kM,af,cm]
 | (j,v)::r,i=>by
  simp only [kM,af]
  cases yr j i with
  | true=>rfl
  | false=>exact ZA r i
def YB (tm:Env) (i:Nat):∀live:List Nat,af (cX tm live) i=af tm i\/af (cX tm live) i= .undef
 | []=> .inr rfl
 | j::r=>by
  simp only [cX,af]
  cases hb:yr j i with
  | true=>rw [yo hb];exact .inl rfl
  | false=>exact YB tm i r
def ZB {tm:Env} {tmps:Array ye} (hf:Ew f m m') (h:cp O m S w tm tmps):cp O m' S w (kM f tm) tmps:=fun i=>by
 rw [ZA];exact aaE hf _ _ (h i)
def alw {id j:Nat} {o:Obj} {p:Pl} (hf:Ew f m m') (hm:m id=some p) (hj:m' j=some p) (h:fB O m S w id o):fB O m' S w j (lC f o):=by
 cases o with
 | cells rw pu ex sz cs=>
  obtain ⟨q,arr,t,h1,h2,h3,h4,h5,h6,h7,h8,h9,iA⟩:=h;rw [hm] at h1;injection h1 with h1;subst h1
  cases pu with
  | true=>exact ⟨p,arr,t,hj,h2,h3,h4,h5,h6,B6 (fun _ h=>h) (fun _ _=>rfl) _ _ _ (h8 rfl) rfl h7,h8,h9,iA⟩
  | false=>exact ⟨p,arr,t,hj,h2,h3,by rw [yB,Qt];exact h4,h5,by rw [yB,Qt];exact h6,ajx hf h7,by simp,h9,iA⟩
 | mp rw ks vs=>
  obtain ⟨q,es,clock,h1,h2,h3,h4,h5,h6⟩:=h;rw [hm] at h1;injection h1 with h1;subst h1
  exact ⟨p,es,clock,hj,h2,AE hf _ _ h3,AE hf _ _ h4,h5,h6⟩
 | si s pos=>
  obtain ⟨q,t,h1,h2,h3,h4⟩:=h;rw [hm] at h1;injection h1 with h1;subst h1
  exact ⟨p,t,hj,h2,h3,h4⟩
 | lp tm ps as_ body st pe=>
  obtain ⟨q,l,hi,h1,h2,h3,h4,h5,h6,h7,h8⟩:=h;rw [hm] at h1;injection h1 with h1;subst h1
  exact ⟨p,l,hi,hj,h2,h3,h4,h5,h6,ZB hf h7,h8⟩
def YC {i:Nat}:∀{l:List Nat} {k j:Nat},mo i l k=some j->k<=j/\l[j-k]? =some i
 | [],k,j,h=>by simp [mo] at h
 | x::r,k,j,h=>by
  simp only [mo] at h
  cases hb:yr x i with
  | true=>
   simp_all
  | false=>
   rw [hb] at h;obtain ⟨h1,h2⟩:=YC h
   grind
def sO {a b:Nat}:yG a b=true↔a<b:=by simp_all
def KO {hp:Hp} {j:Nat} {o':Obj}:∀{l:List Nat} {k:Nat} {acc:Hp},ap (kG hp f l k acc) j=some o'->
  (∃i id o,l[i]? =some id/\j=k+i/\ap hp id=some o/\o'=lC f o)\/ap acc j=some o'
 | [],k,acc,h=> .inr h
 | x::r,k,acc,h=>by
  simp only [kG] at h
  cases hx:ap hp x with
  | none=>
   simp only [hx] at h;rcases KO h with ⟨i,id,o,h1,h2,h3,h4⟩ | h
   ·exact .inl ⟨i+1,id,o,by simpa using h1,by omega,h3,h4⟩
   ·grind
  | some o=>
   simp only [hx] at h;rcases KO h with ⟨i,id,o,h1,h2,h3,h4⟩ | h
   ·exact .inl ⟨i+1,id,o,by simpa using h1,by omega,h3,h4⟩
   ·rw [gU] at h;by_cases hc:k=j
    ·simp only [hc,y7,yc] at h;exact .inl ⟨0,x,o,by simp,by omega,hx,h.symm⟩
    ·grind
def KP {base:Nat} {j:Nat} {o':Obj}:∀{hp:Hp},ap (mg base f hp) j=some o'->j<base/\∃o,ap hp j=some o/\o'=lC f o
 | [],h=>by simp [mg,ap] at h
 | (i,q)::r,h=>by
  simp only [mg] at h
  cases hb:yG i base with
  | true=>
   rw [hb] at h;simp only [ym] at h;rw [gU] at h;by_cases hc:i=j
   ·simp only [hc,y7,yc] at h;exact ⟨by rw [<-hc];exact sO.1 hb,q,by rw [gU];simp [hc],h.symm⟩
   ·simp only [hc,yR] at h;obtain ⟨h1,o,h2,h3⟩:=KP h;exact ⟨h1,o,by rw [gU];simp [hc,h2],h3⟩
  | false=>
   rw [hb] at h;obtain ⟨h1,o,h2,h3⟩:=KP h;have hc:¬i=j:=fun e=>by
    have:=sO.2 h1
    grind
   exact ⟨h1,o,by rw [gU];simp [hc,h2],h3⟩
def oO (m:Mp) (base:Nat) (seen:List Nat):Mp:=fun j=>
 if j<base then m j else match seen[j-base]? with
  | some id=>if kF base seen id=some j then m id else none
  | none=>none
def P5 {base:Nat} {seen:List Nat} {j:Nat} {p:Pl} (h:oO m base seen j=some p):∃id,kF base seen id=some j/\m id=some p/\(j<base->id=j):=by
 unfold oO at h
 split at h
 ·rename_i hj;exact ⟨j,by simp [kF,sO.2 hj],h,fun _=>rfl⟩
 ·grind
def alx {base:Nat} {seen:List Nat}:Ew (kF base seen) m (oO m base seen):=by
 intro id j h;have h0:=h;unfold kF at h
 cases hb:yG id base with
 | true=>
  rw [hb] at h;simp only [ym,yc] at h;subst h;simp [oO,sO.1 hb]
 | false=>
  rw [hb] at h;obtain ⟨h1,h2⟩:=YC h
  have:¬j<base:=by omega
  simp only [oO,this,yR,h2,h0,y7]
def PK {s:St} {tmps:Array ye} {live:List Nat} (ht:cp O m S w s.tm tmps) (hh:aZ O m S w s.hp s.ct) (hb:s.base<=s.ct):
  ∃m',cp O m' S w (bH live s).tm tmps/\aZ O m' S w (bH live s).hp (bH live s).ct/\(bH live s).base=s.base/\s.base<=(bH live s).ct/\cu m S w s.hp m' S w (bH live s).hp s.base:=by
 simp only [bH];generalize adk:reach s.hp s.base 100000 (fb (cX s.tm live)++du s.base s.hp) []=seen;have hr:=alx (m:=m) (base:=s.base) (seen:=seen);have bi:∀j p,oO m s.base seen j=some p->j<s.base+seen.length:=by
  intro j p h;unfold oO at h
  grind
 have back:∀j o' p,ap (kG s.hp (kF s.base seen) seen s.base (mg s.base (kF s.base seen) s.hp)) j=some o'->oO m s.base seen j=some p->
   ∃id o,kF s.base seen id=some j/\ap s.hp id=some o/\m id=some p/\o'=lC (kF s.base seen) o:=by
  intro j o' p ho hm;obtain ⟨id,h1,h2,h3⟩:=P5 hm;rcases KO ho with ⟨i,Uv,o,g1,g2,g3,g4⟩ | ho
  ·have hj:¬j<s.base:=by omega
   have:oO m s.base seen j=if kF s.base seen Uv=some j then m Uv else none:=by
    simp only [oO,hj,yR,show j-s.base=i by omega,g1]
   grind
  ·obtain ⟨g1,o,g2,g3⟩:=KP ho
   grind
 refine ⟨oO m s.base seen,?_,⟨?_,bi,?_,hh.slt,?_,?_,hh.lE,hh.fP,fun j o' ho=>(by
  rcases KO ho with ⟨i,Uv,o,g1,g2,g3,g4⟩ | ho
  ·grind
  ·have:=(KP ho).1;omega)⟩,by trivial,by omega,⟨rfl,rfl,rfl,yD _,fun _ _ _=>rfl,fun _ h=>h,fun _ _=>rfl,fun _ h=> .inl h,?_,?_,fun _ r h=>⟨r,h⟩⟩⟩
 ·refine ZB hr (fun i=>?_);rcases YB s.tm i live with h | h
  ·rw [h];exact ht i
  ·rw [h];simp only [aj]
 ·intro j o' p ho hm;obtain ⟨id,o,h1,h2,h3,rfl⟩:=back j o' p ho hm;exact alw hr h3 hm (hh.obj id o p h2 h3)
 ·intro i j oi oj pi pj hi hj bM fW e;obtain ⟨idi,o1,a1,a2,a3,_⟩:=back i oi pi hi bM;obtain ⟨idj,o2,b1,b2,b3,_⟩:=back j oj pj hj fW
  have:=hh.inj idi idj o1 o2 pi pj a2 b2 a3 b3 e
  grind
 ·intro j p hm;obtain ⟨id,_,h2,_⟩:=P5 hm;exact hh.blt id p h2
 ·intro j p hm;obtain ⟨id,_,h2,_⟩:=P5 hm;exact hh.low id p h2
 ·rintro b ⟨j,o',p,h1,h2,h3⟩;obtain ⟨id,o,_,g2,g3,_⟩:=back j o' p h1 h2;exact .inl ⟨id,o,p,g2,g3,h3⟩
 ·intro id p hid hm;simp [oO,hid,hm]
end
end
section
open Go
section
variable {O:bw} {m:Mp} {S:Nat->Prop} {w:yh} {hp:Hp} {ct:Nat}
def ZC (hh:aZ O m S w hp ct) (id:Nat):aZ O m S w (dz hp id) ct:=by
 have sub:∀i o,ap (dz hp id) i=some o->ap hp i=some o:=fun i o h=>by
  rw [Hg] at h
  grind
 exact ⟨fun i o p h hm=>hh.obj i o p (sub i o h) hm,hh.lt,fun i j oi oj pi pj hi hj=>hh.inj i j oi oj pi pj (sub i oi hi) (sub j oj hj),hh.slt,hh.blt,hh.low,hh.lE,hh.fP,fun i o h=>hh.bi i o (sub i o h)⟩
def aaF {id b:Nat} (h:ej m (dz hp id) b):ej m hp b:=by
 obtain ⟨i,o,p,h1,h2,h3⟩:=h;rw [Hg] at h1;by_cases hc:id=i
 ·grind
 ·simp only [hc,yR] at h1;exact ⟨i,o,p,h1,h2,h3⟩
def Xl (hh:aZ O m S w hp ct) {id:Nat} {o:Obj} {p:Pl} (hg:ap hp id=some o) (hm:m id=some p):¬ej m (dz hp id) p.b:=by
 rintro ⟨i,o',q,h1,h2,h3⟩;rw [Hg] at h1;by_cases hc:id=i
 ·grind
 ·simp only [hc,yR] at h1;exact hc (hh.inj i id o' o q p h1 hg h2 hm h3).symm
def anS {ao:Hp} (hd:jM hp ao) {b:Nat} (h:ej m ao b):ej m hp b:=by
 obtain ⟨i,o,p,h1,h2,h3⟩:=h
 have:=hd i
 rw [h1] at this
 cases hq:ap hp i with
 | none=>rw [hq] at this;cases this
 | some q=>exact ⟨i,q,p,hq,h2,h3⟩
def XP {lo:Nat} {v v':AV} {ao:Hp} {n:Nat} (hh:aZ O m S w hp ct) (hf:freeze n hp v=some (v',ao)) {u:ye} (hv:aj O.ah m S w v u):
  ∃S',aZ O m S' w ao ct/\(∀b,S b->S' b)/\(∀b,S' b->S b\/ej m hp b)/\aS v'=true/\aj O.ah eZ S' w v' u/\hX O.ah S' w lo v' u []:=by
 obtain ⟨h1,h2,h3⟩:=P1 (O:=O) hf;obtain ⟨S',g1,g2,g3⟩:=aaw hh h1 (fun id o p ho hm=>by
  have:=h2 id
  rw [ho] at this
  cases hq:ap hp id with
  | none=>rw [hq] at this;cases this
  | some q=>exact ⟨q,rfl⟩) (yD _) (fun id o ho=>(by
  have:=h2 id
  rw [ho] at this
  cases hq:ap hp id with
  | none=>rw [hq] at this;cases this
  | some q=>exact hh.bi id q hq))
 obtain ⟨k1,k2⟩:=h3 ao m S' w ct dt.refl g1;have hr:=k1 u (lX (fun _ _ h=>h) g2 (fun _ _=>rfl) v u hv);have bX:aj O.ah eZ S' w v' u:=pJ (fun _ h=>h) (fun _ _=>rfl) v' u k2 hr;refine ⟨S',g1,g2,g3,k2,bX,?_⟩
 cases v' with
 | cG _ _ _ _=>simp [aS] at k2
 | _=>exact ⟨rfl,bX,k2⟩
def ajy {S':Nat->Prop} {lo:Nat} {v:AV} {u:ye} {bs:List Nat} (hS:∀b,S b->S' b) (hn:∀b,b∈bs->¬S' b) (h:hX O.ah S w lo v u bs):hX O.ah S' w lo v u bs:=by
 cases v with
 | cG ex sz n cs=>
  obtain ⟨b,o,c,arr,t,rfl,rfl,g1,g2,g3,g4,g5,g6,g7,g8,g9⟩:=h;exact ⟨b,o,c,arr,t,rfl,rfl,g1,g2,g3,hn b (by simp),g5,g6,g7,B6 hS (fun _ _=>rfl) cs b o g9 rfl g8,g9⟩
 | _=>simp only [hX] at h ⊢;exact ⟨h.1,pJ hS (fun _ _=>rfl) _ _ h.2.2 h.2.1,h.2.2⟩
def YD {lo:Nat} {v v':AV} {ao:Hp} {n:Nat} (hh:aZ O m S w hp ct) (hf:oC n hp v=some (v',ao)) {u:ye} (hv:aj O.ah m S w v u) (bn:∀b,ej m hp b->lo<=b):
  ∃S' bs,aZ O m S' w ao ct/\(∀b,S b->S' b)/\(∀b,S' b->S b\/ej m hp b)/\hX O.ah S' w lo v' u bs/\bs.Nodup/\(∀b,b∈bs->ej m hp b/\¬ej m ao b)/\(∀b,ej m ao b->ej m hp b):=by
 have frozen:freeze n hp v=some (v',ao)->∃S' bs,aZ O m S' w ao ct/\(∀b,S b->S' b)/\(∀b,S' b->S b\/ej m hp b)/\hX O.ah S' w lo v' u bs/\bs.Nodup/\(∀b,b∈bs->ej m hp b/\¬ej m ao b)/\(∀b,ej m ao b->ej m hp b):=by
  intro hz;obtain ⟨S',g1,g2,g3,g4,g5,g6⟩:=XP (lo:=lo) hh hz hv
  exact ⟨S',[],g1,g2,g3,g6,by simp,by simp,fun b hb=>anS (P1 (O:=O) hz).2.1 hb⟩
 unfold oC at hf
 split at hf
 ·rename_i id o k
  split at hf
  ·rename_i ex sz cs hg
   cases hc:Nat.ble (o+k*sz) cs.length with
   | false=>rw [hc] at hf;cases hf
   | true=>
    rw [hc] at hf;obtain ⟨rfl,rfl⟩:=hf;have hle:=Nat.le_of_ble_eq_true hc;obtain ⟨p,c,hm,rfl,h1,h2⟩:=hv;obtain ⟨p',arr,t,g1,g2,g3,g4,g5,g6,g7,g8,g9,g10⟩:=hh.obj id _ _ hg hm;rw [hm] at g1;injection g1 with g1
    subst g1;rw [g3] at h2;refine ⟨S,[p.b],ZC hh id,fun _ h=>h,fun _ h=> .inl h,?_,by simp,?_,fun b hb=>aaF hb⟩
    ·refine ⟨p.b,p.o+o,c,arr,t,rfl,rfl,h1,?_,bn _ (HT hg hm),g9 rfl,g2,?_,by omega,?_,B5 _ (Aw _ _ (g8 rfl))⟩
     ·intro hx;simp only [yf] at hx;have e1:=yo hx.2;have e2:=sO.1 hx.1.2;have e3:=g6 hx.1.1
      have:c*sz=k*sz:=by omega
      exact Nat.eq_of_mul_eq_mul_right e2 this
     ·simp only [slice,List.length_take,List.length_drop];omega
     ·exact B6 (fun _ h=>h) (fun _ _=>rfl) _ _ _ (B5 _ (Aw _ _ (g8 rfl))) rfl (B8 _ _ _ _ (qM _ _ _ _ g7))
    ·intro b hb;simp only [List.mem_singleton] at hb;subst hb;exact ⟨HT hg hm,Xl hh hg hm⟩
  ·grind
 ·grind
def XQ {lo n:Nat}:∀{vs eh:List AV} {us:List ye} {hp ao:Hp} {S:Nat->Prop},aZ O m S w hp ct->qW n hp vs=some (eh,ao)->au O.ah m S w vs us->(∀b,ej m hp b->lo<=b)->
  ∃S' bs,(∀b,S b->S' b)/\(∀b,S' b->S b\/ej m hp b)/\kN O.ah S' w lo eh us bs/\bs.Nodup/\(∀b,b∈bs->ej m hp b)/\(∀b,S' b->b<w.heap.size)
 | [],eh,us,hp,ao,S,hh,hf,hv,bn=>by
  obtain ⟨rfl,rfl⟩:=hf;exact ⟨S,[],fun _ h=>h,fun _ h=> .inl h,by simp only [kN];exact ⟨hv,by trivial⟩,by simp,by simp,hh.slt⟩
 | v::r,eh,us,hp,ao,S,hh,hf,hv,bn=>by
  simp only [qW] at hf
  cases h1:oC n hp v with
  | none=>simp [h1] at hf
  | some q=>
   obtain ⟨v1,bD⟩:=q;simp only [h1] at hf
   cases h2:qW n bD r with
   | none=>simp [h2] at hf
   | some q2=>
    simp only [h2,yc,yk] at hf;obtain ⟨rfl,rfl⟩:=hf;obtain ⟨u,t,rfl,er,cZ⟩:=hv;obtain ⟨S1,b1,k1,k2,k3,k4,k5,k6,k7⟩:=YD (lo:=lo) hh h1 er bn;obtain ⟨S2,b2,g1,g2,g3,g4,g5,g6⟩:=XQ (us:=t) k1 h2 (gT (fun _ _ h=>h) k2 (fun _ _=>rfl) _ _ cZ) (fun b hb=>bn b (k7 b hb));have SA:∀b,b∈b1->¬S2 b:=by
     intro b hb hs;rcases g2 b hs with h | h
     ·cases v1 with
      | cG ex sz n cs=>
       simp only [hX] at k4
       grind
      | _=>simp only [hX] at k4;rw [k4.1] at hb;cases hb
     ·grind
    refine ⟨S2,b1++b2,fun b hb=>g1 b (k2 b hb),fun b hb=>?_,?_,?_,?_,g6⟩
    ·grind
    ·simp only [kN];exact ⟨u,t,b1,b2,rfl,rfl,ajy g1 SA k4,g3⟩
    ·grind
    ·grind
def P6 {lo:Nat}:∀{cs:List AV} {us:List ye},aJ cs=true->au O.ah eZ S w cs us->kN O.ah S w lo cs us []
 | [],us,_,h=>by simp only [au] at h;exact ⟨h,by trivial⟩
 | c::r,us,hp,h=>by
  obtain ⟨u,t,rfl,h1,h2⟩:=h;simp only [aJ,yf] at hp;refine ⟨u,t,[],[],rfl,rfl,?_,P6 hp.2 h2⟩
  cases c with
  | cG _ _ _ _=>simp [aS] at hp
  | _=>exact ⟨rfl,h1,hp.1⟩
def ajz {lo:Nat} {v r:AV} {u:ye} (hh:aZ O m S w hp ct) (hr:result hp v=some r) (hv:aj O.ah m S w v u) (bn:∀b,ej m hp b->lo<=b):
  ∃S',(∀b,S b->S' b)/\(∀b,S' b->S b\/ej m hp b)/\(∀b,S' b->b<w.heap.size)/\nH O.ah S' w lo r u:=by
 unfold result at hr
 split at hr
 ·rename_i vs
  split at hr
  ·cases h1:qW deep hp vs with
   | none=>simp [h1] at hr
   | some q=>
    simp only [h1,yc] at hr;subst hr;obtain ⟨us,rfl,hv⟩:=hv;obtain ⟨S',bs,g1,g2,g3,g4,g5,g6⟩:=XQ (lo:=lo) hh h1 hv bn;exact ⟨S',g1,g2,g6,us,bs,rfl,g3,g4⟩
  ·cases h1:freeze deep hp (.aq vs) with
   | none=>simp [h1] at hr
   | some q=>
    obtain ⟨v',ao⟩:=q;simp only [h1,yc] at hr;subst hr;obtain ⟨S',g1,g2,g3,g4,g5,g6⟩:=XP (lo:=lo) hh h1 hv;refine ⟨S',g2,g3,g1.slt,?_⟩
    cases v' with
    | aq cs=>
     obtain ⟨xs,rfl,g5⟩:=g5;exact ⟨xs,[],rfl,P6 (by simpa [aS] using g4) g5,by simp⟩
    | _=>exact ⟨[],g6⟩
 ·rename_i Of
  cases h1:oC deep hp v with
  | none=>simp [h1] at hr
  | some q=>
   obtain ⟨v',ao⟩:=q;simp only [h1,yc] at hr;subst hr;obtain ⟨S',bs,g1,g2,g3,g4,_⟩:=YD (lo:=lo) hh h1 hv bn;refine ⟨S',g2,g3,g1.slt,?_⟩
   cases v' with
   | aq cs=>
    obtain ⟨rfl,h2,h3⟩:=g4;obtain ⟨xs,rfl,h2⟩:=h2;exact ⟨xs,[],rfl,P6 (by simpa [aS] using h3) h2,by simp⟩
   | _=>exact ⟨bs,g4⟩
end
end
section
open Go
def WF (ro:Option Nat):Fence:={Fence.wide with round:=ro}
section
variable {O:bw}
def abo (O:bw) (hp:Hp) (ct:Nat) (l:Nat) (xs:List AV) (v:AV) (ao:Hp) (bh:Nat):Prop:=
 ∀(m:Mp) (S:Nat->Prop) (w:yh) (args:Array ye) (p:Pl),aZ O m S w hp ct->m l=some p->au O.ah m S w xs args.toList->
  ∃f tmps assign body,(Instr.yield p.b args).run O.P w= .ok (.round p.b f tmps assign body) w/\yav Fence.wide 0 O.P p.b f tmps assign body w (sH O m S w hp ct v ao bh)
structure nv (O:bw) (run:cJ):Prop where
 pure:∀n vals r,bR O.prog O.aU run n vals=some r->eN O n vals r
 heap:∀hp ct n vals v ao bh,ik O.prog O.aU run hp ct n vals=some (v,ao,bh)->A0 O n hp ct vals v ao bh
 round:∀hp ct l xs v ao bh,iT run hp ct l xs=some (v,ao,bh)->abo O hp ct l xs v ao bh
end
section
variable {P:y5} {o:yY} {a:Act} {w:yh} {ro:Option Nat} {next:Act->yh->Prop} {Q:uI->Act->yh->Prop}
def KQ {c:yag} {f:xB} (ho:o.op= .call c) (hc:c.callee= .value f) {g:tJ} {fi ca:Array ye} (hf:a.eval f= .func (.func g) fi ca) {R:uL->yh->Prop}
  (h:AK P g (fi++c.args.map a.eval++ca) w R) (hn:∀e w',R e w'->∃u,e= .returned u/\next (a.put o.dst u) w'):o.wpIn (WF ro) 0 P a w next Q:=by
 have fC:(o.semAt ro a.eval).run P w=(callFunc g (fi++c.args.map a.eval++ca)).run P w:=by
  rw [Oper.semAt_eq _ _ _ (fun c' h'=>by rw [ho] at h';cases h')];simp only [execOp,ho,resolve,hc,Deferred.ofValue,hf,Sem.run_bind,Sem.run_pure,Result.andThen_ok,invoke]
 refine ⟨fun _ _=>trivial,?_⟩;show o.uponIn (WF ro) 0 P a next Q ((o.semAt ro a.eval).run P w)
 rw [fC];rcases h with ⟨h1,h2⟩ | ⟨u,w',h1,h2⟩
 ·rw [h1,Oper.uponIn_enter];refine ⟨fun h=>by simp [WF,Fence.wide] at h,?_⟩;have h3:CallsIn (WF ro) 0 P g (fi++c.args.map a.eval++ca) w R:=h2;refine CallsIn.mono h3 (fun e w' he=>?_);obtain ⟨u,rfl,hq⟩:=hn e w' he;exact hq
 ·rw [h1];obtain ⟨u',e,hq⟩:=hn _ _ h2;injection e with e
  subst e;exact hq
def aly {c:yag} {f:xB} (ho:o.op= .call c) (hc:c.callee= .value f) {l:Nat} (hf:a.eval f= .func (.yield l) #[] #[]) {R:uL->yh->Prop} {g:tJ} {tmps:Array ye} {assign body:Code}
  (hy:(Instr.yield l (c.args.map a.eval)).run P w= .ok (.round l g tmps assign body) w) (h:yav Fence.wide 0 P l g tmps assign body w R) (hn:∀e w',R e w'->∃u,e= .returned u/\next (a.put o.dst u) w'):o.wpIn (WF ro) 0 P a w next Q:=by
 have fC:(o.semAt ro a.eval).run P w= .ok (.round l g tmps assign body) w:=by
  rw [Oper.semAt_eq _ _ _ (fun c' h'=>by rw [ho] at h';cases h')];simp only [execOp,ho,resolve,hc,Deferred.ofValue,hf,Sem.run_bind,Sem.run_pure,Result.andThen_ok,invoke,Array.empty_append];exact hy
 refine ⟨fun _ _=>trivial,?_⟩;show o.uponIn (WF ro) 0 P a next Q ((o.semAt ro a.eval).run P w)
 rw [fC,Oper.uponIn_round];refine ⟨fun h=>by simp [WF,Fence.wide] at h,?_⟩;have h3:yav (WF ro) 0 P l g tmps assign body w R:=h;refine RoundIn.mono h3 (fun e w' he=>?_);obtain ⟨u,rfl,hq⟩:=hn e w' he;exact hq
def L7 {n:Next} {u:ye} {w':yh} (hd:∀c,o.op≠.defer c) (h:(execOp a.eval o).run P w= .ok n w') (hn:n= .value u\/(n= .skip/\u=undef)) (hq:next (a.put o.dst u) w'):o.wpIn (WF ro) 0 P a w next Q:=by
 refine ⟨fun _ _=>trivial,?_⟩;show o.uponIn (WF ro) 0 P a next Q ((o.semAt ro a.eval).run P w)
 rw [Oper.semAt_eq _ _ _ hd,h];rcases hn with rfl | ⟨rfl,rfl⟩
 ·exact hq
 ·exact hq
end
def zt (P:y5) (H:Hint) (q:Op) (o:yY):Prop:=
 (∃k,q=br P H k o)\/(∃c f rs,o.op= .call c/\c.callee= .value f/\q= .gY rs (aR H f) (gN H c.args.toList))\/
  ∃t x y sz rs,o.op= .store t x y/\cP P t=some sz/\q= .jE rs sz (aR H x) (aR H y)
def mT:Op->Op
 | .gY _ f xs=> .gY [] f xs
 | .jE _ s x v=> .st s x v
 | o=>o
section
variable {O:bw} {H:Hint} {m:Mp} {S:Nat->Prop} {w:yh} {tm:Env} {a:Act} {hp:Hp} {ct:Nat} {self:cJ} {ro:Option Nat} {next:Act->yh->Prop} {Q:uI->Act->yh->Prop}
def LQ {o:yY} {k:Nat} {md:Md} {x:X} {xs:List X} (h:br O.P H k o= .call md x xs) (hb:x≠.c .undef):∃c f,o.op= .call c/\c.callee= .value f/\x=aR H f/\xs=gN H c.args.toList:=by
 have nb:bad= .call md x xs->False:=fun h=>by simp only [bad,Op.call.injEq] at h;exact hb h.2.1.symm
 cases ho:o.op with
 | call c=>
  obtain ⟨callee,args,ts⟩:=c;simp only [br,ho] at h
  split at h
  ·rename_i f;cases hm:H.mode k<;>simp only [hm,Op.call.injEq,reduceCtorEq] at h
   all_goals exact ⟨_,f,rfl,rfl,h.2.1.symm,h.2.2.symm⟩
  ·repeat' split at h
   all_goals first
    | exact (nb h).elim
    | (cases h;done)
    | (revert h;generalize yr _ _=bb;intro h;cases bb<;>first | exact (nb h).elim | (cases h;done))
  ·exact (nb h).elim
 | binOp op t x' y ty=>
  cases op<;>simp only [br,ho,qZ,sM] at h
  case eql=>
        repeat' split at h
        all_goals first
         | exact (nb h).elim
         | (cases h;done)
         | (cases cS:(O.P.stoodInHeld t||O.P.eqGuardType O.P.depth t)<;>rw [cS] at h<;>first | exact (nb h).elim | (cases h;done))
  case neq=>
        repeat' split at h
        all_goals first
         | exact (nb h).elim
         | (cases h;done)
         | (cases cS:(O.P.stoodInHeld t||O.P.eqGuardType O.P.depth t)<;>rw [cS] at h<;>first | exact (nb h).elim | (cases h;done))
  all_goals cases h
 | buildSlice t n parts=>
  simp only [br,ho] at h
  repeat' split at h
  all_goals first
   | exact (nb h).elim
   | (cases h;done)
   | (revert h;generalize Nat.ble _ _=bb;intro h;cases bb<;>first | exact (nb h).elim | (simp only [ym] at h;cases h;done))
 | makeMap t r=>
  cases r<;>simp only [br,ho] at h
  ·repeat' split at h
   all_goals first
    | exact (nb h).elim
    | (cases h;done)
  ·exact (nb h).elim
 | next x' b=>
  cases b<;>simp only [br,ho] at h
  ·exact (nb h).elim
  ·cases h
 | _=>
  simp only [br,ho] at h
  (repeat' split at h)
  all_goals first
   | contradiction
   | exact (nb h).elim
   | (cases h;done)
def ais {o:yY} {k:Nat} {r:AV×Hp×Nat} (hv:bt O.prog O.aU self tm hp ct (br O.P H k o)=some r):∀c,o.op≠.defer c:=by
 intro c ho;simp [br,ho,bad,bt,dC,az] at hv
end
end
section
open Go
section
variable {O:bw} {H:Hint} {m:Mp} {S:Nat->Prop} {w:yh} {tm:Env} {a:Act} {hp ao Hq:Hp} {ct bh cH:Nat} {self:cJ} {ro:Option Nat} {next:Act->yh->Prop} {Q:uI->Act->yh->Prop}
def ajA {g:Go.Obj} {p:Pl} {S':Nat->Prop} {base:Nat} (hh:aZ O m S w Hq cH) (hi:m ct=none) (hb:p.b=w.heap.size) (h1:∀b,S b->S' b) (h2:∀b,S' b->S b\/b=w.heap.size):
  cu m S w Hq (fD m ct p) S' (w.alloc g) Hq base where
 os:=rfl
 tape:=rfl
 output:=rfl
 size:=by simp
 same b hb _:=alloc_old hb
 sub:=h1
 still b hb:=alloc_old (hh.slt b hb)
 new b hb:=(h2 b hb).imp (fun h=>h) (fun h=> .inr (by omega))
 own b hb:=by
  obtain ⟨i,o,q,g1,g2,g3⟩:=hb;by_cases hc:i=ct
  ·subst hc;rw [eC] at g2
   grind
  ·rw [eB hc] at g2;exact .inl ⟨i,o,q,g1,g2,g3⟩
 old i q _ h:=kC hi i q h
 loops b r hb:=⟨r,(alloc_old (xz.1 hb).1).trans hb⟩
def Xm {Mr vals:List AV} {us:List ye} {bD:Hp} (hz:cN deep hp Mr=some (vals,bD)) (hl:dt bD Hq) (hh:aZ O m S w Hq cH) (hr:au O.ah m S w Mr us):au O.ah eZ S w vals us/\aJ vals=true:=by
 obtain ⟨_,_,h3⟩:=PH (O:=O) hz;obtain ⟨k1,k2⟩:=h3 Hq m S w cH hl hh;exact ⟨sF (fun _ h=>h) (fun _ _=>rfl) _ _ k2 (k1 us hr),k2⟩
def Q0 (hh:aZ O m S w Hq cH):AZ O w:=⟨hh.lE,hh.fP⟩
def Ll (hH:fF O H) (ht:cp O m S w tm a.tmps) {f:xB} {g:Nat} {first cap:List AV} {args:Array xB} (hf:az tm (aR H f)= .fn (.f g) first cap):
  ∃fi ca:Array ye,a.eval f= .func (.func (O.ah g)) fi ca/\au O.ah m S w (first++(dD tm (gN H args.toList)++cap)) (fi++args.map a.eval++ca).toList:=by
 have rf:=cF hH ht f;rw [hf] at rf;obtain ⟨fi,ca,h1,h2,h3⟩:=rf;refine ⟨fi,ca,h1,?_⟩
 have:=lU h2 (lU (Cm hH ht args.toList) h3)
 simp_all
def ait (hC:nv O self) (hH:fF O H) {o:yY} {c:yag} {f:xB} (ho:o.op= .call c) (iB:c.callee= .value f) {g:Nat} {first cap vals:List AV} {bD:Hp} {r:AV}
  (hf:az tm (aR H f)= .fn (.f g) first cap) (hz:cN deep hp (first++(dD tm (gN H c.args.toList)++cap))=some (vals,bD)) (hr:bR O.prog O.aU self g vals=some r)
  (hl:dt bD Hq) (ht:cp O m S w tm a.tmps) (hh:aZ O m S w Hq cH)
  (hn:∀u S' w',aZ O m S' w' Hq cH->aj O.ah m S' w' (shut r) u->cu m S w Hq m S' w' Hq cH->next (a.put o.dst u) w'):o.wpIn (WF ro) 0 O.P a w next Q:=by
 obtain ⟨fi,ca,h1,h2⟩:=Ll hH ht (args:=c.args) hf;obtain ⟨h3,h4⟩:=Xm hz hl hh h2;refine KQ ho iB h1 (hC.pure g vals r hr w S _ (Q0 hh) hh.slt h3 h4) ?_;rintro e w' ⟨u,S',rfl,hw,g1,g2,g3,g4⟩;refine ⟨u,rfl,?_⟩;obtain ⟨S2,k1,k2,k3⟩:=YA g4 m;have hS:∀b,S b->S2 b:=fun b hb=>k1 b (g1 b hb)
 have JI:∀b,S2 b->S b\/w.heap.size<=b:=fun b hb=>(k2 b hb).elim (g2 b) (fun h=> .inr h.1)
 have hl:∀b,S2 b->b<w'.heap.size:=fun b hb=>(k2 b hb).elim (g3 b) (fun h=>h.2)
 exact hn u S2 w' (DO hh hw hS JI hl) k3 (Cc hh hw hS JI)
def ajB (hC:nv O self) (hH:fF O H) {o:yY} {c:yag} {f:xB} (ho:o.op= .call c) (iB:c.callee= .value f) {g:Nat} {first cap vals:List AV} {bD:Hp} {r:AV}
  (hf:az tm (aR H f)= .fn (.f g) first cap) (hz:cN deep hp (first++(dD tm (gN H c.args.toList)++cap))=some (vals,bD)) (hr:bR O.prog O.aU self g vals=some r)
  (hl:dt (own bD ct r).2.1 Hq) (fE:(own bD ct r).2.2<=cH) (bi:∀id o,ap hp id=some o->id<ct) (BG:∀id,ct<=id->id<(own bD ct r).2.2->m id=none)
  (ht:cp O m S w tm a.tmps) (hh:aZ O m S w Hq cH)
  (hn:∀u m' S' w',aZ O m' S' w' Hq cH->dI m m'->(∀id p,m' id=some p->m id=some p\/(ct<=id/\id<(own bD ct r).2.2))->aj O.ah m' S' w' (own bD ct r).1 u->cu m S w Hq m' S' w' Hq cH->next (a.put o.dst u) w'):
  o.wpIn (WF ro) 0 O.P a w next Q:=by
 obtain ⟨fi,ca,h1,h2⟩:=Ll hH ht (args:=c.args) hf;obtain ⟨z1,z2,z3⟩:=PH (O:=O) hz;have SB:∀id o,ap bD id=some o->id<ct:=fun id o h=>by
  have:=z2 id
  rw [h] at this
  cases hq:ap hp id with
  | none=>rw [hq] at this;cases this
  | some q=>exact bi id q hq
 have apZ:∀id o,ap bD id=some o->ap (own bD ct r).2.1 id=some o:=fun id o h=>by
  cases r with
  | aq vs=>exact LP SB id o h
  | _=>exact QZ SB id o h
 have nd:dt bD Hq:=fun id o h=>hl id o (apZ id o h)
 obtain ⟨h3,h4⟩:=Xm hz nd hh h2;refine KQ ho iB h1 (hC.pure g vals r hr w S _ (Q0 hh) hh.slt h3 h4) ?_;rintro e w' ⟨u,S',rfl,hw,g1,g2,g3,g4⟩;refine ⟨u,rfl,?_⟩;have BH:=DO hh hw g1 g2 g3;have nS:=Cc (base:=cH) hh hw g1 g2;obtain ⟨m',S2,k1,k2,k3,k4,k5,k6⟩:=apY (lo:=w.heap.size) BH hl fE SB BG g4 hh.fP (fun j q hq=>hh.blt j q hq);refine hn u m' S2 w' k1 k2 (fun id p h=>(k3 id p h).imp (fun h=>h) (fun h=>⟨h.1,h.2.1⟩)) k4 ⟨hw.os,hw.tape,hw.output,hw.size,fun b hb _=>hw.same b hb,fun b hb=>k5 b (g1 b hb),fun b hb=>hw.same b (hh.slt b hb),?_,?_,fun i q _ h=>k2 i q h,nS.loops⟩
 ·grind
 ·rintro b ⟨i,ob,q,q1,q2,q3⟩;rcases k3 i q q2 with h | h
  ·exact .inl ⟨i,ob,q,q1,h,q3⟩
  ·grind
def quiet_step (hC:nv O self) (hH:fF O H) {o:yY} {q:Op} {v:AV} (hk:bG q<=1) (hq:zt O.P H q o) (hd:∀c,o.op≠.defer c) (hv:bt O.prog O.aU self tm hp ct q=some (v,ao,bh)) (hl:dt ao Hq) (fE:bh<=cH)
  (bi:∀id o,ap hp id=some o->id<ct) (BG:∀id,ct<=id->id<bh->m id=none) (ht:cp O m S w tm a.tmps) (hh:aZ O m S w Hq cH)
  (hn:∀u m' S' w',aZ O m' S' w' Hq cH->dI m m'->(∀id p,m' id=some p->m id=some p\/(ct<=id/\id<bh))->aj O.ah m' S' w' v u->cu m S w Hq m' S' w' Hq cH->next (a.put o.dst u) w'):
  o.wpIn (WF ro) 0 O.P a w next Q:=by
 have jF:∃k,q=br O.P H k o:=by
  rcases hq with h | ⟨c,f,rs,_,_,rfl⟩ | ⟨_,_,_,_,_,_,_,rfl⟩
  ·grind
  ·simp [bG] at hk
  ·simp [bG] at hk
 obtain ⟨k,hq⟩:=jF;have read:∀{v:AV},bC tm hp q=some v->dt hp Hq->(∀u m' S' w',aZ O m' S' w' Hq cH->dI m m'->(∀id p,m' id=some p->m id=some p\/(ct<=id/\id<bh))->aj O.ah m' S' w' v u->cu m S w Hq m' S' w' Hq cH->next (a.put o.dst u) w')->o.wpIn (WF ro) 0 O.P a w next Q:=by
  intro v hr hl hn;have bX:=aju hl hr;rw [hq] at bX;obtain ⟨u,h1,h2⟩:=aav hH ht hh bX;exact L7 hd h1 (.inl rfl) (hn u m S w hh dI.refl (fun _ _ h=> .inl h) h2 cu.refl)
 have makes:∀{v:AV} {b:Obj},cU tm hp ct q=some (v,b)->dt ((ct,b)::hp) Hq->ct+1<=cH->m ct=none->(∀u m' S' w',aZ O m' S' w' Hq cH->dI m m'->(∀id p,m' id=some p->m id=some p\/(ct<=id/\id<ct+1))->aj O.ah m' S' w' v u->cu m S w Hq m' S' w' Hq cH->next (a.put o.dst u) w')->o.wpIn (WF ro) 0 O.P a w next Q:=by
  intro v b hr hl hc hi hn;rw [hq] at hr;have bX:cU tm Hq ct (br O.P H k o)=some (v,b):=by rw [<-hr];exact G4 (fun _ _=>rfl)
  obtain ⟨u,g,p,h1,h2,h3,h4⟩:=anM hH ht hh bX;obtain ⟨S',k1,k2,k3⟩:=Zu (i:=ct) (g:=g) (p:=p) hh hi hc h2 (fun o' kV=>by
   obtain ⟨o'',g1,g2⟩:=hl ct b (by rw [gU];simp)
   rw [kV] at g1;injection g1 with g1
   subst g1
   have:=Xj g2 eC (h4 _ (kC hi) eC).1 h3
   rwa [h2] at this)
  refine L7 hd h1 (.inl rfl) (hn u _ S' _ k1 (kC hi) (fun id q hq=>?_) (lX (fun _ _ h=>h) k2 (fun _ _=>rfl) _ _ (h4 _ (kC hi) eC).2) (ajA hh hi h2 k2 k3));by_cases hc:id=ct
  ·grind
  ·rw [eB hc] at hq;exact .inl hq
 have cQ:∀{q:Op},(match cU tm hp ct q with | some (v,b)=>some (v,(ct,b)::hp,ct+1) | none=>(none:fQ))=some (v,ao,bh)->∃b,cU tm hp ct q=some (v,b)/\ao=(ct,b)::hp/\bh=ct+1:=by
  intro q h
  cases hm:cU tm hp ct q with
  | none=>simp [hm] at h
  | some r=>
   grind
 have kW:∀{q:Op},(match bC tm hp q with | some v=>some (v,hp,ct) | none=>(none:fQ))=some (v,ao,bh)->bC tm hp q=some v/\ao=hp/\bh=ct:=by
  intro q h
  cases hm:bC tm hp q with
  | none=>simp [hm] at h
  | some r=>
   grind
 have HU:(∃b,cU tm hp ct q=some (v,b)/\ao=(ct,b)::hp/\bh=ct+1)->o.wpIn (WF ro) 0 O.P a w next Q:=by
  grind
 have ap0:(bC tm hp q=some v/\ao=hp/\bh=ct)->o.wpIn (WF ro) 0 O.P a w next Q:=by
  grind
 cases q with
 | st _ _ _=>simp [bG] at hk
 | oX _ _ _ _=>simp [bG] at hk
 | oZ _=>simp [bG] at hk
 | dH _ _ _ _=>simp [bG] at hk
 | pc _ _ _=>simp [bG] at hk
 | gY _ _ _=>simp [bG] at hk
 | jE _ _ _ _=>simp [bG] at hk
 | box s x=>exact HU (cQ (by simp only [bt] at hv;exact hv))
 | bV n s z ps=>exact HU (cQ (by simp only [bt] at hv;exact hv))
 | gP s b z x y=>exact HU (cQ (by simp only [bt] at hv;exact hv))
 | zS=>exact HU (cQ (by simp only [bt] at hv;exact hv))
 | oY x=>exact HU (cQ (by simp only [bt] at hv;exact hv))
 | call md x xs=>
  cases md with
  | heap=>simp [bG] at hk
  | dyn=>simp [bG] at hk
  | pure=>
   simp only [bt,dC] at hv
   split at hv
   ·rename_i g first cap hx
    (try simp only at hv)
    cases hz:cN deep hp (first++(dD tm xs++cap)) with
    | none=>simp [hz] at hv
    | some z=>
     obtain ⟨vals,bD⟩:=z;simp only [hz] at hv
     cases hr:bR O.prog O.aU self g vals with
     | none=>simp [hr] at hv
     | some r=>
      simp only [hr,yc,yk] at hv;obtain ⟨rfl,rfl,rfl⟩:=hv;obtain ⟨c,f,ho,iB,rfl,rfl⟩:=LQ hq.symm (by rintro rfl;simp [az] at hx);exact ait hC hH ho iB hx hz hr hl ht hh (fun u S' w' h1 h2 h3=>hn u m S' w' h1 dI.refl (fun _ _ h=> .inl h) h2 h3)
   ·simp at hv
   ·cases hv
  | own=>
   simp only [bt,dC] at hv
   split at hv
   ·rename_i g first cap hx
    (try simp only at hv)
    cases hz:cN deep hp (first++(dD tm xs++cap)) with
    | none=>simp [hz] at hv
    | some z=>
     obtain ⟨vals,bD⟩:=z;simp only [hz] at hv
     cases hr:bR O.prog O.aU self g vals with
     | none=>simp [hr] at hv
     | some r=>
      simp only [hr,yc] at hv;obtain ⟨c,f,ho,iB,rfl,rfl⟩:=LQ hq.symm (by rintro rfl;simp [az] at hx);have e1:v=(own bD ct r).1:=by rw [hv]
      have e2:ao=(own bD ct r).2.1:=by rw [hv]
      have e3:bh=(own bD ct r).2.2:=by rw [hv]
      subst e1;subst e2;subst e3;exact ajB hC hH ho iB hx hz hr hl fE bi BG ht hh hn
   ·simp at hv
   ·cases hv
 | _=>exact ap0 (kW (by simp only [bt] at hv;exact hv))
end
end
end VE
