import Derived.IntWalk
import Derived.Laws.CopyOwn
import Derived.RangeFuncLeaves
import Derived.Test.YtjemkccfpkgopaaGreatDoorVaa
set_option linter.all false
set_option maxRecDepth 100000
open Array renaming getElem?_eq_some_iff→xy,length_toList→vn,range→uH
open Bool renaming and_eq_true→yh,false_eq_true→yL
open Go renaming Ending→tq,FuncId→yaP,Loop→uP,MapEntry→uQ,Next→yag,Obj→tp,Oper→y8,Operand→xz,Program→y9,RoundIn→yaG,TypeDesc→vC,TypeId→yB,TypeInfo→ybV,Value→yg,World→yi,sizeOf→vG
open List renaming append_assoc→xA,cons_append→xk,eq_nil_of_length_eq_zero→yo,ext_getElem?→yaz,flatten_append→yam,flatten_cons→vm,getElem?_append_left→xX,getElem?_append_right→xL,getElem?_drop→yat,getElem?_take_of_lt→uk,getElem?_toArray→yaa,length_append→yN,length_drop→xN,length_take→yy,map_cons→xc,mem_append→wK,range→xe,replicate→yk,replicate_succ→wO,size_toArray→uY,take_of_length_le→yC,take_succ_cons→wg
open Nat renaming add_mul→wE,add_zero→y5,beq→yx,beq_refl→wP,ble→yG,blt→yR,eq_of_beq_eq_true→yt,eq_of_mul_eq_mul_right→tG,eq_zero_or_pos→xq,le_of_ble_eq_true→yz,le_refl→yv,lt_of_lt_of_le→yU,min_le_left→yaR,mul_comm→xJ,mul_le_mul_right→yQ,zero_add→ye
open Option renaming isSome_none→yae
open Option.some renaming injEq→yd
open Prod.mk renaming injEq→yq
open UInt8 renaming toNat→xb
namespace VE
section
open Go
def fN (m:Mp) (id:Nat) (p:Pl):Mp:=fun i=>if i=id then some p else m i
def eE {m:Mp} {id:Nat} {p:Pl}:fN m id p id=some p:=by simp [fN]
def eD {m:Mp} {id i:Nat} {p:Pl} (h:i≠id):fN m id p i=m i:=by simp [fN,h]
section
variable {O:bA} {m:Mp} {S:Nat->Prop} {w:yi} {hp:Hp} {ct:Nat}
def dG (m m':Mp):Prop:=∀id p,m id=some p->m' id=some p
def dG.refl {m:Mp}:dG m m:=fun _ _ h=>h
def dG.trans {m m' K6:Mp} (h:dG m m') (k:dG m' K6):dG m K6:=fun id p hp=>k id p (h id p hp)
def kK {i:Nat} (h:m i=none) {p:Pl}:dG m (fN m i p):=by
 intro id q hq;rw [eD]
 ·grind
 ·grind
def AU {tm:Env} {tmps:Array yg} {m':Mp} {S':Nat->Prop} {w':yi} (hm:∀id p,m id=some p->m' id=some p) (hS:∀b,S b->S' b) (hw:fX S w w')
  (h:cm O m S w tm tmps):cm O m' S' w' tm tmps:=fun i=>lY hm hS hw _ _ (h i)
def alloc_old {o:tp} {b:Nat} (hb:b<w.heap.size):(w.alloc o).heap[b]? =w.heap[b]? :=RowKit.Below.heap_alloc w o b hb
def rQ {m':Mp} {S':Nat->Prop} {w':yi} {id:Nat} {o:Obj} (hm:∀id p,m id=some p->m' id=some p) (hS:∀b,S b->S' b) (hw:fX S w w') (hb:∀p,m id=some p->w'.heap[p.b]? =w.heap[p.b]?)
  (hn:∀p,m id=some p->S' p.b->S p.b) (h:fM O m S w id o):fM O m' S' w' id o:=by
 have rowAt:∀(cs:List AV) (b k:Nat),w'.heap[b]? =w.heap[b]? ->bW O.ah m S w cs b k->bW O.ah m' S' w' cs b k:=by
  intro cs
  induction cs with
  | nil=>intro b k _ _;simp only [bW]
  | cons c cs ih=>
   intro b k sT hr;obtain ⟨⟨u,h1,h2⟩,h3⟩:=hr;exact ⟨⟨u,(Me sT).trans h1,lY hm hS hw _ _ h2⟩,ih b (k+1) sT h3⟩
 cases o with
 | cells rw pu ex sz cs=>
  obtain ⟨p,arr,t,h1,h2,h3,h4,h5,h6,h7,h8,h9,iQ⟩:=h;exact ⟨p,arr,t,hm _ _ h1,(hb p h1).trans h2,h3,h4,h5,h6,rowAt cs p.b p.o (hb p h1) h7,h8,fun hr hs=>h9 hr (hn p h1 hs),fun hr=>hS _ (iQ hr)⟩
 | mp rw ks vs=>
  obtain ⟨p,es,clock,h1,h2,h3,h4,h5,h6⟩:=h;exact ⟨p,es,clock,hm _ _ h1,(hb p h1).trans h2,iw hm hS hw _ _ h3,iw hm hS hw _ _ h4,fun hr hs=>h5 hr (hn p h1 hs),fun hr=>hS _ (h6 hr)⟩
 | si s pos=>
  obtain ⟨p,t,h1,h2,h3,h4⟩:=h;exact ⟨p,t,hm _ _ h1,(hb p h1).trans h2,h3,fun hs=>h4 (hn p h1 hs)⟩
 | lp tm ps cQ body st pe=>
  obtain ⟨p,l,hi,h1,h2,h3,h4,h5,h6,h7,h8⟩:=h;exact ⟨p,l,hi,hm _ _ h1,(hb p h1).trans h2,fun hs=>h3 (hn p h1 hs),h4,h5,h6,AU hm hS hw h7,h8⟩
def ix {id i:Nat} {o:Obj}:ay ((id,o)::hp) i=if id=i then some o else ay hp i:=by
 simp only [ay]
 simp_all
def Ij (hh:aW O m S w hp ct) (g:tp):fX S w (w.alloc g):=fun b hb=>alloc_old (hh.slt b hb)
def jD:Obj->Obj->Prop
 | .cells rw pu ex sz cs,o'=>∃rw',o'= .cells rw' pu ex sz cs/\(rw'=true->rw=true)
 | .mp rw ks vs,o'=>∃rw',o'= .mp rw' ks vs/\(rw'=true->rw=true)
 | .si s pos,o'=>o'= .si s pos
 | .lp tm ps cQ body st pe,o'=>o'= .lp tm ps cQ body st pe
def jD.refl:∀o,jD o o
 | .cells rw _ _ _ _=>⟨rw,rfl,fun h=>h⟩
 | .mp rw _ _=>⟨rw,rfl,fun h=>h⟩
 | .si _ _=>rfl
 | .lp _ _ _ _ _ _=>rfl
def jD.trans {a b c:Obj} (h:jD a b) (k:jD b c):jD a c:=by
 cases a with
 | cells rw pu ex sz cs=>
  obtain ⟨r1,rfl,h1⟩:=h;obtain ⟨r2,rfl,h2⟩:=k;exact ⟨r2,rfl,fun h=>h1 (h2 h)⟩
 | mp rw ks vs=>
  obtain ⟨r1,rfl,h1⟩:=h;obtain ⟨r2,rfl,h2⟩:=k;exact ⟨r2,rfl,fun h=>h1 (h2 h)⟩
 | si s pos=>simp only [jD] at h;subst h;exact k
 | lp tm ps cQ body st pe=>simp only [jD] at h;subst h;exact k
def di (hp ak:Hp):Prop:=∀id o,ay hp id=some o->∃o',ay ak id=some o'/\jD o o'
def di.refl {hp:Hp}:di hp hp:=fun _ o h=>⟨o,h,jD.refl o⟩
def di.trans {a b c:Hp} (h:di a b) (k:di b c):di a c:=fun id o ho=>
 let ⟨o1,h1,l1⟩:=h id o ho
 let ⟨o2,h2,l2⟩:=k id o1 h1
 ⟨o2,h2,l1.trans l2⟩
def js:Obj->Prop
 | .cells rw _ _ _ _=>rw=false
 | .mp rw _ _=>rw=false
 | _=>False
def aeC {ak:Hp} {aP:Nat} (hh:aW O m S w hp ct) (hl:di hp ak) (hd:∀id o p,ay ak id=some o->m id=some p->∃o',ay hp id=some o') (eX:ct<=aP) (aBi:∀id o,ay ak id=some o->id<aP):
  ∃S',aW O m S' w ak aP/\(∀b,S b->S' b)/\∀b,S' b->S b\/ek m hp b:=by
 refine ⟨fun b=>S b\/∃id p o,m id=some p/\p.b=b/\ay ak id=some o/\js o,?_,fun b h=> .inl h,?_⟩
 ·refine ⟨?_,fun id p h=>yU (hh.lt id p h) eX,?_,?_,hh.blt,hh.low,hh.lG,hh.fY,aBi⟩
  ·intro id o' p lP hm;obtain ⟨o,ho⟩:=hd id o' p lP hm;obtain ⟨o'',h1,h2⟩:=hl id o ho;rw [lP] at h1;injection h1 with h1
   subst h1;have h3:=hh.obj id o p ho hm;have hS:∀b,S b->(S b\/∃id p o,m id=some p/\p.b=b/\ay ak id=some o/\js o):=fun b h=> .inl h
   have fm:∀q,m id=some q->(∃id p o,m id=some p/\p.b=q.b/\ay ak id=some o/\js o)->js o':=by
    rintro q hq ⟨j,pj,oj,ZF,hj2,hj3,hj4⟩;obtain ⟨K8,hj5⟩:=hd j oj pj hj3 ZF
    have:=hh.inj id j o K8 q pj ho hj5 hq ZF hj2.symm
    grind
   have aO:fX S w w:=fun _ _=>rfl
   cases o with
   | cells rw pu ex sz cs=>
    obtain ⟨rw',rfl,rz⟩:=h2;obtain ⟨q,arr,t,h1,h2,h3,h4,h5,h6,h7,h8,h9,iQ⟩:=h3;refine ⟨q,arr,t,h1,h2,h3,h4,h5,h6,?_,h8,?_,?_⟩
    ·clear h4 h6 h8;revert h7;generalize q.o=k
     induction cs generalizing k with
     | nil=>intro _;simp only [bW]
     | cons c cs ih=>
      intro hr;simp only [bW] at hr ⊢;obtain ⟨⟨u,g1,g2⟩,g3⟩:=hr
      exact ⟨⟨u,g1,lY (fun _ _ h=>h) hS aO _ _ g2⟩,by
       have oz:∀(cs:List AV) (b k:Nat),bW O.ah m S w cs b k->bW O.ah m (fun b=>S b\/∃id p o,m id=some p/\p.b=b/\ay ak id=some o/\js o) w cs b k:=by
        intro cs
        induction cs with
        | nil=>intro b k _;simp only [bW]
        | cons c cs ih=>
         intro b k hr;simp only [bW] at hr ⊢;obtain ⟨⟨u,g1,g2⟩,g3⟩:=hr;exact ⟨⟨u,g1,lY (fun _ _ h=>h) hS aO _ _ g2⟩,ih b (k+1) g3⟩
       exact oz _ _ _ g3⟩
    ·rintro hr (hs | hs)
     ·grind
     ·have:=fm q h1 hs
      simp only [js] at this
      grind
    ·intro hr;exact .inr ⟨id,q,_,h1,rfl,lP,hr⟩
   | mp rw ks vs=>
    obtain ⟨rw',rfl,rz⟩:=h2;obtain ⟨q,es,clock,h1,h2,h3,h4,h5,h6⟩:=h3;refine ⟨q,es,clock,h1,h2,iw (fun _ _ h=>h) hS aO _ _ h3,iw (fun _ _ h=>h) hS aO _ _ h4,?_,?_⟩
    ·rintro hr (hs | hs)
     ·grind
     ·have:=fm q h1 hs
      simp only [js] at this
      grind
    ·intro hr;exact .inr ⟨id,q,_,h1,rfl,lP,hr⟩
   | si s pos=>
    simp only [jD] at h2;subst h2;refine rQ (fun _ _ h=>h) hS aO (fun _ _=>rfl) (fun q hq hs=>?_) h3;rcases hs with hs | hs
    ·grind
    ·exact (fm q hq hs).elim
   | lp tm ps cQ body st pe=>
    simp only [jD] at h2;subst h2;refine rQ (fun _ _ h=>h) hS aO (fun _ _=>rfl) (fun q hq hs=>?_) h3;rcases hs with hs | hs
    ·grind
    ·exact (fm q hq hs).elim
  ·intro i j oi oj pi pj hi hj bS gH e;obtain ⟨K9,dS⟩:=hd i oi pi hi bS;obtain ⟨K8,ZG⟩:=hd j oj pj hj gH;exact hh.inj i j K9 K8 pi pj dS ZG bS gH e
  ·rintro b (hb | ⟨id,p,o,h1,rfl,_,_⟩)
   ·exact hh.slt b hb
   ·exact hh.blt id p h1
 ·rintro b (hb | ⟨id,p,o,h1,rfl,h3,_⟩)
  ·exact .inl hb
  ·obtain ⟨o',lP⟩:=hd id o p h3 h1;exact .inr ⟨id,o',p,lP,h1,rfl⟩
def adt {i:Nat} (hh:aW O m S w hp ct) (hi:m i=none) (GC:i<ct) {g:tp} {p:Pl} (hb:p.b=w.heap.size)
  (hf:∀o,ay hp i=some o->(fM O (fN m i p) S (w.alloc g) i o/\¬js o)\/
   (js o/\fM O (fN m i p) (fun b=>S b\/b=w.heap.size) (w.alloc g) i o)):
  ∃S',aW O (fN m i p) S' (w.alloc g) hp ct/\(∀b,S b->S' b)/\∀b,S' b->S b\/b=w.heap.size:=by
 have eV:(w.alloc g).heap.size=w.heap.size+1:=by simp
 have bk:O.w0.heap.size<=w.heap.size:=hh.fY;have gen:∀S':Nat->Prop,(∀b,S b->S' b)->(∀b,S' b->S b\/b=w.heap.size)->(∀o,ay hp i=some o->fM O (fN m i p) S' (w.alloc g) i o)->aW O (fN m i p) S' (w.alloc g) hp ct:=by
  intro S' h1 h2 h3;have La:∀id q,m id=some q->¬q.b=w.heap.size:=fun id q hq=>by have:=hh.blt id q hq;omega
  refine ⟨?_,?_,?_,?_,?_,?_,?_,?_,hh.aZ⟩
  ·intro id o q ho hm;by_cases hc:id=i
   ·grind
   ·rw [eD hc] at hm;refine rQ (kK hi) h1 (Ij hh g) (fun q' bI=>alloc_old (hh.blt id q' bI)) (fun q' bI hs=>?_) (hh.obj id o q ho hm)
    grind
  ·intro id q hm;by_cases hc:id=i
   ·grind
   ·rw [eD hc] at hm;exact hh.lt id q hm
  ·intro a b oa ob pa pb ha cK DW zZ e;by_cases ca:a=i
   ·by_cases cb:b=i
    ·grind
    ·subst ca;rw [eE] at DW;rw [eD cb] at zZ
     grind
   ·rw [eD ca] at DW;by_cases cb:b=i
    ·subst cb;rw [eE] at zZ
     grind
    ·rw [eD cb] at zZ;exact hh.inj a b oa ob pa pb ha cK DW zZ e
  ·intro b hs;rcases h2 b hs with h | h
   ·have:=hh.slt b h;omega
   ·omega
  ·intro id q hm;by_cases hc:id=i
   ·subst hc;rw [eE] at hm
    grind
   ·rw [eD hc] at hm
    have:=hh.blt id q hm
    omega
  ·intro id q hm;by_cases hc:id=i
   ·subst hc;rw [eE] at hm
    grind
   ·rw [eD hc] at hm;exact hh.low id q hm
  ·intro b sT;exact (alloc_old (by omega)).trans (hh.lG b sT)
  ·omega
 cases ho:ay hp i with
 | none=>exact ⟨S,gen S (fun _ h=>h) (fun _ h=> .inl h) (fun o h=>by rw [ho] at h;cases h),fun _ h=>h,fun _ h=> .inl h⟩
 | some o=>
  rcases hf o ho with ⟨h1,_⟩ | ⟨_,h1⟩
  ·exact ⟨S,gen S (fun _ h=>h) (fun _ h=> .inl h) (fun o' h=>by rw [ho] at h;injection h with h;subst h;exact h1),fun _ h=>h,fun _ h=> .inl h⟩
  ·exact ⟨_,gen (fun b=>S b\/b=w.heap.size) (fun _ h=> .inl h) (fun _ h=>h) (fun o' h=>by rw [ho] at h;injection h with h;subst h;exact h1),fun _ h=> .inl h,fun _ h=>h⟩
def abu {id:Nat} {o o':Obj} {p:Pl} (hl:jD o o') (hm:m id=some p) (h:fM O m S w id o) (hn:¬js o):
  (fM O m S w id o'/\¬js o')\/(js o'/\fM O m (fun b=>S b\/b=p.b) w id o'):=by
 have hS:∀b,S b->(S b\/b=p.b):=fun _ h=> .inl h
 have aO:fX S w w:=fun _ _=>rfl
 cases o with
 | cells rw pu ex sz cs=>
  obtain ⟨rw',rfl,rz⟩:=hl
  cases rw' with
  | true=>
   grind
  | false=>
   refine .inr ⟨rfl,?_⟩;obtain ⟨q,arr,t,h1,h2,h3,h4,h5,h6,h7,h8,h9,iQ⟩:=h;rw [hm] at h1;injection h1 with h1
   subst h1;have oz:∀(cs:List AV) (b k:Nat),bW O.ah m S w cs b k->bW O.ah m (fun b=>S b\/b=p.b) w cs b k:=by
    intro cs
    induction cs with
    | nil=>intro b k _;simp only [bW]
    | cons c cs ih=>
     intro b k hr;obtain ⟨⟨u,g1,g2⟩,g3⟩:=hr;exact ⟨⟨u,g1,lY (fun _ _ h=>h) hS aO _ _ g2⟩,ih b (k+1) g3⟩
   exact ⟨p,arr,t,hm,h2,h3,h4,h5,h6,oz _ _ _ h7,h8,by simp,fun _=> .inr rfl⟩
 | mp rw ks vs=>
  obtain ⟨rw',rfl,rz⟩:=hl
  cases rw' with
  | true=>
   grind
  | false=>
   refine .inr ⟨rfl,?_⟩;obtain ⟨q,es,clock,h1,h2,h3,h4,h5,h6⟩:=h;rw [hm] at h1;injection h1 with h1
   subst h1;exact ⟨p,es,clock,hm,h2,iw (fun _ _ h=>h) hS aO _ _ h3,iw (fun _ _ h=>h) hS aO _ _ h4,by simp,fun _=> .inr rfl⟩
 | si s pos=>simp only [jD] at hl;subst hl;exact .inl ⟨h,hn⟩
 | lp tm ps cQ body st pe=>simp only [jD] at hl;subst hl;exact .inl ⟨h,hn⟩
end
end
section
open Go
section
variable {O:bA} {H:Hint} {m:Mp} {S:Nat->Prop} {w:yi} {tm:Env} {a:Act} {hp:Hp} {ct cq:Nat}
def RN {ah:Nat->Nat} {b:Nat} {arr:Array yg} {t:yB} {fr:Nat×Nat} (hb:w.heap[b]? =some (.cells arr t fr)):∀(cs:List AV) (us:List yg) (o:Nat),
  aA ah m S w cs us->(∀(j:Nat) (u:yg),us[j]? =some u->arr[o+j]? =some u)->bW ah m S w cs b o
 | [],us,o,_,_=>by simp only [bW]
 | c::cs,us,o,h,hu=>by
  simp only [aA] at h;obtain ⟨u,r,rfl,h2,h3⟩:=h;simp only [bW];refine ⟨⟨u,?_,h2⟩,RN hb cs r (o+1) h3 (fun j v hv=>?_)⟩
  ·have:=hu 0 u (by simp)
   simpa [World.cell?,hb] using this
  ·have:=hu (j+1) v (by simpa using hv)
   rw [show o+1+j=o+(j+1) by omega];exact this
def atH (hh:aW O m S w hp cq) {i:Nat} {arr:Array yg} {t:yB} {cs:List AV} {us:List yg} {pu ex:Bool} {sz:Nat} (hr:aA O.ah m S w cs us)
  (hu:∀(j:Nat) (u:yg),us[j]? =some u->arr[j]? =some u) (hl:cs.length<=arr.size) (hex:ex=true->cs.length=arr.size) (iP:pu=true->aK cs=true)
  (m':Mp) (hm:dG m m') (hi:m' i=some ⟨w.heap.size,0,arr.size,sz⟩):fM O m' S (w.alloc (.cells arr t)) i (.cells true pu ex sz cs):=by
 refine ⟨⟨w.heap.size,0,arr.size,sz⟩,arr,t,hi,heap_alloc_new w _,rfl,hl,by simp,hex,?_,iP,?_,by simp⟩
 ·exact RN (heap_alloc_new w _) cs us 0 (iw hm (fun _ h=>h) (Ij hh _) _ _ hr) (by simpa using hu)
 ·intro _ hS
  have:=hh.slt _ hS
  simp at this
def Dp (O:bA) (m:Mp) (S:Nat->Prop) (w:yi) (a:Act) (ct:Nat) (o:y8) (v:AV) (b:Obj):Prop:=
 ∃u g p,(execOp a.eval o).run O.P w= .ok (.value u) (w.alloc g)/\p.b=w.heap.size/\¬js b/\
  ∀m',dG m m'->m' ct=some p->fM O m' S (w.alloc g) ct b/\ai O.ah m' S (w.alloc g) v u
def RO {o:y8} {arr:Array yg} {t:yB} {cs:List AV} {us:List yg} {pu ex:Bool} {sz:Nat} {v:AV} {u:yg} (hh:aW O m S w hp cq)
  (he:(execOp a.eval o).run O.P w= .ok (.value u) (w.alloc (.cells arr t))) (hr:aA O.ah m S w cs us)
  (hu:∀(j:Nat) (u:yg),us[j]? =some u->arr[j]? =some u) (hl:cs.length<=arr.size) (hex:ex=true->cs.length=arr.size) (iP:pu=true->aK cs=true)
  (hv:∀m':Mp,m' ct=some ⟨w.heap.size,0,arr.size,sz⟩->ai O.ah m' S (w.alloc (.cells arr t)) v u):Dp O m S w a ct o v (.cells true pu ex sz cs):=
 ⟨u,_,⟨w.heap.size,0,arr.size,sz⟩,he,rfl,by simp [js],fun m' hm hi=>⟨atH hh hr hu hl hex iP m' hm hi,hv m' hi⟩⟩
def adu {o:y8} {t:yB} {x:yg} {vx v:AV} {b:Obj} {sz:Nat} (hh:aW O m S w hp cq) (he:(execOp a.eval o).run O.P w= .ok (.value (.pointer (some ⟨w.heap.size,0,none⟩))) (w.alloc (.cells x.cells t))) (hx:aA O.ah m S w (cellsOf vx) x.cells.toList)
  (hv:(bif yx (cellsOf vx).length sz&&cu (cellsOf vx) then some (AV.ptr ct 0,Obj.cells true (aK (cellsOf vx)) true sz (cellsOf vx)) else none)=some (v,b)):Dp O m S w a ct o v b:=by
 cases hc:(yx (cellsOf vx).length sz&&cu (cellsOf vx)) with
 | false=>rw [hc] at hv;cases hv
 | true=>
  rw [hc] at hv;obtain ⟨rfl,rfl⟩:=hv;have hlen:=iU _ _ hx;refine RO hh he hx (fun j u hj=>by simpa using hj) (by rw [<-hlen];simp) (fun _=>by rw [<-hlen];simp) (fun h=>h) (fun m' hi=>?_)
  simp only [ai];exact ⟨_,hi,by simp⟩
def arz {o:y8} {t:yB} {r:Option xz} (hh:aW O m S w hp cq) (ho:o.op= .makeMap t r) (hr:r=none):Dp O m S w a ct o (.map ct) (.mp true [] []):=by
 subst hr;refine ⟨.map (some w.heap.size),.map #[] 0,⟨w.heap.size,0,0,0⟩,by simp [execOp,ho,Instr.makeMap],rfl,by simp [js],fun m' _ hi=>⟨?_,?_⟩⟩
 ·refine ⟨_,#[],0,hi,heap_alloc_new w _,by simp [aA],by simp [aA],?_,by simp⟩;intro _ hS
  have:=hh.slt _ hS
  simp at this
 ·simp only [ai];exact ⟨_,hi,rfl⟩
def apP {o:y8} {t:yB} {x:xz} {s:List Nat} (hh:aW O m S w hp cq) (ho:o.op= .range t x) (hu:O.P.underlying t=some .string) (hx:ai O.ah m S w (.str s) (a.eval x)):
  Dp O m S w a ct o (.it ct) (.si s 0):=by
 obtain ⟨b,e,rfl⟩:=hx;refine ⟨.pointer (some ⟨w.heap.size,0,none⟩),.stringIter b 0,⟨w.heap.size,0,0,0⟩,by simp [execOp,ho,Instr.range,run_underlying hu,e],rfl,by simp [js],fun m' _ hi=>⟨?_,?_⟩⟩
 ·refine ⟨_,b,hi,heap_alloc_new w _,rfl,?_⟩;intro hS
  have:=hh.slt _ hS
  simp at this
 ·simp only [ai];exact ⟨_,hi,rfl⟩
end
def apQ (zero:Array yg):(xe zero.size).map (fun j=>zero[j]!)=zero.toList:=by
 apply List.ext_getElem
 ·simp
 ·grind
def abP (zero:Array yg):∀n:Nat,(xe (n*zero.size)).map (fun i=>zero[i%zero.size]!)=(yk n zero.toList).flatten
 | 0=>by simp
 | n+1=>by
  rw [wE,Nat.one_mul,List.range_add,List.map_append,abP zero n,List.replicate_succ',yam]
  congr 1
  simp only [List.map_map,vm,List.flatten_nil,List.append_nil];rw [<-apQ zero];apply List.map_congr_left;intro j hj;simp at hj;simp [Function.comp,xJ n,Nat.mod_eq_of_lt hj]
def Sb {ah:Nat->Nat} {m:Mp} {S:Nat->Prop} {w:yi} {cs:List AV} {us:List yg} (h:aA ah m S w cs us):∀n,aA ah m S w (yk n cs).flatten (yk n us).flatten
 | 0=>by simp [aA]
 | n+1=>by rw [wO,wO,vm,vm];exact lX h (Sb h n)
section
variable {O:bA} {H:Hint} {m:Mp} {S:Nat->Prop} {w:yi} {tm:Env} {a:Act} {hp:Hp} {ct cq:Nat}
def acy (zero:Array yg) (n:Nat):(Array.map (fun i=>zero[i%zero.size]!) (uH (n*zero.size))).toList=(yk n zero.toList).flatten:=by
 rw [<-abP zero n]
 simp
def adv (tm:Env):∀(ps:List (Nat×Nat×X)) (zero cs:List AV),fill tm zero ps=some cs->cs.length=zero.length
 | [],zero,cs,h=>by simp only [fill,yd] at h;rw [h]
 | (o,sz,x)::r,zero,cs,h=>by
  simp only [fill] at h
  cases hc:(yx (cellsOf (aF tm x)).length sz&&yG (o+sz) zero.length&&cu (cellsOf (aF tm x))) with
  | false=>rw [hc] at h;cases h
  | true=>
   rw [hc] at h;simp only [yh] at hc;have h1:=yt hc.1.1;have h2:=yz hc.1.2;rw [adv tm r _ _ h];simp only [over,yN,yy,xN];omega
def MR {α:Type} (l:List α):∀n,(yk n l).flatten.length=n*l.length
 | 0=>by simp
 | n+1=>by simp [wO,MR l n,wE,Nat.add_comm]
def apR {o:y8} {t e:yB} {n s:Nat} {z:AV} {parts:Array (Nat×xz)} {ps:List (Nat×Nat×X)} {v:AV} {b:Obj} (hH:fR O H) (ht:cm O m S w tm a.tmps) (hh:aW O m S w hp cq)
  (ho:o.op= .buildSlice t n parts) (hu:O.P.underlying t=some (.slice e)) (hs:cR O.P e=some s) (hz:mW O.P e=some z) (hn:n*s<=16777216)
  (iD:partsOf H (fun i=>some (i*s,s)) parts.toList=some ps)
  (hv:cU tm hp ct (.dd n s (yk n (cellsOf z)).flatten ps)=some (v,b)):Dp O m S w a ct o v b:=by
 simp only [cU] at hv
 cases hf:fill tm (yk n (cellsOf z)).flatten ps with
 | none=>simp [hf] at hv
 | some cs=>
  simp only [hf] at hv
  cases hc:yx cs.length (n*s) with
  | false=>rw [hc] at hv;cases hv
  | true=>
   rw [hc] at hv;simp only [yA,yd,yq] at hv;obtain ⟨rfl,rfl⟩:=hv;have hlen:=yt hc;obtain ⟨zv,mA,rfl⟩:=EQ (w:=w) hz;have Au:aA O.ah m S w (cellsOf (eL zv)) zv.cells.toList:=EA zv;have Av:=iU _ _ Au;have GD:=adv tm ps _ _ hf;rw [MR] at GD;have GF:n*s=n*zv.cells.size:=by
    rw [<-hlen,GD,<-Av];simp
   have key:∃zr:Array yg,(n*s=0->zr=#[])/\(n*s≠0->zr=zv.cells)/\aA O.ah m S w (yk n (cellsOf (eL zv))).flatten ((uH (n*s)).map (fun x=>zr[x%zr.size]!)).toList:=by
    by_cases h0:n*s=0
    ·refine ⟨#[],fun _=>rfl,fun h=>(h h0).elim,?_⟩
     have:(yk n (cellsOf (eL zv))).flatten=[]:=by
      apply yo;rw [MR,<-Av];simp only [vn];omega
     rw [this];simp [aA,h0]
    ·refine ⟨zv.cells,fun h=>(h0 h).elim,fun _=>rfl,?_⟩;rw [GF,acy];exact Sb Au n
   obtain ⟨zr,sU,jE,dj⟩:=key;obtain ⟨out,h1,h2⟩:=Ng hH ht (place:=fun i=>some (i*s,s)) parts.toList ps _ cs _ iD dj hf;have oA:=iU _ _ h2
   refine RO (arr:=out) (t:=e) (us:=out.toList) hh ?_ h2 (fun j u hj=>by simpa using hj) (by rw [<-oA];simp) (fun _=>by rw [<-oA];simp) (fun h=>h) (u:= .slice (some ⟨w.heap.size,0,none⟩) n n) ?_
   ·have iE:¬(n*s>2^24):=by omega
    by_cases h0:n*s=0
    ·have:=sU h0
     subst this;simp only [h0] at h1;simp [execOp,ho,Instr.buildSlice,run_underlying hu,nJ hs,h0,newRow] at h1 ⊢;simp [h1]
    ·have:=jE h0
     subst this;simp [execOp,ho,Instr.buildSlice,run_underlying hu,nJ hs,h0,iE,mA,newRow] at h1 ⊢;simp [h1]
   ·intro m' hi;simp only [ai];refine ⟨_,n,hi,by simp,yv _,?_⟩;simp only [ye];rw [<-hlen,<-oA];simp
def EB:∀{a b:List AV},aK a=true->aK b=true->aK (a++b)=true
 | [],_,_,h=>h
 | c::r,b,h,k=>by
  simp only [aK,yh] at h;simp only [xk,aK,yh];exact ⟨h.1,EB h.2 k⟩
def acz {z:List AV} (h:aK z=true):∀n,aK (yk n z).flatten=true
 | 0=>by simp [aK]
 | n+1=>by rw [wO,vm];exact EB h (acz h n)
def arA {o:y8} {t e:yB} {s cJ:Nat} {z:AV} {l c:xz} {v:AV} {b:Obj} (hH:fR O H) (ht:cm O m S w tm a.tmps) (hh:aW O m S w hp cq)
  (ho:o.op= .makeSlice t l c) (hu:O.P.underlying t=some (.slice e)) (hs:cR O.P e=some s) (hb:B1 O.P e=some cJ) (hz:mW O.P e=some z)
  (hv:cU tm hp ct (.gE s cJ (cellsOf z) (aS H l) (aS H c))=some (v,b)):Dp O m S w a ct o v b:=by
 simp only [cU] at hv
 cases hl:du (aF tm (aS H l)) with
 | none=>simp [hl] at hv
 | some ln=>
  cases hc:du (aF tm (aS H c)) with
  | none=>simp [hl,hc] at hv
  | some cn=>
   simp only [hl,hc] at hv
   cases hk:(yG ln cn&&(yG cn room&&(yG (cn*cJ) room&&(yx (cellsOf z).length s&&cu (cellsOf z))))) with
   | false=>rw [hk] at hv;cases hv
   | true=>
    rw [hk] at hv;simp only [yA,yd,yq] at hv;obtain ⟨rfl,rfl⟩:=hv;simp only [yh] at hk;have h1:=yz hk.1;have h2:=yz hk.2.1;have h3:=yz hk.2.2.1;have h4:=yt hk.2.2.2.1;simp only [room] at h2 h3;obtain ⟨kl,el⟩:=zC (cB hH ht l) hl;obtain ⟨kc,ec⟩:=zC (cB hH ht c) hc;obtain ⟨zv,mA,rfl⟩:=EQ (w:=w) hz;have Au:aA O.ah m S w (cellsOf (eL zv)) zv.cells.toList:=EA zv;have Av:=iU _ _ Au;have Lb:zv.cells.size=s:=by rw [<-h4,<-Av];simp
    have wrapN:∀k:Nat,k<=1099511627776->IntKind.i64.wrap (k:Int)=k:=fun k hk=>IntWalk.i64_in _ (by omega)
    obtain ⟨ti,Aw,eV,ZH⟩:∃ti,O.P.info? e=some ti/\ti.size=s/\ti.bytes=cJ:=by
     unfold cR at hs;unfold B1 at hb
     cases hi:O.P.info? e with
     | none=>simp [hi] at hs
     | some ti=>simp only [hi,yd] at hs hb;exact ⟨ti,rfl,hs,hb⟩
    have Dt:((uH (cn*s)).map (zv.cells[·%zv.cells.size]!)).toList=(yk ln zv.cells.toList).flatten++(yk (cn-ln) zv.cells.toList).flatten:=by
     rw [<-Lb,acy,<-yam,List.replicate_append_replicate]
     grind
    have jC:(yk ln (cellsOf (eL zv))).flatten.length=ln*s:=by rw [MR,h4]
    have hmul:ln*s<=cn*s:=yQ _ h1
    refine RO (arr:=(uH (cn*s)).map (zv.cells[·%zv.cells.size]!)) (t:=e) (us:=(yk ln zv.cells.toList).flatten) hh (u:= .slice (some ⟨w.heap.size,0,none⟩) ln cn) ?_
     (Sb Au ln) ?_ ?_ ?_ (fun h=>?_) ?_
    ·have aIS:cJ*cn<=1099511627776:=by rw [xJ];exact h3
     have sW:((cJ*cn:Nat):Int)<=1099511627776:=by omega
     rw [Int.natCast_mul] at sW;have hlc:(ln:Int)<=(cn:Int):=by omega
     have g1:¬(281474976710656<(cJ:Int)*(cn:Int)):=by omega
     have g2:¬(((ln:Int)<0)):=by omega
     have g3:¬(((cn:Int)<0)):=by omega
     have g4:¬((ln:Int)>(cn:Int)):=by omega
     by_cases h0:cn*s=0
     ·simp [execOp,ho,Instr.makeSlice,run_underlying hu,el,ec,asInt,asIntOf,typeInfo,Aw,ZH,wrapN ln (by omega),wrapN cn h2,g1,g2,g3,g4,nJ hs,h0,newRow,askRoom,roomBytes]
      grind
     ·simp [execOp,ho,Instr.makeSlice,run_underlying hu,el,ec,asInt,asIntOf,typeInfo,Aw,ZH,wrapN ln (by omega),wrapN cn h2,g1,g2,g3,g4,nJ hs,h0,newRow,askRoom,roomBytes,mA]
    ·intro j u hj
     have:((uH (cn*s)).map (zv.cells[·%zv.cells.size]!)).toList[j]? =some u:=by
      grind
     grind
    ·grind
    ·simp_all
    ·exact acz h ln
    ·intro m' hi;simp only [ai];refine ⟨_,cn,hi,by simp,h1,?_⟩
     simp
def atI {o:y8} {k:Nat} {v:AV} {b:Obj} (hH:fR O H) (ht:cm O m S w tm a.tmps) (hh:aW O m S w hp cq)
  (hv:cU tm hp ct (bc O.P H k o)=some (v,b)):Dp O m S w a ct o v b:=by
 cases ho:o.op with
 | call c=>
  obtain ⟨callee,args,ts⟩:=c;simp only [bc,ho] at hv
  repeat' split at hv
  all_goals first
   | (simp [cU,bad] at hv;done)
   | (revert hv;generalize yx _ _=bb;intro hv;cases bb<;>simp [cU,bad] at hv)
 | alloc t=>
  simp only [bc,ho] at hv
  split at hv
  ·rename_i s z hs hz;obtain ⟨zv,mA,rfl⟩:=EQ (w:=w) hz
   exact adu (x:=zv) (t:=t) hh (by simp [execOp,ho,Instr.alloc,mA,newVar,newRow]) (EA zv) (by simpa only [cU,aF] using hv)
  ·simp [cU,bad] at hv
 | box t x=>
  simp only [bc,ho] at hv
  split at hv
  ·rename_i s hs;simp only [cU] at hv
   cases hc:(yx (cellsOf (aF tm (aS H x))).length s&&cu (cellsOf (aF tm (aS H x)))) with
   | false=>rw [hc] at hv;cases hv
   | true=>
    have h1:=hc;simp only [yh] at h1
    exact adu (x:=a.eval x) (t:=t) hh (by simp [execOp,ho,Instr.box,newVar,newRow]) (RM (cB hH ht x) h1.2) hv
  ·simp [cU,bad] at hv
 | buildSlice t n parts=>
  simp only [bc,ho] at hv
  split at hv
  ·rename_i e hu
   split at hv
   ·rename_i s z hs hz
    cases hc:yG (n*s) 16777216 with
    | false=>rw [hc] at hv;simp [cU,bad] at hv
    | true=>
     rw [hc] at hv;simp only [yA] at hv
     split at hv
     ·rename_i ps iD;exact apR hH ht hh ho hu hs hz (yz hc) iD hv
     ·simp [cU,bad] at hv
   ·simp [cU,bad] at hv
  ·simp [cU,bad] at hv
 | makeSlice t l c=>
  simp only [bc,ho] at hv
  split at hv
  ·rename_i e hu
   split at hv
   ·rename_i s cJ z hs hb hz
    exact arA hH ht hh ho hu hs hb hz hv
   ·simp [cU,bad] at hv
  ·simp [cU,bad] at hv
 | makeMap t r=>
  cases r with
  | some x=>simp [bc,ho,cU,bad] at hv
  | none=>
   simp only [bc,ho] at hv
   repeat' split at hv
   all_goals first
    | (simp [cU,bad] at hv;done)
    | (
      simp only [cU,yd,yq] at hv;obtain ⟨rfl,rfl⟩:=hv
      exact arz hh ho rfl)
 | range t x=>
  simp only [bc,ho] at hv
  split at hv
  ·rename_i hu;simp only [cU] at hv;have rx:=cB hH ht x;cases hx:aF tm (aS H x)<;>rw [hx] at hv rx<;>simp only [reduceCtorEq] at hv
   simp only [yd,yq] at hv;obtain ⟨rfl,rfl⟩:=hv;exact apP hh ho hu rx
  ·simp [cU,bad] at hv
 | next x b=>cases b<;>simp [bc,ho,cU,bad] at hv
 | binOp op t x y ty=>
  cases op<;>simp only [bc,ho,qQ,rW] at hv
  case eql=>
        repeat' split at hv
        all_goals first
         | (simp [cU,bad] at hv;done)
         | (cases hb:(O.P.stoodInHeld t||O.P.eqGuardType O.P.depth t)<;>rw [hb] at hv<;>simp [cU,bad] at hv)
  case neq=>
        repeat' split at hv
        all_goals first
         | (simp [cU,bad] at hv;done)
         | (cases hb:(O.P.stoodInHeld t||O.P.eqGuardType O.P.depth t)<;>rw [hb] at hv<;>simp [cU,bad] at hv)
  all_goals simp [cU] at hv
 | _=>
  simp only [bc,ho] at hv
  (repeat' split at hv)
  all_goals first
   | contradiction
   | (simp [cU,bad] at hv;done)
end
end
section
open Go
def rR {hp:Hp} {id i:Nat} {o:Obj}:ay (a6 hp id o) i=if id=i then (if (ay hp id).isSome then some o else none) else ay hp i:=by
 induction hp with
 | nil=>simp [a6,ay]
 | cons x r ih=>
  obtain ⟨j,q⟩:=x;simp only [a6];by_cases hj:j=id
  ·subst hj;simp only [wP,yA,ay];by_cases hi:j=i
   ·simp_all
   ·have:yx j i=false:=by
     cases hq:yx j i with
     | false=>rfl
     | true=>exact absurd (yt hq) hi
    grind
  ·have hb:yx j id=false:=by
    cases hq:yx j id with
    | false=>rfl
    | true=>exact absurd (yt hq) hj
   simp only [hb,yV];rw [show ay ((j,q)::a6 r id o) i=bif yx j i then some q else ay (a6 r id o) i from rfl,ih];by_cases hi:j=i
   ·subst hi
    have:¬id=j:=fun h=>hj h.symm
    simp [wP,this,ay]
   ·have sW:yx j i=false:=by
     cases hq:yx j i with
     | false=>rfl
     | true=>exact absurd (yt hq) hi
    simp [sW,ay,hb]
def jX (hp ak:Hp):Prop:=∀id,(ay ak id).isSome=(ay hp id).isSome
def jX.refl {hp:Hp}:jX hp hp:=fun _=>rfl
def jX.trans {a b c:Hp} (h:jX a b) (k:jX b c):jX a c:=fun id=>(k id).trans (h id)
def SC {hp:Hp} {id:Nat} {o o':Obj} (h:ay hp id=some o) (hl:jD o o'):di hp (a6 hp id o')/\jX hp (a6 hp id o'):=by
 constructor
 ·intro i q hq;rw [rR];by_cases hi:id=i
  ·grind
  ·exact ⟨q,by simp [hi,hq],jD.refl q⟩
 ·intro i;rw [rR]
  grind
def acA {hp H:Hp} {id:Nat} {pu ex:Bool} {sz:Nat} {cs:List AV} (hl:di hp H) (h:ay hp id=some (.cells false pu ex sz cs)):ay H id=some (.cells false pu ex sz cs):=by
 obtain ⟨o',h1,rw',rfl,h2⟩:=hl id _ h
 cases rw' with
 | false=>exact h1
 | true=>exact absurd (h2 rfl) (by simp)
section
variable {O:bA}
def azM (O:bA) (m:Mp) (S:Nat->Prop) (w:yi) (p:Pl) (ex:Bool) (sz:Nat) (cs:List AV):Prop:=
 p.z=sz/\cs.length<=p.e/\(ex=true->cs.length=p.e)/\S p.b/\aK cs=true/\bW O.ah m S w cs p.b p.o
def Uh (O:bA) (ak:Hp) (v v':AV):Prop:=∀H m S w ct,di ak H->aW O m S w H ct->(∀u,ai O.ah m S w v u->ai O.ah m S w v' u)/\a7 v'=true
def ajV (O:bA) (ak:Hp) (vs ej:List AV):Prop:=∀H m S w ct,di ak H->aW O m S w H ct->(∀us,aA O.ah m S w vs us->aA O.ah m S w ej us)/\aK ej=true
def aBj (O:bA) (ak:Hp) (id:Nat) (ex:Bool) (sz:Nat) (cs:List AV):Prop:=∀H m S w ct,di ak H->aW O m S w H ct->∀p,m id=some p->azM O m S w p ex sz cs
def EM {ah:Nat->Nat} {m:Mp} {S:Nat->Prop} {w:yi} {b:Nat}:∀(cs:List AV) (us:List yg) (o:Nat),aA ah m S w cs us->
  (∀(j:Nat) (u:yg),us[j]? =some u->w.cell? ⟨b,o+j,none⟩=some u)->bW ah m S w cs b o
 | [],us,o,_,_=>by simp only [bW]
 | c::cs,us,o,h,hu=>by
  obtain ⟨u,r,rfl,h2,h3⟩:=h;refine ⟨⟨u,by simpa using hu 0 u (by simp),h2⟩,EM cs r (o+1) h3 (fun j v hv=>?_)⟩;rw [show o+1+j=o+(j+1) by omega]
  simp_all
def azN {m:Mp} {S:Nat->Prop} {w:yi} {cs dX:List AV} (h:∀us,aA O.ah m S w cs us->aA O.ah m S w dX us) {b o:Nat} (hr:bW O.ah m S w cs b o):bW O.ah m S w dX b o:=by
 obtain ⟨us,h1,_,h3⟩:=zo cs b o hr;exact EM dX us o (h us h1) h3
def CD:∀(k:Nat) {cs:List AV},aK cs=true->aK (cs.take k)=true
 | 0,_,_=>by simp [aK]
 | k+1,[],_=>by simp [aK]
 | k+1,c::cs,h=>by
  simp only [aK,yh,wg] at h ⊢;exact ⟨h.1,CD k h.2⟩
def arB {ak:Hp} {vs ej:List AV}:∀{n:Nat} {hp:Hp},cO n hp vs=some (ej,ak)->ej.length=vs.length:=by
 intro n
 induction n generalizing vs ej ak with
 | zero=>intro hp h;simp [cO] at h
 | succ n ih=>
  intro hp h
  cases vs with
  | nil=>simp only [cO,yd,yq] at h;rw [<-h.1]
  | cons v r=>
   simp only [cO] at h
   cases h1:freeze n hp v with
   | none=>simp [h1] at h
   | some q=>
    obtain ⟨v',bl⟩:=q;simp only [h1] at h
    cases h2:cO n bl r with
    | none=>simp [h2] at h
    | some q2=>
     grind
def abQ:∀n:Nat,
  (∀hp v v' ak,freeze n hp v=some (v',ak)->di hp ak/\jX hp ak/\Uh O ak v v')/\
  (∀hp id ex sz cs ak,oT n hp id=some (ex,sz,cs,ak)->di hp ak/\jX hp ak/\aBj O ak id ex sz cs)/\
  (∀hp vs ej ak,cO n hp vs=some (ej,ak)->di hp ak/\jX hp ak/\ajV O ak vs ej):=by
 intro n
 induction n with
 | zero=>refine ⟨?_,?_,?_⟩<;>intros<;>simp_all [freeze,oT,cO]
 | succ n ih=>
  obtain ⟨ihV,ihB,GG⟩:=ih;refine ⟨?_,?_,?_⟩
  ·intro hp v v' ak h;have plain:∀{v v':AV} {hp ak:Hp},(bif a7 v then some (v,hp) else none)=some (v',ak)->di hp ak/\jX hp ak/\Uh O ak v v':=by
    intro v v' hp ak h
    cases hc:a7 v with
    | false=>rw [hc] at h;cases h
    | true=>
     rw [hc] at h;simp only [yA,yd,yq] at h;obtain ⟨rfl,rfl⟩:=h;exact ⟨di.refl,jX.refl,fun _ _ _ _ _ _ _=>⟨fun _ h=>h,hc⟩⟩
   cases v<;>simp only [freeze] at h<;>first | exact plain h | skip
   case aw id o k=>
    cases hb:oT n hp id with
    | none=>simp [hb] at h
    | some q=>
     obtain ⟨ex,sz,cs,bl⟩:=q;simp only [hb] at h
     cases hc:yG (o+k*sz) cs.length with
     | false=>rw [hc] at h;cases h
     | true=>
      rw [hc] at h;simp only [yA,yd,yq] at h;obtain ⟨rfl,rfl⟩:=h;have hle:=yz hc;obtain ⟨h1,h2,h3⟩:=ihB _ _ _ _ _ _ hb;refine ⟨h1,h2,fun H m S w ct hl hh=>⟨fun u hu=>?_,by simp only [a7]⟩⟩;simp only [ai] at hu ⊢;obtain ⟨p,c,hm,rfl,Ax,P6⟩:=hu;obtain ⟨g1,g2,g3,g4,g5,g6⟩:=h3 H m S w ct hl hh p hm;refine .inl ⟨p.b,p.o+o,c,rfl,Ax,?_,.inr g4,CD _ (AR _ _ g5),CF _ _ _ _ (rM _ _ _ _ g6)⟩;intro hx;simp only [yh] at hx;have e1:=yt hx.2;have e2:0<sz:=by
       simp_all
      have e3:=g3 hx.1.1;rw [g1] at P6
      have:c*sz=k*sz:=by omega
      exact tG e2 this
   case ptr id o=>
    cases hb:oT n hp id with
    | none=>simp [hb] at h
    | some q=>
     obtain ⟨ex,sz,cs,bl⟩:=q;simp only [hb,yd,yq] at h;obtain ⟨rfl,rfl⟩:=h;obtain ⟨h1,h2,h3⟩:=ihB _ _ _ _ _ _ hb;refine ⟨h1,h2,fun H m S w ct hl hh=>⟨fun u hu=>?_,by simp only [a7]⟩⟩;simp only [ai] at hu ⊢;obtain ⟨p,hm,rfl⟩:=hu;obtain ⟨g1,g2,g3,g4,g5,g6⟩:=h3 H m S w ct hl hh p hm;exact ⟨p.b,p.o+o,rfl,.inr g4,AR _ _ g5,rM _ _ _ _ g6⟩
   case map id=>
    cases hg:ay hp id with
    | none=>simp [hg] at h
    | some ob=>
     cases ob<;>simp only [hg,reduceCtorEq] at h
     rename_i rw ks vs
     cases hc:(aK ks&&aK vs) with
     | false=>rw [hc] at h;cases h
     | true=>
      rw [hc] at h;simp only [yA,yd,yq] at h;obtain ⟨rfl,rfl⟩:=h;simp only [yh] at hc;obtain ⟨h1,h2⟩:=SC hg (o':= .mp false ks vs) ⟨false,rfl,by simp⟩;refine ⟨h1,h2,fun H m S w ct hl hh=>⟨fun u hu=>?_,by simp only [a7]⟩⟩;simp only [ai] at hu ⊢;obtain ⟨p,hm,rfl⟩:=hu;have hq:ay (a6 hp id (.mp false ks vs)) id=some (.mp false ks vs):=by rw [rR];simp [hg]
      obtain ⟨o',h3,rw',rfl,h4⟩:=hl id _ hq;have rz:rw'=false:=by cases rw' with | false=>rfl | true=>exact absurd (h4 rfl) (by simp)
      subst rz;obtain ⟨p',es,clock,g1,g2,g3,g4,g5,g6⟩:=hh.obj id _ _ h3 hm;rw [hm] at g1;injection g1 with g1
      subst g1;exact ⟨p.b,es,clock,rfl,g6 rfl,hc.1,hc.2,g2,g3,g4⟩
   case fn f first cap=>
    cases f with
    | y l=>simp only [a7,yV,reduceCtorEq] at h
    | f g=>
     simp only at h
     cases h1:cO n hp first with
     | none=>simp [h1] at h
     | some q=>
      obtain ⟨ahP,bl⟩:=q;simp only [h1] at h
      cases h2:cO n bl cap with
      | none=>simp [h2] at h
      | some q2=>
       obtain ⟨Oc,gU⟩:=q2;simp only [h2,yd,yq] at h;obtain ⟨rfl,rfl⟩:=h;obtain ⟨a1,a2,a3⟩:=GG _ _ _ _ h1;obtain ⟨b1,b2,b3⟩:=GG _ _ _ _ h2;refine ⟨a1.trans b1,a2.trans b2,fun H m S w ct hl hh=>?_⟩;obtain ⟨c1,c2⟩:=a3 H m S w ct (b1.trans hl) hh;obtain ⟨d1,d2⟩:=b3 H m S w ct hl hh;refine ⟨fun u hu=>?_,by simp [a7,c2,d2]⟩;simp only [ai] at hu ⊢;obtain ⟨fi,ca,rfl,e1,e2⟩:=hu;exact ⟨fi,ca,rfl,c1 _ e1,d1 _ e2⟩
   case agg cs=>
    cases h1:cO n hp cs with
    | none=>simp [h1] at h
    | some q=>
     obtain ⟨dX,bl⟩:=q;simp only [h1,yd,yq] at h;obtain ⟨rfl,rfl⟩:=h;obtain ⟨a1,a2,a3⟩:=GG _ _ _ _ h1;refine ⟨a1,a2,fun H m S w ct hl hh=>?_⟩;obtain ⟨c1,c2⟩:=a3 H m S w ct hl hh;refine ⟨fun u hu=>?_,by simpa [a7] using c2⟩;simp only [ai] at hu ⊢;obtain ⟨xs,rfl,e1⟩:=hu;exact ⟨xs,rfl,c1 _ e1⟩
   case ae cs=>
    cases h1:cO n hp cs with
    | none=>simp [h1] at h
    | some q=>
     obtain ⟨dX,bl⟩:=q;simp only [h1,yd,yq] at h;obtain ⟨rfl,rfl⟩:=h;obtain ⟨a1,a2,a3⟩:=GG _ _ _ _ h1;refine ⟨a1,a2,fun H m S w ct hl hh=>?_⟩;obtain ⟨c1,c2⟩:=a3 H m S w ct hl hh;refine ⟨fun u hu=>?_,by simpa [a7] using c2⟩;simp only [ai] at hu ⊢;obtain ⟨xs,rfl,e1⟩:=hu;exact ⟨xs,rfl,c1 _ e1⟩
  ·intro hp id ex sz dX ak h;simp only [oT] at h
   cases hg:ay hp id with
   | none=>simp [hg] at h
   | some ob=>
    cases ob<;>simp only [hg,reduceCtorEq] at h
    rename_i rw pu sS B5 cs
    cases pu with
    | true=>
     simp only [yA,yd,yq] at h;obtain ⟨rfl,rfl,rfl,rfl⟩:=h;have hq:di hp (bif rw then a6 hp id (.cells false true sS B5 cs) else hp)/\jX hp (bif rw then a6 hp id (.cells false true sS B5 cs) else hp)/\ay (bif rw then a6 hp id (.cells false true sS B5 cs) else hp) id=some (.cells false true sS B5 cs):=by
      cases rw with
      | true=>
       obtain ⟨h1,h2⟩:=SC hg (o':= .cells false true sS B5 cs) ⟨false,rfl,by simp⟩;exact ⟨h1,h2,by simp [rR,hg]⟩
      | false=>exact ⟨di.refl,jX.refl,hg⟩
     refine ⟨hq.1,hq.2.1,fun H m S w ct hl hh p hm=>?_⟩;obtain ⟨p',arr,t,g1,g2,g3,g4,g5,g6,g7,g8,g9,g10⟩:=hh.obj id _ _ (acA hl hq.2.2) hm;rw [hm] at g1;injection g1 with g1
     subst g1;exact ⟨g3,g4,g6,g10 rfl,g8 rfl,g7⟩
    | false=>
     simp only [yV] at h
     cases h1:cO n hp cs with
     | none=>simp [h1] at h
     | some q=>
      obtain ⟨sX,bl⟩:=q;simp only [h1,yd,yq] at h;obtain ⟨rfl,rfl,rfl,rfl⟩:=h;obtain ⟨a1,a2,a3⟩:=GG _ _ _ _ h1;obtain ⟨o1,iF,rw1,rfl,_⟩:=a1 id _ hg;obtain ⟨b1,b2⟩:=SC iF (o':= .cells false false sS B5 cs) ⟨false,rfl,by simp⟩;refine ⟨a1.trans b1,a2.trans b2,fun H m S w ct hl hh p hm=>?_⟩;have hq:ay (a6 bl id (.cells false false sS B5 cs)) id=some (.cells false false sS B5 cs):=by simp [rR,iF]
      obtain ⟨p',arr,t,g1,g2,g3,g4,g5,g6,g7,g8,g9,g10⟩:=hh.obj id _ _ (acA hl hq) hm;rw [hm] at g1;injection g1 with g1
      subst g1;obtain ⟨c1,c2⟩:=a3 H m S w ct (b1.trans hl) hh;have hlen:=arB h1
      exact ⟨g3,by omega,fun hx=>by have:=g6 hx;omega,g10 rfl,c2,azN c1 g7⟩
  ·intro hp vs ej ak h
   cases vs with
   | nil=>
    simp only [cO,yd,yq] at h;obtain ⟨rfl,rfl⟩:=h;exact ⟨di.refl,jX.refl,fun _ _ _ _ _ _ _=>⟨fun _ h=>h,rfl⟩⟩
   | cons v r=>
    simp only [cO] at h
    cases h1:freeze n hp v with
    | none=>simp [h1] at h
    | some q=>
     obtain ⟨v1,bl⟩:=q;simp only [h1] at h
     cases h2:cO n bl r with
     | none=>simp [h2] at h
     | some q2=>
      obtain ⟨r1,gU⟩:=q2;simp only [h2,yd,yq] at h;obtain ⟨rfl,rfl⟩:=h;obtain ⟨a1,a2,a3⟩:=ihV _ _ _ _ h1;obtain ⟨b1,b2,b3⟩:=GG _ _ _ _ h2;refine ⟨a1.trans b1,a2.trans b2,fun H m S w ct hl hh=>?_⟩;obtain ⟨c1,c2⟩:=a3 H m S w ct (b1.trans hl) hh;obtain ⟨d1,d2⟩:=b3 H m S w ct hl hh;refine ⟨fun us hu=>?_,by simp [aK,c2,d2]⟩;simp only [aA] at hu ⊢;obtain ⟨u,t,rfl,e1,e2⟩:=hu;exact ⟨u,t,rfl,c1 _ e1,d1 _ e2⟩
def Ry {n:Nat} {hp ak:Hp} {vs ej:List AV} (h:cO n hp vs=some (ej,ak)):di hp ak/\jX hp ak/\ajV O ak vs ej:=(abQ n).2.2 _ _ _ _ h
def RP {n:Nat} {hp ak:Hp} {v v':AV} (h:freeze n hp v=some (v',ak)):di hp ak/\jX hp ak/\Uh O ak v v':=(abQ n).1 _ _ _ _ h
end
end
section
open Go
section
variable {O:bA} {H:Hint} {m:Mp} {S:Nat->Prop} {w:yi} {tm:Env} {a:Act} {hp:Hp} {ct:Nat}
structure One (w w':yi) (g:Nat):Prop where
 os:w'.os=w.os
 tape:w'.tape=w.tape
 output:w'.output=w.output
 size:w'.heap.size=w.heap.size
 other:∀b,b≠g->w'.heap[b]? =w.heap[b]?
def Rz (w:yi) (g:Nat) (cs:Array yg):One w (w.setRow g cs) g:=
 ⟨rfl,rfl,rfl,by simp,fun b hb=>setRow_other w g b cs hb⟩
def I3 {id:Nat} {o:Obj} {p:Pl} (h:ay hp id=some o) (hm:m id=some p):ek m hp p.b:=⟨id,o,p,h,hm,rfl⟩
def arC {id:Nat} {o':Obj} {b:Nat} (h:ek m (a6 hp id o') b):ek m hp b:=by
 obtain ⟨i,o,p,h1,h2,h3⟩:=h;rw [rR] at h1;by_cases hi:id=i
 ·subst hi
  cases hq:ay hp id with
  | none=>simp [hq] at h1
  | some q=>exact ⟨id,q,p,hq,h2,h3⟩
 ·simp only [hi,xi] at h1;exact ⟨i,o,p,h1,h2,h3⟩
def IB (hh:aW O m S w hp ct) {id:Nat} {o o':Obj} {p:Pl} {w':yi} (ho:ay hp id=some o) (hm:m id=some p) (hn:¬S p.b) (hw:One w w' p.b) (h':fM O m S w' id o') (hk:∀r:uP,w.heap[p.b]? =some (.loop r)->∃r':uP,w'.heap[p.b]? =some (.loop r')):
  aW O m S w' (a6 hp id o') ct/\cp m S w hp m S w' (a6 hp id o') ct:=by
 have aO:fX S w w':=fun b hb=>hw.other b (fun e=>hn (e▸hb))
 refine ⟨⟨?_,hh.lt,?_,?_,?_,hh.low,?_,?_,fun i q hq=>(by
  rw [rR] at hq;by_cases hc:id=i
  ·subst hc;exact hh.aZ _ _ ho
  ·simp only [hc,xi] at hq;exact hh.aZ _ _ hq)⟩,⟨hw.os,hw.tape,hw.output,by rw [hw.size];exact yv _,?_,fun _ h=>h,fun b hb=>aO b hb,fun b hb=> .inl hb,fun b hb=> .inl (arC hb),fun _ _ _ h=>h,fun b r hb=>?_⟩⟩
 rotate_right
 ·by_cases hc:b=p.b
  ·subst hc;exact hk r hb
  ·exact ⟨r,(hw.other b hc).trans hb⟩
 ·intro i q pi hi bS;rw [rR] at hi;by_cases hc:id=i
  ·subst hc;simp only [xD,ho,Option.isSome_some] at hi;injection hi with hi
   subst hi;exact h'
  ·simp only [hc,xi] at hi;refine rQ (fun _ _ h=>h) (fun _ h=>h) aO (fun q' bI=>?_) (fun _ _ h=>h) (hh.obj i q pi hi bS);exact hw.other _ (fun e=>hc (hh.inj i id q o q' p hi ho bI hm e).symm)
 ·intro i j oi oj pi pj hi hj bS gH e;have key:∀{i:Nat} {oi:Obj},ay (a6 hp id o') i=some oi->∃K9,ay hp i=some K9:=by
   intro i oi hi;rw [rR] at hi;by_cases hc:id=i
   ·subst hc;exact ⟨o,ho⟩
   ·simp only [hc,xi] at hi;exact ⟨oi,hi⟩
  obtain ⟨K9,dS⟩:=key hi;obtain ⟨K8,ZG⟩:=key hj;exact hh.inj i j K9 K8 pi pj dS ZG bS gH e
 ·intro b hb;rw [hw.size];exact hh.slt b hb
 ·intro i q hq;rw [hw.size];exact hh.blt i q hq
 ·intro b hb
  rw [hw.other b (fun e=>by have:=hh.low id p hm;omega)];exact hh.lG b hb
 ·rw [hw.size];exact hh.fY
 ·intro b _ hb;exact hw.other b (fun e=>hb (e▸I3 ho hm))
def zQ (O:bA) (m:Mp) (S:Nat->Prop) (w:yi) (a:Act) (hp:Hp) (ct:Nat) (o:y8) (v:AV) (ak:Hp) (aP:Nat):Prop:=
 ∃n u w' m' S',(execOp a.eval o).run O.P w= .ok n w'/\(n= .value u\/(n= .skip/\u=undef))/\aW O m' S' w' ak aP/\ai O.ah m' S' w' v u/\dG m m'/\cp m S w hp m' S' w' ak ct
def arD {ah:Nat->Nat} {v:AV} {u:yg} (h:ai ah m S w v u) (ho:dt v=true):u.oneCell'=true:=by
 cases v with
 | fn f a b=>
  cases f with
  | f g=>simp only [ai] at h;obtain ⟨_,_,rfl,_⟩:=h;rfl
  | y l=>simp only [ai] at h;obtain ⟨_,_,rfl⟩:=h;rfl
 | int k n=>simp only [ai] at h;subst h;rfl
 | bool b=>simp only [ai] at h;subst h;rfl
 | bU k n=>simp only [ai] at h;subst h;rfl
 | str s=>simp only [ai] at h;obtain ⟨_,rfl,_⟩:=h;rfl
 | kR=>simp only [ai] at h;subst h;rfl
 | ptr i k=>simp only [ai] at h;obtain ⟨_,_,rfl⟩:=h;rfl
 | cg cs=>simp only [ai] at h;obtain ⟨_,_,rfl,_⟩:=h;rfl
 | aa=>simp only [ai] at h;subst h;rfl
 | aB e n cs=>simp only [ai] at h;rcases h with ⟨_,_,_,rfl,_⟩ | ⟨_,rfl,_,_⟩<;>rfl
 | bw _ _ _ _=>simp [dt] at ho
 | aw i k n=>simp only [ai] at h;obtain ⟨_,_,_,rfl,_⟩:=h;rfl
 | iZ=>simp only [ai] at h;subst h;rfl
 | kh=>simp only [ai] at h;subst h;rfl
 | map i=>simp only [ai] at h;obtain ⟨_,_,rfl⟩:=h;rfl
 | jw ks vs=>simp only [ai] at h;obtain ⟨_,_,_,rfl,_⟩:=h;rfl
 | it i=>simp only [ai] at h;obtain ⟨_,_,rfl⟩:=h;rfl
 | agg cs=>simp [dt] at ho
 | ae cs=>simp [dt] at ho
 | undef=>simp [dt] at ho
def MB {ah:Nat->Nat}:∀{vs:List AV} {us:List yg},aA ah m S w vs us->cu vs=true->∀u∈us,u.oneCell'=true
 | [],us,h,_,u,hu=>by simp only [aA] at h;subst h;cases hu
 | v::r,us,h,ho,u,hu=>by
  obtain ⟨u',t,rfl,h1,h2⟩:=h;simp only [cu,yh] at ho;rcases List.mem_cons.1 hu with rfl | hu
  ·exact arD h1 ho.1
  ·exact MB h2 ho.2 u hu
def adw {arr:Array yg} {t:yB} {p:Pl} {cs new:List AV} {vs:List yg} {o:Nat} {S':Nat->Prop} {m':Mp} (hb:w.heap[p.b]? =some (.cells arr t (0,0))) (hr:bW O.ah m S w cs p.b p.o)
  (hv:aA O.ah m S w new vs) (hl:o+new.length<=cs.length) (hs:p.o+cs.length<=arr.size) {w':yi} (hm:dG m m') (hS:∀b,S b->S' b) (aO:fX S w w')
  (hw:w'.heap[p.b]? =some (.cells (arr.toList.take (p.o+o)++vs++arr.toList.drop (p.o+o+vs.length)).toArray t (0,0))):bW O.ah m' S' w' (over o new cs) p.b p.o:=by
 obtain ⟨us,h1,h2,h3⟩:=zo cs p.b p.o hr;have hvl:=iU _ _ hv;have h4:aA O.ah m S w (over o new cs) (us.take o++vs++us.drop (o+new.length)):=lX (lX (EI o h1) hv) (Ir _ h1);refine EM _ _ _ (iw hm hS aO _ _ h4) (fun j u hj=>?_);have zR:∀k u,us[k]? =some u->arr[p.o+k]? =some u:=by
  intro k u hk
  have:=h3 k u hk
  simpa [World.cell?,hb] using this
 simp only [World.cell?,hw,yae,yL,xi];rw [yaa];have e1:(arr.toList.take (p.o+o)).length=p.o+o:=by rw [yy,vn];omega
 have e2:(us.take o).length=o:=by rw [yy];omega
 by_cases c1:j<o
 ·have g1:(us.take o++vs++us.drop (o+new.length))[j]? =us[j]? :=by
   rw [xA,xX (by omega),uk c1]
  rw [g1] at hj;rw [xA,xX (by omega),uk (by omega)];simpa using zR j u hj
 ·by_cases c2:j<o+vs.length
  ·have g1:(us.take o++vs++us.drop (o+new.length))[j]? =vs[j-o]? :=by
    rw [xA,xL (by omega),e2,xX (by omega)]
   rw [g1] at hj;rw [xA,xL (by omega),e1,xX (by omega),show p.o+j-(p.o+o)=j-o by omega];exact hj
  ·have g1:(us.take o++vs++us.drop (o+new.length))[j]? =us[j]? :=by
    rw [xA,xL (by omega),e2,xL (by omega),yat]
    congr 1
    omega
   rw [g1] at hj;rw [xA,xL (by omega),e1,xL (by omega),yat,show p.o+o+vs.length+(p.o+j-(p.o+o)-vs.length)=p.o+j by omega];simpa using zR j u hj
def MS {o:Nat} {new cs:List AV} (hl:o+new.length<=cs.length):(over o new cs).length=cs.length:=by
 simp only [over,yN,yy,xN];omega
def abR {o:Nat} {new cs:List AV} (h:aK cs=true) (h':aK new=true):aK (over o new cs)=true:=
 EB (EB (CD _ h) h') (AR _ _ h)
def atJ {o:y8} {t:yB} {x y:xz} {sz:Nat} {v:AV} {ak:Hp} {aP:Nat} (hH:fR O H) (ht:cm O m S w tm a.tmps) (hh:aW O m S w hp ct)
  (ho:o.op= .store t x y) (hz:cR O.P t=some sz) (hv:cP tm hp ct (.st sz (aS H x) (aS H y))=some (v,ak,aP)):zQ O m S w a hp ct o v ak aP:=by
 simp only [cP] at hv;have rx:=cB hH ht x;cases hx:aF tm (aS H x)<;>rw [hx] at hv rx<;>simp only [reduceCtorEq] at hv
 rename_i id k;simp only [ai] at rx;obtain ⟨p,hm,ex⟩:=rx
 split at hv
 case h_2=>cases hv
 rename_i pu P8 z cs hg
 cases hc:(yx (cellsOf (aF tm (aS H y))).length sz&&yG (k+sz) cs.length&&cu (cellsOf (aF tm (aS H y)))) with
 | false=>rw [hc] at hv;cases hv
 | true=>
  rw [hc] at hv;simp only [yA,yd,yq] at hv;obtain ⟨rfl,rfl,rfl⟩:=hv;simp only [yh] at hc;have c1:=yt hc.1.1;have c2:=yz hc.1.2;have ry:=RM (cB hH ht y) hc.2;have hl:=iU _ _ ry;obtain ⟨p',arr,t',g1,g2,g3,g4,g5,g6,g7,g8,g9,g10⟩:=hh.obj id _ _ hg hm;rw [hm] at g1;injection g1 with g1
  subst g1;have gB:=MB ry hc.2;have gQ:=run_storeCells_at O.P p.b (p.o+k) t' (a.eval y).cells.toList 0 arr w g2 (by rw [hl];omega) gB;simp only [y5] at gQ;have azO:(a.eval y).cells.size=sz:=by simp_all
  have oB:fM O m S (w.setRow p.b (arr.toList.take (p.o+k)++(a.eval y).cells.toList++arr.toList.drop (p.o+k+(a.eval y).cells.toList.length)).toArray) id
    (.cells true (pu&&aK (cellsOf (aF tm (aS H y)))) P8 z (over k (cellsOf (aF tm (aS H y))) cs)):=by
   refine ⟨p,_,t',hm,setRow_heap w p.b arr _ t' _ g2,g3,by rw [MS (by omega)];exact g4,?_,fun h=>by rw [MS (by omega)];exact g6 h,?_,?_,fun _=>g9 rfl,by simp⟩
   ·grind
   ·exact adw g2 g7 ry (by omega) (by omega) dG.refl (fun _ h=>h) (fun b hb=>setRow_other w p.b b _ (fun e=>g9 rfl (e▸hb))) (setRow_heap w p.b arr _ t' _ g2)
   ·intro h;simp only [yh] at h;exact abR (g8 h.1) h.2
  obtain ⟨e1,e2⟩:=IB hh hg hm (g9 rfl) (Rz w p.b _) oB (fun r hr=>by rw [g2] at hr;cases hr);refine ⟨.skip,undef,_,m,S,?_,.inr ⟨rfl,rfl⟩,e1,by simp [ai,aA,undef],dG.refl,e2⟩;simp only [execOp,ho,Instr.storeAt,ex,Instr.sureAddr,Sem.run_bind,Sem.run_pure,Result.andThen_ok,storeVar,nJ hz,azO,ub,ybU,xi];simp [gQ]
def abS {d:vC} {k k':yg} (h:Instr.sameNow d k k'=some true):k=k':=by
 unfold Instr.sameNow at h
 split at h
 ·grind
 ·rename_i p q;simp only [yd] at h;have h2:(p.data==q.data)=true:=by cases p;exact h
  cases p;cases q
  grind
 ·grind
 ·cases h
def sameBits_self {d:vC} {k k':yg} (h:Instr.sameNow d k k'=some true) (n:Nat):Instr.sameBits n k' k=true:=by
 have e:=abS h;subst e;unfold Instr.sameNow at h
 split at h
 ·simp [Instr.sameBits]
 ·simp only [yd] at h;simp [Instr.sameBits,h]
 ·simp [Instr.sameBits]
 ·cases h
def Put (ah:Nat->Nat) (m:Mp) (S:Nat->Prop) (w:yi) (d:vC) (k x:yg) (es:List uQ) (i:Nat) (km ej:List AV):Prop:=
 (Instr.findNow d k es i=some none/\aA ah m S w km (es.map (·.key)++[k])/\aA ah m S w ej (es.map (·.val)++[x]))\/
 ∃(j:Nat) (e0:uQ),Instr.findNow d k es i=some (some (i+j,e0.val))/\es[j]? =some e0/\Instr.sameNow d k e0.key=some true/\aA ah m S w km (es.map (·.key))/\aA ah m S w ej ((es.map (·.val)).set j x)
def aeD {ah:Nat->Nat} {vk vx:AV} {k x:yg} {d:vC} (hk:ai ah m S w vk k) (hx:ai ah m S w vx x) (hd:fits d vk=true):∀(ks vs:List AV) (es:List uQ) (i:Nat) (km ej:List AV),
  aA ah m S w ks (es.map (·.key))->aA ah m S w vs (es.map (·.val))->By vk vx ks vs=some (km,ej)->Put ah m S w d k x es i km ej
 | [],[],es,i,km,ej,h1,h2,h=>by
  simp only [aA,List.map_eq_nil_iff] at h1;subst h1;obtain ⟨rfl,rfl⟩:=h;exact .inl ⟨rfl,by simp [aA,hk],by simp [aA,hx]⟩
 | [],_::_,es,i,km,ej,h1,h2,h=>by simp [By] at h
 | _::_,[],es,i,km,ej,h1,h2,h=>by simp [By] at h
 | c::ks,v::vs,es,i,km,ej,h1,h2,h=>by
  cases es with
  | nil=>simp [aA] at h1
  | cons e es=>
   obtain ⟨u,t,⟨rfl,rfl⟩,hc,P7⟩:=h1;obtain ⟨u',t',⟨rfl,rfl⟩,hv,At⟩:=h2;simp only [By] at h
   cases eZ:Fy vk c with
   | none=>simp [eZ] at h
   | some b=>
    have hs:=ads (d:=d) hk hc eZ hd
    cases b with
    | true=>
     simp only [eZ,yd,yq] at h;obtain ⟨rfl,rfl⟩:=h;refine .inr ⟨0,e,by simp [Instr.findNow,hs],rfl,hs,?_,?_⟩
     ·simp only [xc,aA];exact ⟨_,_,rfl,hc,P7⟩
     ·simp only [xc,List.set_cons_zero,aA];exact ⟨_,_,rfl,hx,At⟩
    | false=>
     simp only [eZ] at h
     cases hm:By vk vx ks vs with
     | none=>simp [hm] at h
     | some q=>
      obtain ⟨k1,v1⟩:=q;simp only [hm,yd,yq] at h;obtain ⟨rfl,rfl⟩:=h;rcases aeD hk hx hd ks vs es (i+1) k1 v1 P7 At hm with ⟨g1,g2,g3⟩ | ⟨j,e0,g1,g2,g3,g4,g5⟩
      ·refine .inl ⟨by simp [Instr.findNow,hs,g1],?_,?_⟩
       ·simp only [xc,xk,aA];exact ⟨_,_,rfl,hc,g2⟩
       ·simp only [xc,xk,aA];exact ⟨_,_,rfl,hv,g3⟩
      ·refine .inr ⟨j+1,e0,?_,by simpa using g2,g3,?_,?_⟩
       ·simp only [Instr.findNow,hs,g1]
        grind
       ·simp only [xc,aA];exact ⟨_,_,rfl,hc,g4⟩
       ·simp only [xc,List.set_cons_succ,aA];exact ⟨_,_,rfl,hv,g5⟩
def EE (w:yi) (g:Nat) (o:tp):One w {w with heap:=w.heap.setIfInBounds g o} g:=
 ⟨rfl,rfl,rfl,by simp,fun b hb=>by simp [Array.getElem?_setIfInBounds_ne (fun e=>hb e.symm)]⟩
def Ml {g:Nat} {o q:tp} (h:w.heap[g]? =some q):({w with heap:=w.heap.setIfInBounds g o}:yi).heap[g]? =some o:=by grind
def adx {o:y8} {t kt e:yB} {x k y:xz} {kk:Nat} {v:AV} {ak:Hp} {aP:Nat} (hH:fR O H) (ht:cm O m S w tm a.tmps) (hh:aW O m S w hp ct)
  (ho:o.op= .mapUpdate t x k y\/o.op= .insert t x k y) (hu:O.P.underlying t=some (.map kt e)) (ru:VE.keyOf O.P kt=some kk) (hv:cP tm hp ct (.pT kk (aS H x) (aS H k) (aS H y))=some (v,ak,aP)):zQ O m S w a hp ct o v ak aP:=by
 simp only [cP] at hv;have rx:=cB hH ht x;cases hx:aF tm (aS H x)<;>rw [hx] at hv rx<;>simp only [reduceCtorEq] at hv
 rename_i id;simp only [ai] at rx;obtain ⟨p,hm,ex⟩:=rx
 split at hv
 case h_2=>cases hv
 rename_i ks vs hg
 cases hc:zB kk (aF tm (aS H k)) with
 | false=>simp [hc] at hv
 | true=>
  simp only [hc,Bool.not_true,yV] at hv
  cases bl:By (aF tm (aS H k)) (aF tm (aS H y)) ks vs with
  | none=>simp [bl] at hv
  | some q=>
   obtain ⟨km,ej⟩:=q;simp only [bl,yd,yq] at hv;obtain ⟨rfl,rfl,rfl⟩:=hv;obtain ⟨d,jd,il,ZD⟩:=abO ru hc;obtain ⟨p',es,clock,g1,g2,g3,g4,g5,g6⟩:=hh.obj id _ _ hg hm;rw [hm] at g1;injection g1 with g1
   subst g1;have aBk:=aeD (d:=d) (cB hH ht k) (cB hH ht y) ZD ks vs es.toList 0 km ej g3 g4 bl
   have fin:∀(DX:Array uQ) (c':Nat),(Instr.mapUpdate t (a.eval x) (a.eval k) (a.eval y)).run O.P w= .ok () {w with heap:=w.heap.setIfInBounds p.b (.map DX c')}->
     aA O.ah m S w km (DX.toList.map (·.key))->aA O.ah m S w ej (DX.toList.map (·.val))->zQ O m S w a hp ct o (.ae []) (a6 hp id (.mp true km ej)) ct:=by
    intro DX c' gQ h1 h2
    have aO:fX S w {w with heap:=w.heap.setIfInBounds p.b (.map DX c')}:=fun b hb=>(EE w p.b _).other b (fun e=>g5 rfl (e▸hb))
    have oB:fM O m S {w with heap:=w.heap.setIfInBounds p.b (.map DX c')} id (.mp true km ej):=
     ⟨p,DX,c',hm,Ml g2,iw (fun _ _ h=>h) (fun _ h=>h) aO _ _ h1,iw (fun _ _ h=>h) (fun _ h=>h) aO _ _ h2,fun _=>g5 rfl,by simp⟩
    obtain ⟨e1,e2⟩:=IB hh hg hm (g5 rfl) (EE w p.b _) oB (fun r hr=>by rw [g2] at hr;cases hr);refine ⟨.skip,undef,_,m,S,?_,.inr ⟨rfl,rfl⟩,e1,by simp [ai,aA,undef],dG.refl,e2⟩;rcases ho with ho | ho<;>simp [execOp,ho,gQ]
   have pX:=Mb (P:=O.P) (w:=w) jd il false (a.eval k);rcases aBk with ⟨h1,h2,h3⟩ | ⟨j,e0,h1,h2,h3,h4,h5⟩
   ·refine fin (es.push ⟨a.eval k,a.eval y,clock⟩) (clock+1) ?_ (by simpa using h2) (by simpa using h3);rw [ex];simp [Instr.mapUpdate,run_underlying hu,MapKept.run_getObj_map g2,pX,Instr.findKey,run_underlying jd,h1,MapKept.run_setObj_map _ g2]
   ·have hj:es[j]? =some e0:=by simp_all
    simp only [ye] at h1;have ajW:=abS h3
    refine fin (es.modify j fun e=>{e with key:=a.eval k,val:=a.eval y}) clock ?_ ?_ ?_
    ·rw [ex];have hsb:Instr.sameBits 10000 (a.eval k) (a.eval k)=true:=by have:=sameBits_self h3 10000;rwa [<-ajW] at this
     simp [Instr.mapUpdate,run_underlying hu,MapKept.run_getObj_map g2,pX,Instr.findKey,run_underlying jd,h1,MapKept.run_setObj_map _ g2,hj,Instr.keyThatStays,hsb,ajW.symm]
    ·have:(es.modify j fun e=>{e with key:=a.eval k,val:=a.eval y}).toList.map (·.key)=es.toList.map (·.key):=by
      apply yaz
      grind
     grind
    ·have:(es.modify j fun e=>{e with key:=a.eval k,val:=a.eval y}).toList.map (·.val)=(es.toList.map (·.val)).set j (a.eval y):=by
      apply yaz
      grind
     grind
def atK (t:ByteArray) (i:Nat):(t.get! i).toNat=(t.data.toList.map xb).getD i 0:=by
 have:t.get! i=t.data[i]! :=by cases t;rfl
 rw [this];by_cases h:i<t.data.size
 ·grind
 ·simp only [Array.getElem!_eq_getD,Array.getD_eq_getD_getElem?,List.getD_eq_getElem?_getD,List.getElem?_map,Array.getElem?_toList];rw [Array.getElem?_eq_none (by omega)];rfl
def apS (t:ByteArray) (i:Nat):decodeL (t.data.toList.map xb) i=Utf8.decode t i:=by
 have eV:(t.data.toList.map xb).length=t.size:=by simp
 simp only [decodeL,Utf8.decode,atK,eV]
def arE {o:y8} {x:xz} {v:AV} {ak:Hp} {aP:Nat} (hH:fR O H) (ht:cm O m S w tm a.tmps) (hh:aW O m S w hp ct)
  (ho:o.op= .next x true) (hv:cP tm hp ct (.pV (aS H x))=some (v,ak,aP)):zQ O m S w a hp ct o v ak aP:=by
 simp only [cP] at hv;have rx:=cB hH ht x;cases hx:aF tm (aS H x)<;>rw [hx] at hv rx<;>simp only [reduceCtorEq] at hv
 rename_i id;simp only [ai] at rx;obtain ⟨p,hm,ex⟩:=rx
 split at hv
 case h_2=>cases hv
 rename_i s pos hg;obtain ⟨p',t,g1,g2,g3,g4⟩:=hh.obj id _ _ hg hm;rw [hm] at g1;injection g1 with g1
 subst g1;have ay:(getObj p.b).run O.P w= .ok (.stringIter t pos) w:=by simp [getObj,Sem.run,g2]
 have hlen:s.length=t.size:=by rw [<-g3];simp
 cases hc:yR pos s.length with
 | false=>
  rw [hc] at hv;simp only [yV,yd,yq] at hv;obtain ⟨rfl,rfl,rfl⟩:=hv;have aZ:¬pos<t.size:=by
   intro h
   have:yR pos s.length=true:=by simp [yR];omega
   grind
  refine ⟨.value (.tuple #[.bool false]),.tuple #[.bool false],w,m,S,?_,.inl rfl,hh,by simp [ai,aA],dG.refl,cp.refl⟩;simp [execOp,ho,ex,Instr.next,ay,aZ]
 | true=>
  rw [hc] at hv;simp only [yA] at hv;have aZ:pos<t.size:=by
   simp_all
  cases hdc:decodeL s pos with | mk c wd=>
  rw [hdc] at hv;simp only [yd,yq] at hv;obtain ⟨rfl,rfl,rfl⟩:=hv;have hd:Utf8.decode t pos=(c,wd):=by rw [<-apS,g3,hdc]
  have oB:fM O m S {w with heap:=w.heap.setIfInBounds p.b (.stringIter t (pos+wd))} id (.si s (pos+wd)):=⟨p,t,hm,Ml g2,g3,g4⟩;obtain ⟨e1,e2⟩:=IB hh hg hm g4 (EE w p.b _) oB (fun r hr=>by rw [g2] at hr;cases hr);refine ⟨.value (.tuple #[.bool true,goInt pos,.int .i32 c]),_,_,m,S,?_,.inl rfl,e1,by simp [ai,aA,goInt],dG.refl,e2⟩
  have a6:(setObj p.b (.stringIter t (pos+wd))).run O.P w= .ok () {w with heap:=w.heap.setIfInBounds p.b (.stringIter t (pos+wd))}:=by simp [setObj,Sem.run,g2]
  simp [execOp,ho,ex,Instr.next,ay,aZ,hd,a6]
end
end
section
open Go
def Is {hp:Hp} {id i:Nat}:ay (dK hp id) i=if id=i then none else ay hp i:=by
 induction hp with
 | nil=>simp [dK,ay]
 | cons x r ih=>
  obtain ⟨j,q⟩:=x;simp only [dK];by_cases hj:j=id
  ·subst hj;simp only [wP,yA,ih,ay];by_cases hi:j=i
   ·grind
   ·have:yx j i=false:=by
     cases hq:yx j i with
     | false=>rfl
     | true=>exact absurd (yt hq) hi
    grind
  ·have hb:yx j id=false:=by
    cases hq:yx j id with
    | false=>rfl
    | true=>exact absurd (yt hq) hj
   simp only [hb,yV];rw [show ay ((j,q)::dK r id) i=bif yx j i then some q else ay (dK r id) i from rfl,ih];by_cases hi:j=i
   ·subst hi
    have:¬id=j:=fun h=>hj h.symm
    simp [wP,this,ay]
   ·have sW:yx j i=false:=by
     cases hq:yx j i with
     | false=>rfl
     | true=>exact absurd (yt hq) hi
    simp [sW,ay]
section
variable {O:bA} {H:Hint} {m:Mp} {S:Nat->Prop} {w:yi} {tm:Env} {a:Act} {hp:Hp} {ct:Nat}
def Src (P:y9) (w:yi) (size n:Nat) (news:List yg) (x:yg):Prop:=
 (∀w',(Builtin.lenOf x).run P w'= .ok n w')/\news.length=n*size/\
 ∀w',w'.heap=w.heap->∀k,k<=n->(Builtin.firstCells size k x).run P w'= .ok (news.take (k*size)).toArray w'
def It {P:y9} {size n c:Nat} {b:Addr} {news:List yg} (hl:news.length=n*size) (hc:∀j u,news[j]? =some u->w.cell? (b.add j)=some u):
  Src P w size n news (.slice (some b) n c):=by
 refine ⟨fun w'=>by simp [Builtin.lenOf],hl,fun w' hw k hk=>?_⟩;have hle:k*size<=news.length:=by rw [hl];exact yQ _ hk
 refine run_firstCells_some (P:=P) w' size k b n c (news.take (k*size)) (by rw [yy];omega) (fun j v hv=>?_);rw [List.getElem?_take] at hv
 split at hv
 ·have:=hc j v hv
  simpa [World.cell?,hw] using this
 ·cases hv
def aeE {P:y9} {size:Nat}:Src P w size 0 [] (.slice none 0 0):=
 ⟨fun w'=>by simp [Builtin.lenOf],by simp,fun w' _ k hk=>by simp [Builtin.firstCells]⟩
def aoV (s:ByteArray) (k:Nat):(s.extract 0 k).data.map (fun b=>Value.int .u8 b.toNat)=((s.data.toList.map fun b=>Value.int .u8 (b.toNat:Int)).take k).toArray:=by
 have:(s.extract 0 k).data=s.data.extract 0 k:=by simp
 grind
def atL {P:y9} {s:ByteArray}:Src P w 1 s.size (s.data.toList.map fun b=>Value.int .u8 (b.toNat:Int)) (.string s):=by
 refine ⟨fun w'=>by simp [Builtin.lenOf],by simp,fun w' _ k hk=>?_⟩;simp only [Builtin.firstCells,Sem.run_pure,Nat.mul_one];rw [aoV]
def abv {ah:Nat->Nat}:∀l:List UInt8,aA ah m S w (Na (l.map xb)) (l.map fun b=>Value.int .u8 (b.toNat:Int))
 | []=>by simp [Na,aA]
 | b::r=>by
  exact ⟨_,_,rfl,by simp [ai],abv r⟩
def abT {size n:Nat} {vx:AV} {x:yg} {cs:List AV} (hh:aW O m S w hp ct) (hx:ai O.ah m S w vx x) (h:kJ hp size vx=some (n,cs)):
  ∃us,aA O.ah m S w cs us/\Src O.P w size n us x:=by
 cases vx<;>simp only [kJ,reduceCtorEq] at h
 case aa=>
  obtain ⟨rfl,rfl⟩:=h;subst hx;exact ⟨[],by simp [aA],aeE⟩
 case aB ex n' dX=>
  cases hc:yx dX.length (n'*size) with
  | false=>rw [hc] at h;cases h
  | true=>
   rw [hc] at h;obtain ⟨rfl,rfl⟩:=h;have hl:=yt hc;rcases hx with ⟨b,o,c,rfl,h1,h2,h3,h4,h5⟩ | ⟨ad,rfl,rfl,rfl⟩
   ·obtain ⟨us,g1,g2,g3⟩:=zo _ b o h5;exact ⟨us,g1,It (by omega) (fun j u hj=>by rw [pk];exact g3 j u hj)⟩
   ·exact ⟨[],by simp [aA],It (by simp) (fun j u hj=>by simp at hj)⟩
 case aw id o n'=>
  cases hg:ay hp id with
  | none=>simp [hg] at h
  | some ob=>
   cases ob<;>simp only [hg,reduceCtorEq] at h
   rename_i rw pu ex z dX
   cases hc:yG (o+n'*size) dX.length with
   | false=>rw [hc] at h;cases h
   | true=>
    rw [hc] at h;simp only [yA,yd,yq] at h;obtain ⟨rfl,rfl⟩:=h;have hl:=yz hc;obtain ⟨p,c,hm,rfl,h1,h2⟩:=hx;have hr:=R8 (o:=0) (n:=0) hh hg hm;have mB:=CF (n'*size) _ _ _ (rM o _ _ _ hr);obtain ⟨us,g1,g2,g3⟩:=zo _ p.b (p.o+o) mB;refine ⟨us,g1,It ?_ (fun j u hj=>by rw [pk];exact g3 j u hj)⟩
    grind
def apT {size n:Nat} {vx:AV} {x:yg} {cs:List AV} (hh:aW O m S w hp ct) (hx:ai O.ah m S w vx x) (h:r5 hp size vx=some (n,cs)):
  ∃us,aA O.ah m S w cs us/\Src O.P w size n us x:=by
 cases vx<;>try exact abT hh hx h
 simp only [r5] at h
 cases hc:yx size 1 with
 | false=>rw [hc] at h;cases h
 | true=>
  rw [hc] at h;obtain ⟨rfl,rfl⟩:=h
  have:=yt hc
  subst this;obtain ⟨t,rfl,rfl⟩:=hx;refine ⟨_,abv _,?_⟩
  have:(List.map xb t.data.toList).length=t.size:=by simp
  rw [this];exact atL
def an9 {P:y9} {t u ty e:yB} {i:ybV} (ht:P.underlying t=some (.slice e)) (hu:(∃e',P.underlying u=some (.slice e'))\/P.underlying u=some .string) (hi:P.info? e=some i)
  {g o iL qZ:Nat} {Lc:Array yg} {te:yB} (hg:w.heap[g]? =some (.cells Lc te (0,0))) {x:yg} {n:Nat} {news:List yg} (hs:Src P w i.size n news x) (h1:∀u∈news,u.oneCell'=true)
  (Fz:iL+n<=qZ) (Ui:o+iL*i.size+news.length<=Lc.size):
  (Builtin.append_ #[t,u] ty #[.slice (some ⟨g,o,none⟩) iL qZ,x]).run P w=
   .ok (.slice (some ⟨g,o,none⟩) (iL+n) qZ) (w.setRow g (Lc.toList.take (o+iL*i.size)++news++Lc.toList.drop (o+iL*i.size+news.length)).toArray):=by
 obtain ⟨nv,Ay,ZI⟩:=hs;have hf:=ZI w rfl n (yv _);rw [yC (by omega)] at hf;have aO:=run_storeCells_at P g (o+iL*i.size) te news 0 Lc w hg (by omega) h1;rcases hu with ⟨e',hd⟩ | hd<;>
  simp [Builtin.append_,run_underlying ht,run_underlying hd,vG,typeInfo,hi,nv,Fz,hf,pk,aO]
def Rc {P:y9} {t u ty e:yB} {i:ybV} {z:yg} (ht:P.underlying t=some (.slice e)) (hu:(∃e',P.underlying u=some (.slice e'))\/P.underlying u=some .string) (hi:P.info? e=some i) (hz:i.zero=some z)
  {s:yg} {base:Option Addr} {iL qZ:Nat} (es:s= .slice base iL qZ) {nf:List yg} (ho:Src P w i.size iL nf s) {x:yg} {n:Nat} {news:List yg} (hs:Src P w i.size n news x)
  (hg:qZ<iL+n) (h63:iL+n<=1099511627776) (ZH:(iL+n)*i.bytes<=1099511627776):
  (Builtin.append_ #[t,u] ty #[s,x]).run P w=
   .ok (.slice (some ⟨w.heap.size,0,none⟩) (iL+n) (grownCap w (iL+n) qZ e))
    (w.drew.alloc (.cells ((nf++news).toArray++Builtin.zeroCells z.cells (grownCap w (iL+n) qZ e-(iL+n))) e)):=by
 obtain ⟨nv,Ay,ZI⟩:=hs;obtain ⟨ho1,ZJ,ho3⟩:=ho;have hf:=ZI w.drew rfl n (yv _);rw [yC (by omega)] at hf;have hfo:=ho3 w.drew rfl iL (yv _);have hn:¬(iL+n<=qZ):=by omega
 have aBl:¬(9223372036854775807<((iL:Int)+(n:Int))):=by omega
 have Ui:=growslice_fits (need:=iL+n) (old:=qZ) (bytes:=i.bytes) hg (by omega);have aBm:¬(281474976710656<Builtin.nextslicecap (iL+n) qZ*i.bytes):=by omega
 subst es;rcases hu with ⟨e',hd⟩ | hd
 all_goals
  simp [Builtin.append_,run_underlying ht,run_underlying hd,vG,typeInfo,zeroValue,hi,hz,nv,hn,aBl,aBm,Question.forced,hf,hfo,newRow,askRoom,grownCap]
  grind
def RQ {e:yB} {z:yg} {sz need cap:Nat} {cs:List AV} {us:List yg} (hh:aW O m S w hp ct) (hr:aA O.ah m S w cs us) (hl:us.length=need*sz) (hz:z.cells.size=sz)
  (NT:Bool) (hpp:NT=true->aK cs=true) (hc:need<=cap):
  let w':=w.drew.alloc (.cells (us.toArray++Builtin.zeroCells z.cells (cap-need)) e)
  let p:Pl:=⟨w.heap.size,0,cap*sz,sz⟩
  ∀m',dG m m'->m' ct=some p->fM O m' S w' ct (.cells true NT false sz cs):=by
 intro w' p m' hm hi;have aO:fX S w w':=fun b hb=>by
  have:=hh.slt b hb
  exact RowKit.Below.heap_alloc w.drew _ b (by simpa using this)
 have lH:w'.heap[w.heap.size]? =some (.cells (us.toArray++Builtin.zeroCells z.cells (cap-need)) e (0,0)):=heap_alloc_new w.drew _;have jC:=iU _ _ hr;refine ⟨p,_,e,hi,lH,rfl,?_,?_,by simp,?_,hpp,?_,by simp⟩
 ·show cs.length<=cap*sz
  rw [<-jC,hl];exact yQ _ hc
 ·show 0+cap*sz<=_
  rw [Array.size_append,uY,size_zeroCells,hz,hl,<-wE]
  grind
 ·refine RN lH cs us 0 (iw hm (fun _ h=>h) aO _ _ hr) (fun j u hj=>?_)
  grind
 ·intro _ hS
  have:=hh.slt _ hS
  grind
def anW (hh:aW O m S w hp ct) (g:tp):fX S w (w.drew.alloc g):=fun b hb=>by
 have:=hh.slt b hb
 exact RowKit.Below.heap_alloc w.drew _ b (by simpa using this)
def RR (hh:aW O m S w hp ct) {hp0:Hp} {g:tp} {p:Pl} {o:Obj} (Of:∀i q,ay hp0 i=some q->ay hp i=some q) (hb:p.b=w.heap.size)
  (ho:∀m',dG m m'->m' ct=some p->fM O m' S (w.drew.alloc g) ct o):
  aW O (fN m ct p) S (w.drew.alloc g) ((ct,o)::hp0) (ct+1)/\cp m S w hp (fN m ct p) S (w.drew.alloc g) ((ct,o)::hp0) ct:=by
 have hn:m ct=none:=by
  cases h:m ct with
  | none=>rfl
  | some q=>have:=hh.lt _ _ h;omega
 have hle:=kK hn (p:=p);have aO:=anW hh g;have hold:∀b,b<w.heap.size->(w.drew.alloc g).heap[b]? =w.heap[b]? :=fun b hb=>RowKit.Below.heap_alloc w.drew _ b (by simpa using hb)
 have eV:(w.drew.alloc g).heap.size=w.heap.size+1:=by simp
 have gI:∀i q,ay ((ct,o)::hp0) i=some q->i≠ct->ay hp i=some q:=fun i q h hi=>by
  rw [ix,yD (fun e=>hi e.symm)] at h
  grind
 refine ⟨⟨?_,?_,?_,?_,?_,?_,?_,?_,fun i q hq=>(by
  by_cases hc:i=ct
  ·omega
  ·have:=hh.aZ _ _ (gI i q hq hc);omega)⟩,⟨rfl,rfl,rfl,by omega,?_,fun _ h=>h,fun b hb=>aO b hb,fun b hb=> .inl hb,?_,fun i q _ h=>hle i q h,fun b r hb=>⟨r,(hold b (xy.1 hb).1).trans hb⟩⟩⟩
 ·intro i q pi hi bS;by_cases hc:i=ct
  ·subst hc;rw [ix] at hi;simp only [xD,yd] at hi;subst hi;exact ho _ hle eE
  ·rw [eD hc] at bS;exact rQ hle (fun _ h=>h) aO (fun q' bI=>hold _ (hh.blt i q' bI)) (fun _ _ h=>h) (hh.obj i q pi (gI i q hi hc) bS)
 ·intro i q bS;by_cases hc:i=ct
  ·omega
  ·rw [eD hc] at bS;have:=hh.lt i q bS;omega
 ·intro i j oi oj pi pj hi hj bS gH e;by_cases ci:i=ct
  ·by_cases cj:j=ct
   ·grind
   ·subst ci;rw [eE] at bS;rw [eD cj] at gH;injection bS with bS
    subst bS
    have:=hh.blt j pj gH
    omega
  ·rw [eD ci] at bS;by_cases cj:j=ct
   ·subst cj;rw [eE] at gH;injection gH with gH
    subst gH
    have:=hh.blt i pi bS
    omega
   ·rw [eD cj] at gH;exact hh.inj i j oi oj pi pj (gI i oi hi ci) (gI j oj hj cj) bS gH e
 ·intro b hb;have:=hh.slt b hb;omega
 ·intro i q bS;by_cases hc:i=ct
  ·subst hc;rw [eE] at bS;injection bS with bS
   subst bS;omega
  ·rw [eD hc] at bS;have:=hh.blt i q bS;omega
 ·intro i q bS;have h0:=hh.fY;by_cases hc:i=ct
  ·subst hc;rw [eE] at bS;injection bS with bS
   subst bS;omega
  ·rw [eD hc] at bS;exact hh.low i q bS
 ·intro b hb;have h0:=hh.fY;exact (hold b (by omega)).trans (hh.lG b hb)
 ·have h0:=hh.fY;omega
 ·intro b hb _;exact hold b hb
 ·rintro b ⟨i,q,pi,h1,h2,h3⟩;by_cases hc:i=ct
  ·subst hc;rw [eE] at h2;injection h2 with h2
   subst h2;exact .inr (by omega)
  ·rw [eD hc] at h2;exact .inl ⟨i,q,pi,gI i q h1 hc,h2,h3⟩
def apU (hh:aW O m S w hp ct) {id:Nat} {o o':Obj} {p p':Pl} {w':yi} (hg:ay hp id=some o) (hm:m id=some p) (hn:¬S p.b) (hw:One w w' p.b) (hk:∀r:uP,w.heap[p.b]? =some (.loop r)->∃r':uP,w'.heap[p.b]? =some (.loop r')) (hb:p'.b=p.b)
  (ho:∀m',dG m m'->m' ct=some p'->fM O m' S w' ct o'):
  aW O (fN m ct p') S w' ((ct,o')::dK hp id) (ct+1)/\cp m S w hp (fN m ct p') S w' ((ct,o')::dK hp id) ct:=by
 have iE:m ct=none:=by
  cases h:m ct with
  | none=>rfl
  | some q=>have:=hh.lt _ _ h;omega
 have hle:=kK iE (p:=p');have aO:fX S w w':=fun b hb=>hw.other b (fun e=>hn (e▸hb))
 have gI:∀i q,ay ((ct,o')::dK hp id) i=some q->i≠ct->ay hp i=some q/\i≠id:=fun i q h hi=>by
  rw [ix,yD (fun e=>hi e.symm),Is] at h
  grind
 have ajX:∀i q pi,ay hp i=some q->i≠id->m i=some pi->pi.b≠p.b:=fun i q pi h hi bS e=>hi (hh.inj i id q o pi p h hg bS hm e)
 refine ⟨⟨?_,?_,?_,?_,?_,?_,?_,?_,fun i q hq=>(by
  by_cases hc:i=ct
  ·omega
  ·have:=hh.aZ _ _ (gI i q hq hc).1;omega)⟩,⟨hw.os,hw.tape,hw.output,by rw [hw.size];exact yv _,?_,fun _ h=>h,fun b hb=>aO b hb,fun b hb=> .inl hb,?_,fun i q _ h=>hle i q h,fun b r hb=>(by
  by_cases hc:b=p.b
  ·grind
  ·exact ⟨r,(hw.other b hc).trans hb⟩)⟩⟩
 ·intro i q pi hi bS;by_cases hc:i=ct
  ·subst hc;rw [ix] at hi;simp only [xD,yd] at hi;subst hi;exact ho _ hle eE
  ·rw [eD hc] at bS;obtain ⟨h1,h2⟩:=gI i q hi hc;exact rQ hle (fun _ h=>h) aO (fun q' bI=>hw.other _ (ajX i q q' h1 h2 bI)) (fun _ _ h=>h) (hh.obj i q pi h1 bS)
 ·intro i q bS;by_cases hc:i=ct
  ·omega
  ·rw [eD hc] at bS;have:=hh.lt i q bS;omega
 ·intro i j oi oj pi pj hi hj bS gH e;by_cases ci:i=ct
  ·by_cases cj:j=ct
   ·grind
   ·subst ci;rw [eE] at bS;rw [eD cj] at gH
    grind
  ·rw [eD ci] at bS;obtain ⟨h1,h2⟩:=gI i oi hi ci;by_cases cj:j=ct
   ·subst cj;rw [eE] at gH;injection gH with gH
    subst gH;exact (ajX i oi pi h1 h2 bS (by rw [e,hb])).elim
   ·rw [eD cj] at gH;exact hh.inj i j oi oj pi pj h1 (gI j oj hj cj).1 bS gH e
 ·intro b hb;rw [hw.size];exact hh.slt b hb
 ·intro i q bS;rw [hw.size];by_cases hc:i=ct
  ·subst hc;rw [eE] at bS;injection bS with bS
   subst bS;rw [hb];exact hh.blt id p hm
  ·rw [eD hc] at bS;exact hh.blt i q bS
 ·intro i q bS;by_cases hc:i=ct
  ·subst hc;rw [eE] at bS;injection bS with bS
   subst bS;rw [hb];exact hh.low id p hm
  ·rw [eD hc] at bS;exact hh.low i q bS
 ·intro b hb
  rw [hw.other b (fun e=>by have:=hh.low id p hm;omega)];exact hh.lG b hb
 ·rw [hw.size];exact hh.fY
 ·intro b _ cK;exact hw.other b (fun e=>cK (e▸I3 hg hm))
 ·rintro b ⟨i,q,pi,h1,h2,h3⟩;by_cases hc:i=ct
  ·subst hc;rw [eE] at h2;injection h2 with h2
   subst h2;exact .inl ⟨id,o,p,hg,hm,by rw [<-h3,hb]⟩
  ·rw [eD hc] at h2;exact .inl ⟨i,q,pi,(gI i q h1 hc).1,h2,h3⟩
def atM {P:y9} {e:yB} {s cJ:Nat} {z:AV} (hs:cR P e=some s) (hb:B1 P e=some cJ) (hz:mW P e=some z):
  ∃ti zv,P.info? e=some ti/\ti.size=s/\ti.bytes=cJ/\ti.zero=some zv/\z=eL zv:=by
 unfold cR at hs;unfold B1 at hb;unfold mW at hz
 cases hi:P.info? e with
 | none=>simp [hi] at hs
 | some ti=>
  simp only [hi,yd] at hs hb hz
  cases fq:ti.zero with
  | none=>simp [fq] at hz
  | some zv=>
   grind
def IC {o:y8} {v:AV} {u:yg} {w':yi} {m':Mp} {S':Nat->Prop} {ak:Hp} {aP:Nat} (h1:(execOp a.eval o).run O.P w= .ok (.value u) w') (h2:aW O m' S' w' ak aP) (h3:ai O.ah m' S' w' v u)
  (h4:dG m m') (h5:cp m S w hp m' S' w' ak ct):zQ O m S w a hp ct o v ak aP:=⟨_,u,w',m',S',h1,.inl rfl,h2,h3,h4,h5⟩
def arF {o:y8} {b':yB} {t u e:yB} {sz cJ:Nat} {z:AV} {x y:xz} {v:AV} {ak:Hp} {aP:Nat} (hH:fR O H) (ht:cm O m S w tm a.tmps) (hh:aW O m S w hp ct)
  (gQ:(execOp a.eval o).run O.P w=((do pure (.value (<-Builtin.append_ #[t,u] b' #[a.eval x,a.eval y])):Sem yag)).run O.P w)
  (B6:O.P.underlying t=some (.slice e)) (hu:(∃e',O.P.underlying u=some (.slice e'))\/O.P.underlying u=some .string) (hs:cR O.P e=some sz) (hb:B1 O.P e=some cJ) (hz:mW O.P e=some z) (Av:(cellsOf z).length=sz)
  (hv:cP tm hp ct (.aR sz cJ (aS H x) (aS H y))=some (v,ak,aP)):zQ O m S w a hp ct o v ak aP:=by
 simp only [cP] at hv;obtain ⟨ti,zv,Aw,rfl,rfl,ZK,rfl⟩:=atM hs hb hz;have aT:∀u' w',(Builtin.append_ #[t,u] b' #[a.eval x,a.eval y]).run O.P w= .ok u' w'->(execOp a.eval o).run O.P w= .ok (.value u') w':=fun u' w' h=>by
  rw [gQ,Sem.run_bind,h];rfl
 have sn:m ct=none:=by
  cases h:m ct with
  | none=>rfl
  | some q=>have:=hh.lt _ _ h;omega
 have Lb:zv.cells.size=ti.size:=by
  have:=iU _ _ (EA (ah:=O.ah) (m:=m) (S:=S) (w:=w) zv)
  rw [<-Av,<-this];simp
 cases sA:r5 hp ti.size (aF tm (aS H y)) with
 | none=>simp [sA] at hv
 | some q=>
  obtain ⟨n,new⟩:=q;simp only [sA] at hv;obtain ⟨news,e9,eB⟩:=apT hh (cB hH ht y) sA;have Ld:=iU _ _ e9;have rx:=cB hH ht x
  cases hx:aF tm (aS H x) with
  | aa=>
   rw [hx] at hv rx;simp only at hv;simp only [ai] at rx
   cases h0:yx n 0 with
   | true=>
    rw [h0] at hv;simp only [yA,yd,yq] at hv;obtain ⟨rfl,rfl,rfl⟩:=hv;have B7:=yt h0;subst B7;have TI:news=[]:=yo (by rw [eB.2.1];simp)
    subst TI;have hf:=eB.2.2 w rfl 0 (yv _);have lR:=eB.1 w;refine ⟨.value (.slice none 0 0),.slice none 0 0,w,m,S,?_,.inl rfl,hh,by simp [ai],dG.refl,cp.refl⟩;rw [gQ,rx];rcases hu with ⟨e',hu⟩ | hu<;>
     simp [Builtin.append_,run_underlying B6,run_underlying hu,vG,typeInfo,Aw,lR,hf]
   | false=>
    rw [h0] at hv;simp only [yV] at hv
    cases hc:(yG n room&&(yG (n*ti.bytes) room&&yR 0 ti.size)) with
    | false=>rw [hc] at hv;cases hv
    | true=>
     rw [hc] at hv;simp only [yA,yd,yq] at hv;obtain ⟨rfl,rfl,rfl⟩:=hv;simp only [yh] at hc;have c1:=yz hc.1;have c2:=yz hc.2.1;simp only [room] at c1 c2;have B7:0<n:=by
      rcases xq n with h | h
      ·subst h;simp at h0
      ·exact h
     have hr:=Rc (P:=O.P) (ty:=b') (w:=w) B6 hu Aw ZK (s:= .slice none 0 0) rfl (aeE (P:=O.P) (size:=ti.size)) eB (by omega) (by omega) (by simpa using c2);simp only [ye,List.nil_append] at hr;have lS:=grownCap_ge w n 0 e;have lH:=RQ (e:=e) (z:=zv) (cap:=grownCap w n 0 e) hh e9 (need:=n) (sz:=ti.size) eB.2.1 Lb (aK new) (fun h=>h) lS;obtain ⟨k1,k2⟩:=RR hh (hp0:=hp) (p:=⟨w.heap.size,0,grownCap w n 0 e*ti.size,ti.size⟩) (fun _ _ h=>h) rfl lH;exact IC (aT _ _ (by rw [rx];exact hr)) k1 (by simp only [ai];exact ⟨_,_,eE,rfl,lS,by simp⟩) (kK sn) k2
  | aB ex k cs=>
   rw [hx] at hv rx
   cases ex with
   | false=>simp at hv
   | true=>
    simp only at hv;have rx0:=rx;simp only [ai] at rx;have rx1:∃ad nf,a.eval x= .slice (some ad) k k/\aA O.ah m S w cs nf/\nf.length=cs.length/\(∀(j:Nat) (u:yg),nf[j]? =some u->w.cell? (ad.add j)=some u)/\aK cs=true:=by
     rcases rx with ⟨bb,oo,c,ex,h1,h2,h3,h4,h5⟩ | ⟨ad,ex,rfl,rfl⟩
     ·have pX:c=k:=h2 (by trivial);subst pX;obtain ⟨nf,g1,g2,g3⟩:=zo cs bb oo h5;exact ⟨_,nf,ex,g1,g2,fun j u hj=>by rw [pk];exact g3 j u hj,h4⟩
     ·exact ⟨ad,[],ex,by simp [aA],rfl,fun j u hj=>by simp at hj,rfl⟩
    obtain ⟨ad,nf,ex,g1,g2,g3,h4⟩:=rx1
    cases h0:yx n 0 with
    | true=>
     rw [h0] at hv;simp only [yA,yd,yq] at hv;obtain ⟨rfl,rfl,rfl⟩:=hv;have B7:=yt h0;subst B7;have TI:news=[]:=yo (by rw [eB.2.1];simp)
     subst TI;have hf:=eB.2.2 w rfl 0 (yv _);have lR:=eB.1 w;refine ⟨.value (a.eval x),a.eval x,w,m,S,?_,.inl rfl,hh,rx0,dG.refl,cp.refl⟩;rw [gQ,ex];rcases hu with ⟨e',hu⟩ | hu<;>
      simp [Builtin.append_,run_underlying B6,run_underlying hu,vG,typeInfo,Aw,lR,hf,storeCells]
    | false=>
     rw [h0] at hv;simp only [yV] at hv
     cases hc:(yG (k+n) room&&(yG ((k+n)*ti.bytes) room&&(yx cs.length (k*ti.size)&&yR 0 ti.size))) with
     | false=>rw [hc] at hv;cases hv
     | true=>
      rw [hc] at hv;simp only [yA,yd,yq] at hv;obtain ⟨rfl,rfl,rfl⟩:=hv;simp only [yh] at hc;have c1:=yz hc.1;have c2:=yz hc.2.1;have c3:=yt hc.2.2.1;simp only [room] at c1 c2;have B7:0<n:=by
       rcases xq n with h | h
       ·subst h;simp at h0
       ·exact h
      have ZL:Src O.P w ti.size k nf (.slice (some ad) k k):=It (by omega) g3;have hr:=Rc (P:=O.P) (ty:=b') (w:=w) B6 hu Aw ZK rfl ZL eB (by omega) c1 c2;have lS:=grownCap_ge w (k+n) k e;have lH:=RQ (e:=e) (z:=zv) (cap:=grownCap w (k+n) k e) hh (lX g1 e9) (need:=k+n) (sz:=ti.size) (by rw [yN,g2,c3,eB.2.1,wE]) Lb (aK cs&&aK new)
       (fun h=>by simp only [yh] at h;exact EB h.1 h.2) lS
      obtain ⟨k1,k2⟩:=RR hh (hp0:=hp) (p:=⟨w.heap.size,0,grownCap w (k+n) k e*ti.size,ti.size⟩) (fun _ _ h=>h) rfl lH;exact IC (aT _ _ (by rw [ex];exact hr)) k1 (by simp only [ai];exact ⟨_,_,eE,rfl,lS,by simp⟩) (kK sn) k2
  | aw id o0 k=>
   rw [hx] at hv rx;simp only at hv;simp only [ai] at rx;obtain ⟨p,c,hm,ex,h1,h2⟩:=rx
   split at hv
   case h_2=>cases hv
   rename_i pu P8 zz cs hg
   cases hc:(yx zz ti.size&&(yG (k+n) room&&(yG ((k+n)*ti.bytes) room&&(yG (o0+k*ti.size) cs.length&&(yR 0 ti.size&&cu new))))) with
   | false=>rw [hc] at hv;cases hv
   | true=>
    rw [hc] at hv;simp only [yA,yd,yq] at hv;obtain ⟨rfl,rfl,rfl⟩:=hv;simp only [yh] at hc;have c0:=yt hc.1;have c1:=yz hc.2.1;have c2:=yz hc.2.2.1;have c3:=yz hc.2.2.2.1;have c4:=hc.2.2.2.2.2;simp only [room] at c1 c2;obtain ⟨p',arr,t',g1,g2,g3,g4,g5,g6,g7,g8,g9,g10⟩:=hh.obj id _ _ hg hm;rw [hm] at g1;injection g1 with g1
    subst g1;subst c0;rw [g3] at h2;have P9:bW O.ah m S w (slice o0 (k*ti.size) cs) p.b (p.o+o0):=CF _ _ _ _ (rM _ _ _ _ g7);obtain ⟨nf,f1,f2,f3⟩:=zo _ _ _ P9;have ajY:(slice o0 (k*ti.size) cs).length=k*ti.size:=by simp only [slice,yy,xN];omega
    have ep:(pu&&aK new)=true->aK (slice o0 (k*ti.size) cs++new)=true:=fun h=>by
     simp only [yh] at h;exact EB (CD _ (AR _ _ (g8 h.1))) h.2
    by_cases Fz:k+n<=c
    ·have gB:=MB e9 c4;have Ui:p.o+o0+k*ti.size+news.length<=arr.size:=by
      rw [eB.2.1]
      have:(k+n)*ti.size<=c*ti.size:=yQ _ Fz
      rw [wE] at this;omega
     have hr:=an9 (P:=O.P) (ty:=b') (w:=w) B6 hu Aw g2 eB gB Fz Ui;have ho:∀m',dG m m'->m' ct=some ⟨p.b,p.o+o0,c*ti.size,ti.size⟩->
       fM O m' S (w.setRow p.b (arr.toList.take (p.o+o0+k*ti.size)++news++arr.toList.drop (p.o+o0+k*ti.size+news.length)).toArray) ct
        (.cells true (pu&&aK new) false ti.size (slice o0 (k*ti.size) cs++new)):=by
      intro m' hle hi;have aO:fX S w (w.setRow p.b (arr.toList.take (p.o+o0+k*ti.size)++news++arr.toList.drop (p.o+o0+k*ti.size+news.length)).toArray):=fun b hb=>setRow_other w p.b b _ (fun e=>g9 rfl (e▸hb))
      refine ⟨_,_,t',hi,setRow_heap w p.b arr _ t' _ g2,rfl,?_,?_,by simp,?_,ep,fun _=>g9 rfl,by simp⟩
      ·show (slice o0 (k*ti.size) cs++new).length<=c*ti.size
       rw [yN,ajY,<-Ld,eB.2.1,<-wE];exact yQ _ Fz
      ·show p.o+o0+c*ti.size<=_
       rw [uY,yN,yN,yy,xN,vn];omega
      ·refine EM _ (nf++news) _ (lX (iw hle (fun _ h=>h) aO _ _ f1) (iw hle (fun _ h=>h) aO _ _ e9)) (fun j u hj=>?_);show World.cell? _ ⟨p.b,p.o+o0+j,none⟩=some u
       simp only [World.cell?,setRow_heap w p.b arr _ t' _ g2,yae,yL,xi];rw [yaa];have e1:(arr.toList.take (p.o+o0+k*ti.size)).length=p.o+o0+k*ti.size:=by rw [yy,vn];omega
       by_cases ZF:j<k*ti.size
       ·rw [xX (by omega)] at hj;rw [xA,xX (by omega),uk (by omega)]
        have:=f3 j u hj
        simpa [World.cell?,g2] using this
       ·rw [xL (by omega)] at hj;have hjl:=(List.getElem?_eq_some_iff.1 hj).1;rw [xA,xL (by omega),e1,xX (by omega),show p.o+o0+j-(p.o+o0+k*ti.size)=j-nf.length by omega];exact hj
     obtain ⟨k1,k2⟩:=apU (p':=⟨p.b,p.o+o0,c*ti.size,ti.size⟩) hh hg hm (g9 rfl) (Rz w p.b _) (fun r hr=>by rw [g2] at hr;cases hr) rfl ho;exact IC (aT _ _ (by rw [ex];exact hr)) k1 (by simp only [ai];exact ⟨_,c,eE,rfl,Fz,by simp⟩) (kK sn) k2
    ·have ZL:Src O.P w ti.size k nf (.slice (some ⟨p.b,p.o+o0,none⟩) k c):=It (by omega) (fun j u hj=>by rw [pk];exact f3 j u hj)
     have hr:=Rc (P:=O.P) (ty:=b') (w:=w) B6 hu Aw ZK rfl ZL eB (by omega) c1 c2;have lS:=grownCap_ge w (k+n) c e;have lH:=RQ (e:=e) (z:=zv) (cap:=grownCap w (k+n) c e) hh (lX f1 e9) (need:=k+n) (sz:=ti.size) (by rw [yN,f2,ajY,eB.2.1,wE]) Lb (pu&&aK new) ep lS;obtain ⟨k1,k2⟩:=RR hh (hp0:=dK hp id) (p:=⟨w.heap.size,0,grownCap w (k+n) c e*ti.size,ti.size⟩) (fun i q h=>by
      rw [Is] at h;by_cases hi:id=i
      ·simp [hi] at h
      ·simpa only [hi,xi] using h) rfl lH
     exact IC (aT _ _ (by rw [ex];exact hr)) k1 (by simp only [ai];exact ⟨_,_,eE,rfl,lS,by simp⟩) (kK sn) k2
  | _=>rw [hx] at hv;simp at hv
end
end
section
open Go
section
variable {O:bA} {H:Hint} {m:Mp} {S:Nat->Prop} {w:yi} {tm:Env} {a:Act} {hp:Hp} {ct:Nat}
def aop {n:Nat} {cs:List AV} (h:aK cs=true):aK (cs.take n)=true:=CD n h
def abi:∀(n:Nat) {cs:List AV},cu cs=true->cu (cs.take n)=true
 | 0,_,_=>by simp [cu]
 | n+1,[],_=>by simp [cu]
 | n+1,c::cs,h=>by
  simp only [wg,cu,yh] at h ⊢;exact ⟨h.1,abi n h.2⟩
def arG {o:y8} {b':yB} {t u e:yB} {sz:Nat} {x y:xz} {v:AV} {ak:Hp} {aP:Nat} (hH:fR O H) (ht:cm O m S w tm a.tmps) (hh:aW O m S w hp ct)
  (gQ:(execOp a.eval o).run O.P w=((do pure (.value (<-Builtin.copy_ #[t,u] b' #[a.eval x,a.eval y])):Sem yag)).run O.P w)
  (B6:O.P.underlying t=some (.slice e)) (hs:cR O.P e=some sz)
  (hv:cP tm hp ct (.mz sz (aS H x) (aS H y))=some (v,ak,aP)):zQ O m S w a hp ct o v ak aP:=by
 simp only [cP] at hv
 cases sA:kJ hp sz (aF tm (aS H y)) with
 | none=>simp [sA] at hv
 | some q=>
  obtain ⟨n,new⟩:=q;simp only [sA] at hv;obtain ⟨news,e9,eB⟩:=abT hh (cB hH ht y) sA;have Ld:=iU _ _ e9;have rx:=cB hH ht x;cases hx:aF tm (aS H x)<;>rw [hx] at hv rx<;>simp only [reduceCtorEq] at hv
  rename_i id o0 k;simp only [ai] at rx;obtain ⟨p,c,hm,ex,h1,h2⟩:=rx
  split at hv
  case h_2=>cases hv
  rename_i pu P8 zz cs hg
  cases hc:(yx zz sz&&(yG (o0+k*sz) cs.length&&cu new)) with
  | false=>rw [hc] at hv;cases hv
  | true=>
   rw [hc] at hv;simp only [yA,yd,yq] at hv;obtain ⟨rfl,rfl,rfl⟩:=hv;simp only [yh] at hc;have c0:=yt hc.1;have c1:=yz hc.2.1;subst c0;obtain ⟨p',arr,t',g1,g2,g3,g4,g5,g6,g7,g8,g9,g10⟩:=hh.obj id _ _ hg hm;rw [hm] at g1;injection g1 with g1
   subst g1;have ajZ:min n k*zz<=k*zz:=yQ _ (Nat.min_le_right _ _);have aIJ:min n k*zz<=n*zz:=yQ _ (yaR _ _);have rt:=EI (min n k*zz) e9;have sY:(news.take (min n k*zz)).length=min n k*zz:=by rw [yy,eB.2.1];omega
   have aIT:(new.take (min n k*zz)).length=min n k*zz:=by rw [yy,<-Ld,eB.2.1];omega
   have gB:=MB rt (abi _ hc.2.2);have hf:=eB.2.2 w rfl (min n k) (yaR _ _);have aO:=run_storeCells_at O.P p.b (p.o+o0) t' (news.take (min n k*zz)) 0 arr w g2 (by rw [sY];omega) gB;simp only [y5] at aO;have oB:fM O m S (w.setRow p.b (arr.toList.take (p.o+o0)++news.take (min n k*zz)++arr.toList.drop (p.o+o0+(news.take (min n k*zz)).length)).toArray) id
     (.cells true (pu&&aK new) P8 zz (over o0 (new.take (min n k*zz)) cs)):=by
    refine ⟨p,_,t',hm,setRow_heap w p.b arr _ t' _ g2,g3,by rw [MS (by omega)];exact g4,?_,fun h=>by rw [MS (by omega)];exact g6 h,?_,?_,fun _=>g9 rfl,by simp⟩
    ·rw [uY,yN,yN,yy,xN,vn,sY];omega
    ·exact adw g2 g7 rt (by omega) (by omega) dG.refl (fun _ h=>h) (fun b hb=>setRow_other w p.b b _ (fun e=>g9 rfl (e▸hb))) (setRow_heap w p.b arr _ t' _ g2)
    ·intro h;simp only [yh] at h;exact abR (g8 h.1) (aop h.2)
   obtain ⟨e1,e2⟩:=IB hh hg hm (g9 rfl) (Rz w p.b _) oB (fun r hr=>by rw [g2] at hr;cases hr)
   refine IC (u:=goInt ((min n k:Nat):Int)) (m':=m) (S':=S) ?_ e1 (by simp [ai,goInt]) dG.refl e2;rw [gQ,ex];simp [Builtin.copy_,run_underlying B6,eB.1 w,nJ hs,show Nat.min n k=min n k from rfl,hf,aO]
def atN {o:y8} {k:Nat} {v:AV} {ak:Hp} {aP:Nat} (hH:fR O H) (ht:cm O m S w tm a.tmps) (hh:aW O m S w hp ct)
  (hv:cP tm hp ct (bc O.P H k o)=some (v,ak,aP)):zQ O m S w a hp ct o v ak aP:=by
 have mo:∀{r:AV×Hp×Nat},cP tm hp ct bad=some r->False:=fun h=>by simp [bad,cP] at h
 cases ho:o.op with
 | call c=>
  obtain ⟨callee,args,ts⟩:=c;simp only [bc,ho] at hv
  split at hv
  ·cases ZC:H.mode k<;>simp [ZC,cP] at hv
  ·rename_i _ b
   split at hv
   ·rename_i x y t u ic pW;obtain ⟨al⟩:=args;obtain ⟨tl⟩:=ts;simp only at ic pW;subst ic;subst pW;obtain ⟨cs,gQ⟩:=Ic (O:=O) (w:=w) (a:=a) ho;have TJ:(execOp a.eval o).run O.P w=((do pure (.value (<-Builtin.append_ #[t,u] o.type #[a.eval x,a.eval y])):Sem yag)).run O.P w:=by
     rw [gQ];simp [builtin]
    have key:∀{z:AV} {sz cJ:Nat} {e:yB},O.P.underlying t=some (.slice e)->((∃e',O.P.underlying u=some (.slice e'))\/O.P.underlying u=some .string)->cR O.P e=some sz->B1 O.P e=some cJ->mW O.P e=some z->
      cP tm hp ct (bif yx (cellsOf z).length sz then .aR sz cJ (aS H x) (aS H y) else bad)=some (v,ak,aP)->zQ O m S w a hp ct o v ak aP:=by
     intro z sz cJ e h1 h2 h3 h4 h5 h
     cases hb:yx (cellsOf z).length sz with
     | false=>rw [hb] at h;exact (mo h).elim
     | true=>
      rw [hb] at h;exact arF hH ht hh TJ h1 h2 h3 h4 h5 (yt hb) h
    split at hv
    ·rename_i e e' h1 h2
     split at hv
     ·rename_i sz cJ z h3 h4 h5
      exact key h1 (.inl ⟨_,h2⟩) h3 h4 h5 hv
     ·exact (mo hv).elim
    ·rename_i e h1 h2
     split at hv
     ·rename_i sz cJ z h3 h4 h5
      exact key h1 (.inr h2) h3 h4 h5 hv
     ·exact (mo hv).elim
    ·exact (mo hv).elim
   ·repeat' split at hv
    all_goals simp [cP,bad] at hv
   ·rename_i x y t u ic pW;obtain ⟨al⟩:=args;obtain ⟨tl⟩:=ts;simp only at ic pW;subst ic;subst pW;obtain ⟨cs,gQ⟩:=Ic (O:=O) (w:=w) (a:=a) ho;have TJ:(execOp a.eval o).run O.P w=((do pure (.value (<-Builtin.copy_ #[t,u] o.type #[a.eval x,a.eval y])):Sem yag)).run O.P w:=by
     rw [gQ];simp [builtin]
    split at hv
    ·rename_i e h1
     split at hv
     ·rename_i sz h3;exact arG hH ht hh TJ h1 h3 hv
     ·exact (mo hv).elim
    ·exact (mo hv).elim
   ·simp [cP] at hv
   ·simp [cP] at hv
   ·exact (mo hv).elim
  ·exact (mo hv).elim
 | store t x y=>
  simp only [bc,ho] at hv
  split at hv
  ·rename_i s hs;exact atJ hH ht hh ho hs hv
  ·exact (mo hv).elim
 | mapUpdate t x k y=>
  simp only [bc,ho] at hv
  split at hv
  ·rename_i kt e hu
   split at hv
   ·rename_i kk ru;exact adx hH ht hh (.inl ho) hu ru hv
   ·exact (mo hv).elim
  ·exact (mo hv).elim
 | insert t x k y=>
  simp only [bc,ho] at hv
  split at hv
  ·rename_i kt e hu
   split at hv
   ·rename_i kk ru;exact adx hH ht hh (.inr ho) hu ru hv
   ·exact (mo hv).elim
  ·exact (mo hv).elim
 | next x b=>
  cases b with
  | false=>simp only [bc,ho] at hv;exact (mo hv).elim
  | true=>exact arE hH ht hh ho (by simpa only [bc,ho] using hv)
 | binOp op t x y ty=>
  cases op<;>simp only [bc,ho,qQ,rW] at hv
  case eql=>
        repeat' split at hv
        all_goals first
         | (simp [cP,bad] at hv;done)
         | (cases hb:(O.P.stoodInHeld t||O.P.eqGuardType O.P.depth t)<;>rw [hb] at hv<;>simp [cP,bad] at hv)
  case neq=>
        repeat' split at hv
        all_goals first
         | (simp [cP,bad] at hv;done)
         | (cases hb:(O.P.stoodInHeld t||O.P.eqGuardType O.P.depth t)<;>rw [hb] at hv<;>simp [cP,bad] at hv)
  all_goals simp [cP] at hv
 | buildSlice t n parts=>
  simp only [bc,ho] at hv
  repeat' split at hv
  all_goals first
   | (simp [cP,bad] at hv;done)
   | (
     revert hv;generalize yG _ _=bb;intro hv;cases bb<;>simp [cP,bad] at hv
     try (split at hv<;>simp [cP,bad] at hv))
 | makeMap t r=>
  cases r<;>simp only [bc,ho] at hv
  ·repeat' split at hv
   all_goals simp [cP,bad] at hv
  ·exact (mo hv).elim
 | _=>
  simp only [bc,ho] at hv
  (repeat' split at hv)
  all_goals first
   | contradiction
   | (simp [cP,bad] at hv;done)
end
end
section
section
variable {hp H:Hp} {tm tm':Env}
def aeF (hl:di hp H) {id:Nat} {rw pu ex:Bool} {sz:Nat} {cs:List AV} (h:ay hp id=some (.cells rw pu ex sz cs)):∃rw',ay H id=some (.cells rw' pu ex sz cs):=by
 obtain ⟨o',h1,rw',rfl,_⟩:=hl id _ h;exact ⟨rw',h1⟩
def aeG (hl:di hp H) {id:Nat} {rw:Bool} {ks vs:List AV} (h:ay hp id=some (.mp rw ks vs)):∃rw',ay H id=some (.mp rw' ks vs):=by
 obtain ⟨o',h1,rw',rfl,_⟩:=hl id _ h;exact ⟨rw',h1⟩
def aeH (hl:di hp H) {sz:Nat} {ag:Bool} {x v:AV} (h:jb hp sz ag x=some v):jb H sz ag x=some v:=by
 cases x<;>simp only [jb,reduceCtorEq] at h ⊢
 ·rename_i id o
  cases hg:ay hp id with
  | none=>simp [hg] at h
  | some ob=>
   cases ob<;>simp only [hg,reduceCtorEq] at h
   obtain ⟨r,h1⟩:=aeF hl hg;simp only [h1];exact h
 ·exact h
def arH (hl:di hp H) {k x:AV} {v:Option AV} (h:Bm hp k x=some v):Bm H k x=some v:=by
 cases x<;>simp only [Bm,reduceCtorEq] at h ⊢
 ·exact h
 ·rename_i id
  cases hg:ay hp id with
  | none=>simp [hg] at h
  | some ob=>
   cases ob<;>simp only [hg,reduceCtorEq] at h
   obtain ⟨r,h1⟩:=aeG hl hg;simp only [h1];exact h
 ·exact h
def arI (hl:di hp H) {k:Nat} {x v:AV} (h:fE hp k x=some v):fE H k x=some v:=by
 unfold fE at h ⊢
 split at h
 all_goals first
  | exact h
  | cases h
  | skip
 rename_i id
 cases hg:ay hp id with
 | none=>simp [hg] at h
 | some ob=>
  cases ob<;>simp only [hg,reduceCtorEq] at h
  obtain ⟨r,h1⟩:=aeG hl hg;simp only [h1];exact h
def arJ (hl:di hp H) {k:Cut} {x v:AV} {lo hi:Option X} (h:fg hp k x tm lo hi=some v):fg H k x tm lo hi=some v:=by
 unfold fg at h ⊢
 split at h
 all_goals first
  | exact h
  | cases h
  | skip
 rename_i sz id o n
 cases hg:ay hp id with
 | none=>simp [hg] at h
 | some ob=>
  cases ob<;>simp only [hg,reduceCtorEq] at h
  obtain ⟨r,h1⟩:=aeF hl hg;simp only [h1];exact h
def apV (hl:di hp H) {o:Op} {v:AV} (h:bG tm hp o=some v):bG tm H o=some v:=by
 cases o<;>simp only [bG,reduceCtorEq] at h ⊢<;>first
  | exact h
  | exact aeH hl h
  | exact arI hl h
  | exact arJ hl h
  | skip
 rename_i kk zero ok m k
 cases hk:zB kk (aF tm k) with
 | false=>rw [hk] at h;cases h
 | true=>
  rw [hk] at h;simp only [yA] at h ⊢
  cases hr:Bm hp (aF tm k) (aF tm m) with
  | none=>simp [hr] at h
  | some r=>rw [arH hl hr];simpa only [hr] using h
def apW {o:Op} (hk:bH o=0) (hp H:Hp):bG tm hp o=bG tm H o:=by
 cases o with
 | dR k x lo hi=>
  cases k with
  | str=>simp only [bG,fg];cases aF tm x<;>rfl
  | sl sz=>simp [bH] at hk
  | ar n sz=>simp [bH] at hk
 | len k x=>
  match k,hk with
  | 0,_=>simp only [bG];unfold fE;split<;>simp_all
  | 1,_=>simp only [bG];unfold fE;split<;>simp_all
  | k+2,hk=>simp [bH] at hk
 | call md f xs=>cases md<;>simp [bH] at hk
 | _=>first
  | rfl
  | simp [bH] at hk
end
section
variable {tm tm':Env}
def dZ {x:X} (h:∀t,t∈iX x->af tm' t=af tm t):aF tm' x=aF tm x:=by
 cases x with
 | t i=>exact h i (by simp [iX])
 | c v=>rfl
def CG:∀{xs:List X},(∀t,t∈zH xs->af tm' t=af tm t)->dD tm' xs=dD tm xs
 | [],_=>rfl
 | x::r,h=>by
  simp only [dD]
  rw [dZ (x:=x) (fun t ht=>h t (by simp [zH,ht])),CG (fun t ht=>h t (by simp [zH,ht]))]
def RS:∀{ps:List (Nat×Nat×X)} {z:List AV},(∀t,t∈JC ps->af tm' t=af tm t)->fill tm' z ps=fill tm z ps
 | [],_,_=>rfl
 | (o,s,x)::r,z,h=>by
  simp only [fill]
  rw [dZ (x:=x) (fun t ht=>h t (by simp [JC,ht]))]
  rw [RS (ps:=r) (fun t ht=>h t (by simp [JC,ht]))]
def abU {d:Nat} {x:Option X} (h:∀t,t∈JB x->af tm' t=af tm t):df tm' d x=df tm d x:=by
 cases x with
 | none=>rfl
 | some x=>simp only [df];rw [dZ h]
def aoW {hp:Hp} {k:Cut} {x:AV} {lo hi:Option X} (h1:∀t,t∈JB lo->af tm' t=af tm t) (h2:∀t,t∈JB hi->af tm' t=af tm t):
  fg hp k x tm' lo hi=fg hp k x tm lo hi:=by
 unfold fg;simp only [abU h1,abU h2]
def aoq {hp:Hp} {o:Op} (h:∀t,t∈kL o->af tm' t=af tm t):bG tm' hp o=bG tm hp o:=by
 cases o<;>simp only [kL,wK] at h<;>simp only [bG]
 case pick c a b=>rw [dZ (x:=c) fun t ht=>h t (.inl ht),dZ (x:=a) fun t ht=>h t (.inr (.inl ht)),dZ (x:=b) fun t ht=>h t (.inr (.inr ht))]
 case gk z ps=>rw [RS h]
 case DT f a b=>rw [CG (xs:=a) fun t ht=>h t (.inl ht),CG (xs:=b) fun t ht=>h t (.inr ht)]
 case dR k x lo hi=>rw [dZ (x:=x) fun t ht=>h t (.inl ht),aoW (fun t ht=>h t (.inr (.inl ht))) (fun t ht=>h t (.inr (.inr ht)))]
 case mn xs=>rw [CG h]
 case mx xs=>rw [CG h]
 case bin op x y=>rw [dZ (x:=x) fun t ht=>h t (.inl ht),dZ (x:=y) fun t ht=>h t (.inr ht)]
 case eq n k x y=>rw [dZ (x:=x) fun t ht=>h t (.inl ht),dZ (x:=y) fun t ht=>h t (.inr ht)]
 case aU s x y=>rw [dZ (x:=x) fun t ht=>h t (.inl ht),dZ (x:=y) fun t ht=>h t (.inr ht)]
 case Gy l s x y=>rw [dZ (x:=x) fun t ht=>h t (.inl ht),dZ (x:=y) fun t ht=>h t (.inr ht)]
 case kW x y=>rw [dZ (x:=x) fun t ht=>h t (.inl ht),dZ (x:=y) fun t ht=>h t (.inr ht)]
 case Gz l s g x y=>rw [dZ (x:=x) fun t ht=>h t (.inl ht),dZ (x:=y) fun t ht=>h t (.inr ht)]
 case P4 kk z ok x y=>rw [dZ (x:=x) fun t ht=>h t (.inl ht),dZ (x:=y) fun t ht=>h t (.inr ht)]
 all_goals first
  | rfl
  | (rename_i x;rw [dZ (x:=x) h])
def Ie {hp ak:Hp} {ct:Nat} {o:Op} (h:∀t,t∈kL o->af tm' t=af tm t):cU tm' ak ct o=cU tm hp ct o:=by
 cases o<;>simp only [kL,wK] at h<;>simp only [cU]
 case box s x=>rw [dZ (x:=x) h]
 case dd n s z ps=>rw [RS h]
 case gE s b z x y=>rw [dZ (x:=x) fun t ht=>h t (.inl ht),dZ (x:=y) fun t ht=>h t (.inr ht)]
 case pU x=>rw [dZ (x:=x) h]
def CC {hp:Hp} {ct:Nat} {o:Op} (h:∀t,t∈kL o->af tm' t=af tm t):cP tm' hp ct o=cP tm hp ct o:=by
 cases o<;>simp only [kL,wK] at h<;>simp only [cP]
 case st s x y=>rw [dZ (x:=x) fun t ht=>h t (.inl ht),dZ (x:=y) fun t ht=>h t (.inr ht)]
 case pT kk c a b=>rw [dZ (x:=c) fun t ht=>h t (.inl ht),dZ (x:=a) fun t ht=>h t (.inr (.inl ht)),dZ (x:=b) fun t ht=>h t (.inr (.inr ht))]
 case pV x=>rw [dZ (x:=x) h]
 case aR s b x y=>rw [dZ (x:=x) fun t ht=>h t (.inl ht),dZ (x:=y) fun t ht=>h t (.inr ht)]
 case mz s x y=>rw [dZ (x:=x) fun t ht=>h t (.inl ht),dZ (x:=y) fun t ht=>h t (.inr ht)]
end
end
section
open Go
structure Calm (w w':yi):Prop where
 os:w'.os=w.os
 tape:w'.tape=w.tape
 output:w'.output=w.output
 size:w.heap.size<=w'.heap.size
 same:∀b,b<w.heap.size->w'.heap[b]? =w.heap[b]?
def Calm.refl {w:yi}:Calm w w:=⟨rfl,rfl,rfl,yv _,fun _ _=>rfl⟩
def Bn (O:bA) (w:yi):Prop:=(∀b,b<O.w0.heap.size->w.heap[b]? =O.w0.heap[b]?)/\O.w0.heap.size<=w.heap.size
def fa:Mp:=fun _=>none
def iA (ah:Nat->Nat) (S:Nat->Prop) (w:yi) (lo:Nat):AV->yg->List Nat->Prop
 | .bw ex sz n cs,u,bs=>∃b o c arr t,bs=[b]/\u= .slice (some ⟨b,o,none⟩) n c/\n<=c/\(ex=true->c=n)/\lo<=b/\¬S b/\w.heap[b]? =some (.cells arr t (0,0))/\cs.length=n*sz/\
   o+c*sz<=arr.size/\bW ah fa S w cs b o/\aK cs=true
 | r,u,bs=>bs=[]/\ai ah fa S w r u/\a7 r=true
def kS (ah:Nat->Nat) (S:Nat->Prop) (w:yi) (lo:Nat):List AV->List yg->List Nat->Prop
 | [],us,bs=>us=[]/\bs=[]
 | v::r,us,bs=>∃u t b1 b2,us=u::t/\bs=b1++b2/\iA ah S w lo v u b1/\kS ah S w lo r t b2
def nh (ah:Nat->Nat) (S:Nat->Prop) (w:yi) (lo:Nat) (r:AV) (u:yg):Prop:=
 match r with
 | .ae vs=>∃(us:Array yg) (bs:List Nat),u= .tuple us/\kS ah S w lo vs us.toList bs/\bs.Nodup
 | r=>∃bs,iA ah S w lo r u bs
def A4 (P:y9) (f:yaP) (args:Array yg) (w:yi) (R:tq->yi->Prop):Prop:=
 ((callFunc f args).run P w= .ok (.enter f args) w/\CallsIn Fence.wide 0 P f args w R)\/∃u w',(callFunc f args).run P w= .ok (.value u) w'/\R (.returned u) w'
def ady (O:bA) (w:yi) (S:Nat->Prop) (r:AV) (e:tq) (w':yi):Prop:=
 ∃u S',e= .returned u/\Calm w w'/\(∀b,S b->S' b)/\(∀b,S' b->S b\/w.heap.size<=b)/\(∀b,S' b->b<w'.heap.size)/\nh O.ah S' w' w.heap.size r u
def eH (O:bA) (n:Nat) (az:List AV) (r:AV):Prop:=
 ∀(w:yi) (S:Nat->Prop) (args:Array yg),Bn O w->(∀b,S b->b<w.heap.size)->aA O.ah fa S w az args.toList->aK az=true->
  A4 O.P (O.ah n) args w (ady O w S r)
def zt (O:bA) (m:Mp) (S:Nat->Prop) (w:yi) (hp:Hp) (ct:Nat) (v:AV) (ak:Hp) (aP:Nat) (e:tq) (w':yi):Prop:=
 ∃u m' S',e= .returned u/\aW O m' S' w' ak aP/\ct<=aP/\ai O.ah m' S' w' v u/\cp m S w hp m' S' w' ak ct
def Bo (O:bA) (n:Nat) (hp:Hp) (ct:Nat) (az:List AV) (v:AV) (ak:Hp) (aP:Nat):Prop:=
 ∀(m:Mp) (S:Nat->Prop) (w:yi) (args:Array yg),aW O m S w hp ct->aA O.ah m S w az args.toList->A4 O.P (O.ah n) args w (zt O m S w hp ct v ak aP)
section
variable {ah:Nat->Nat} {m m':Mp} {S S':Nat->Prop} {w w':yi}
mutual
def qI (hS:∀b,S b->S' b) (hw:fX S w w'):∀(v:AV) (u:yg),a7 v=true->ai ah m S w v u->ai ah m' S' w' v u
 | .int _ _,_,_,h | .bool _,_,_,h | .bU _ _,_,_,h | .str _,_,_,h | .kR,_,_,h | .aa,_,_,h | .iZ,_,_,h | .kh,_,_,h | .undef,_,_,h=>by
  simpa only [ai] using h
 | .ptr id o,u,hp,h=>by simp [a7] at hp
 | .cg cs,u,hp,h=>by
  simp only [ai] at h ⊢;obtain ⟨b,o,h1,h2,h3,h4⟩:=h;refine ⟨b,o,h1,h2.imp id (hS b),h3,?_⟩;rcases h2 with rfl | h2
  ·simp only [bW]
  ·exact RA hS hw cs b o h3 h2 h4
 | .aB ex n cs,u,hp,h=>by
  simp only [ai] at h ⊢;rcases h with ⟨b,o,c,h1,h2,h3,h4,h5,h6⟩ | h
  ·refine .inl ⟨b,o,c,h1,h2,h3,h4.imp id (hS b),h5,?_⟩;rcases h4 with rfl | h4
   ·simp only [bW]
   ·exact RA hS hw cs b o h5 h4 h6
  ·exact .inr h
 | .bw _ _ _ _,u,hp,h=>by simp [a7] at hp
 | .aw id o n,u,hp,h=>by simp [a7] at hp
 | .fn (.f g) first cap,u,hp,h=>by
  simp only [ai] at h ⊢;simp only [a7,yh] at hp;obtain ⟨fi,ca,h1,h2,h3⟩:=h;exact ⟨fi,ca,h1,zp hS hw first _ hp.1 h2,zp hS hw cap _ hp.2 h3⟩
 | .fn (.y l) _ _,u,hp,h=>by simp [a7] at hp
 | .map id,u,hp,h=>by simp [a7] at hp
 | .jw ks vs,u,hp,h=>by
  simp only [ai] at h ⊢;obtain ⟨b,es,clock,h1,h2,h3,h4,h5,h6,h7⟩:=h;exact ⟨b,es,clock,h1,hS b h2,h3,h4,(hw b h2).trans h5,zp hS hw ks _ h3 h6,zp hS hw vs _ h4 h7⟩
 | .it id,u,hp,h=>by simp [a7] at hp
 | .agg cs,u,hp,h=>by
  simp only [ai] at h ⊢;simp only [a7] at hp;obtain ⟨xs,h1,h2⟩:=h;exact ⟨xs,h1,zp hS hw cs _ hp h2⟩
 | .ae cs,u,hp,h=>by
  simp only [ai] at h ⊢;simp only [a7] at hp;obtain ⟨xs,h1,h2⟩:=h;exact ⟨xs,h1,zp hS hw cs _ hp h2⟩
def zp (hS:∀b,S b->S' b) (hw:fX S w w'):∀(vs:List AV) (us:List yg),aK vs=true->aA ah m S w vs us->aA ah m' S' w' vs us
 | [],us,_,h=>by simpa only [aA] using h
 | v::r,us,hp,h=>by
  simp only [aA] at h ⊢;simp only [aK,yh] at hp;obtain ⟨u,t,h1,h2,h3⟩:=h;exact ⟨u,t,h1,qI hS hw v u hp.1 h2,zp hS hw r t hp.2 h3⟩
def RA (hS:∀b,S b->S' b) (hw:fX S w w'):∀(cs:List AV) (b o:Nat),aK cs=true->S b->bW ah m S w cs b o->bW ah m' S' w' cs b o
 | [],_,_,_,_,_=>by simp only [bW]
 | c::cs,b,o,hp,hb,h=>by
  simp only [bW] at h ⊢;simp only [aK,yh] at hp;obtain ⟨⟨u,h1,h2⟩,h3⟩:=h;exact ⟨⟨u,(Me (hw b hb)).trans h1,qI hS hw c u hp.1 h2⟩,RA hS hw cs b (o+1) hp.2 hb h3⟩
end
def CE (hS:∀b,S b->S' b) (hw:fX S w w'):∀(cs:List AV) (b o:Nat),aK cs=true->w'.heap[b]? =w.heap[b]? ->bW ah m S w cs b o->bW ah m' S' w' cs b o
 | [],_,_,_,_,_=>by simp only [bW]
 | c::cs,b,o,hp,hb,h=>by
  simp only [aK,yh] at hp;obtain ⟨⟨u,h1,h2⟩,h3⟩:=h;exact ⟨⟨u,(Me hb).trans h1,qI hS hw c u hp.1 h2⟩,CE hS hw cs b (o+1) hp.2 hb h3⟩
end
section
variable {O:bA} {m:Mp} {S S':Nat->Prop} {w w':yi} {hp:Hp} {ct:Nat}
def apX (hh:aW O m S w hp ct) (hw:Calm w w'):fX S w w':=fun b hb=>hw.same b (hh.slt b hb)
def EJ (hh:aW O m S w hp ct) (hw:Calm w w') (hS:∀b,S b->S' b) (hn:∀b,S' b->S b\/w.heap.size<=b) (hl:∀b,S' b->b<w'.heap.size):aW O m S' w' hp ct where
 obj id o p ho hm:=rQ (fun _ _ h=>h) hS (apX hh hw) (fun q hq=>hw.same _ (hh.blt id q hq)) (fun q hq hs=>(hn _ hs).resolve_right (by have:=hh.blt id q hq;omega)) (hh.obj id o p ho hm)
 lt:=hh.lt
 inj:=hh.inj
 slt:=hl
 blt id p h:=yU (hh.blt id p h) hw.size
 low:=hh.low
 lG b hb:=(hw.same b (yU hb hh.fY)).trans (hh.lG b hb)
 fY:=Nat.le_trans hh.fY hw.size
 aZ:=hh.aZ
def CJ {base:Nat} (hh:aW O m S w hp ct) (hw:Calm w w') (hS:∀b,S b->S' b) (hn:∀b,S' b->S b\/w.heap.size<=b):cp m S w hp m S' w' hp base where
 os:=hw.os
 tape:=hw.tape
 output:=hw.output
 size:=hw.size
 same b hb _:=hw.same b hb
 sub:=hS
 still b hb:=hw.same b (hh.slt b hb)
 new b hb:=(hn b hb).imp id .inr
 own b hb:= .inl hb
 old _ _ _ h:=h
 loops b r hb:=⟨r,(hw.same b (xy.1 hb).1).trans hb⟩
def arK {i:Nat} (hh:aW O m S w hp ct) (hi:m i=none) (GC:i<ct) {p:Pl} (hb:p.b<w.heap.size) (bk:O.w0.heap.size<=p.b) (GF:¬S p.b) (oD:∀j q,m j=some q->q.b≠p.b)
  (hf:∀o,ay hp i=some o->(fM O (fN m i p) S w i o/\¬js o)\/(js o/\fM O (fN m i p) (fun b=>S b\/b=p.b) w i o)):
  ∃S',aW O (fN m i p) S' w hp ct/\(∀b,S b->S' b)/\∀b,S' b->S b\/b=p.b:=by
 have aO:fX S w w:=fun _ _=>rfl
 have gen:∀S':Nat->Prop,(∀b,S b->S' b)->(∀b,S' b->S b\/b=p.b)->(∀o,ay hp i=some o->fM O (fN m i p) S' w i o)->aW O (fN m i p) S' w hp ct:=by
  intro S' h1 h2 h3;refine ⟨?_,?_,?_,?_,?_,?_,hh.lG,hh.fY,hh.aZ⟩
  ·intro id o q ho hm;by_cases hc:id=i
   ·grind
   ·rw [eD hc] at hm;refine rQ (kK hi) h1 aO (fun _ _=>rfl) (fun q' bI hs=>?_) (hh.obj id o q ho hm)
    grind
  ·intro id q hm;by_cases hc:id=i
   ·grind
   ·rw [eD hc] at hm;exact hh.lt id q hm
  ·intro a b oa ob pa pb ha cK DW zZ e;by_cases ca:a=i
   ·by_cases cb:b=i
    ·grind
    ·subst ca;rw [eE] at DW;rw [eD cb] at zZ
     grind
   ·rw [eD ca] at DW;by_cases cb:b=i
    ·subst cb;rw [eE] at zZ
     grind
    ·rw [eD cb] at zZ;exact hh.inj a b oa ob pa pb ha cK DW zZ e
  ·intro b hs;rcases h2 b hs with h | h
   ·exact hh.slt b h
   ·grind
  ·intro id q hm;by_cases hc:id=i
   ·subst hc;rw [eE] at hm
    grind
   ·rw [eD hc] at hm;exact hh.blt id q hm
  ·intro id q hm;by_cases hc:id=i
   ·subst hc;rw [eE] at hm
    grind
   ·rw [eD hc] at hm;exact hh.low id q hm
 cases ho:ay hp i with
 | none=>exact ⟨S,gen S (fun _ h=>h) (fun _ h=> .inl h) (fun o h=>by rw [ho] at h;cases h),fun _ h=>h,fun _ h=> .inl h⟩
 | some o=>
  rcases hf o ho with ⟨h1,_⟩ | ⟨_,h1⟩
  ·exact ⟨S,gen S (fun _ h=>h) (fun _ h=> .inl h) (fun o' h=>by rw [ho] at h;injection h with h;subst h;exact h1),fun _ h=>h,fun _ h=> .inl h⟩
  ·exact ⟨_,gen (fun b=>S b\/b=p.b) (fun _ h=> .inl h) (fun _ h=>h) (fun o' h=>by rw [ho] at h;injection h with h;subst h;exact h1),fun _ h=> .inl h,fun _ h=>h⟩
def acB {ah:Nat->Nat} {lo:Nat} {r:AV} {u:yg} {bs:List Nat} (h:iA ah S w lo r u bs) (m:Mp) (hS:∀b,S b->S' b) (hbs:∀b,b∈bs->S' b):ai ah m S' w (bQ r) u:=by
 have aO:fX S w w:=fun _ _=>rfl
 cases r with
 | bw ex sz n cs=>
  obtain ⟨b,o,c,arr,t,rfl,rfl,h1,h2,h3,h4,h5,h6,h7,h8,h9⟩:=h;exact .inl ⟨b,o,c,rfl,h1,h2,.inr (hbs b (by simp)),h9,CE hS aO cs b o h9 rfl h8⟩
 | _=>simp only [iA] at h;exact qI hS aO _ _ h.2.2 h.2.1
def acC {ah:Nat->Nat} {lo:Nat} (m:Mp) (hS:∀b,S b->S' b):∀{vs:List AV} {us:List yg} {bs:List Nat},kS ah S w lo vs us bs->(∀b,b∈bs->S' b)->aA ah m S' w (Dj vs) us
 | [],us,bs,h,_=>by simp only [kS] at h;exact h.1
 | v::r,us,bs,h,hb=>by
  obtain ⟨u,t,b1,b2,rfl,rfl,h1,h2⟩:=h;exact ⟨u,t,rfl,acB h1 m hS (fun b cK=>hb b (by simp [cK])),acC m hS h2 (fun b cK=>hb b (by simp [cK]))⟩
def SD {ah:Nat->Nat} {lo:Nat} {r:AV} {u:yg} {bs:List Nat} (h:iA ah S w lo r u bs):∀b,b∈bs->lo<=b/\b<w.heap.size:=by
 intro b hb
 cases r with
 | bw ex sz n cs=>
  simp only [iA] at h
  grind
 | _=>simp only [iA] at h;rw [h.1] at hb;cases hb
def SE {ah:Nat->Nat} {lo:Nat}:∀{vs:List AV} {us:List yg} {bs:List Nat},kS ah S w lo vs us bs->∀b,b∈bs->lo<=b/\b<w.heap.size
 | [],us,bs,h,b,hb=>by simp only [kS] at h;rw [h.2] at hb;cases hb
 | v::r,us,bs,h,b,hb=>by
  obtain ⟨u,t,b1,b2,rfl,rfl,h1,h2⟩:=h;rcases wK.1 hb with hb | hb
  ·exact SD h1 b hb
  ·exact SE h2 b hb
def acD {ah:Nat->Nat} {lo:Nat} {r:AV} {u:yg} (h:nh ah S w lo r u) (m:Mp):∃S',(∀b,S b->S' b)/\(∀b,S' b->S b\/(lo<=b/\b<w.heap.size))/\ai ah m S' w (shut r) u:=by
 have one:∀(r:AV) (bs:List Nat),shut r=bQ r->iA ah S w lo r u bs->∃S',(∀b,S b->S' b)/\(∀b,S' b->S b\/(lo<=b/\b<w.heap.size))/\ai ah m S' w (shut r) u:=by
  intro r bs hs h;refine ⟨fun b=>S b\/b∈bs,fun _ h=> .inl h,fun b hb=>hb.imp (fun x=>x) (fun hb=>SD h b hb),?_⟩;rw [hs];exact acB h m (fun _ h=> .inl h) (fun _ h=> .inr h)
 cases r with
 | ae vs=>
  obtain ⟨us,bs,rfl,h1,h2⟩:=h;refine ⟨fun b=>S b\/b∈bs,fun _ h=> .inl h,fun b hb=>hb.imp (fun x=>x) (fun hb=>SE h1 b hb),?_⟩;exact ⟨us,rfl,acC m (fun _ h=> .inl h) h1 (fun _ h=> .inr h)⟩
 | _=>
  obtain ⟨bs,h⟩:=h;exact one _ bs rfl h
end
end
section
open Go
section
variable {O:bA} {m:Mp} {S:Nat->Prop} {w:yi} {H:Hp} {cH:Nat}
def Nh {hp:Hp} {ct:Nat} {r:AV}:ct<=(fG hp ct r).2.2:=by
 cases r<;>simp only [fG]<;>omega
def Ni:∀{vs:List AV} {hp:Hp} {ct:Nat},ct<=(jM hp ct vs).2.2
 | [],hp,ct=>by simp [jM]
 | v::r,hp,ct=>by
  simp only [jM];have h1:=Nh (hp:=hp) (ct:=ct) (r:=v);have h2:=Ni (vs:=r) (hp:=(fG hp ct v).2.1) (ct:=(fG hp ct v).2.2);omega
def SF {hp:Hp} {ct:Nat} {r:AV} (hf:∀id o,ay hp id=some o->id<ct):∀id o,ay hp id=some o->ay (fG hp ct r).2.1 id=some o:=by
 intro id o h;cases r<;>simp only [fG]<;>try exact h
 rw [ix,yD (by have:=hf id o h;omega)];exact h
def aeI {hp:Hp} {ct lo:Nat} {r:AV} {u:yg} {bs:List Nat} (hh:aW O m S w H cH) (hl:di (fG hp ct r).2.1 H) (eX:(fG hp ct r).2.2<=cH) (hn:∀id,ct<=id->id<(fG hp ct r).2.2->m id=none)
  (hr:iA O.ah S w lo r u bs) (bk:O.w0.heap.size<=lo) (oD:∀j q,m j=some q->q.b∉bs):
  ∃m' S',aW O m' S' w H cH/\dG m m'/\(∀id p,m' id=some p->m id=some p\/(ct<=id/\id<(fG hp ct r).2.2/\p.b∈bs))/\ai O.ah m' S' w (fG hp ct r).1 u/\(∀b,S b->S' b)/\(∀b,S' b->S b\/b∈bs):=by
 have aO:fX S w w:=fun _ _=>rfl
 cases r with
 | bw ex sz n cs=>
  simp only [fG] at hl eX hn;obtain ⟨b,o,c,arr,t,rfl,rfl,h1,h2,h3,h4,h5,h6,h7,h8,h9⟩:=hr;have bS:m ct=none:=hn ct (yv _) (Nat.lt_succ_self _);have aBn:b<w.heap.size:=(xy.1 h5).1;have oB:fM O (fN m ct ⟨b,o,c*sz,sz⟩) S w ct (.cells true true ex sz cs):=by
   refine ⟨_,arr,t,eE,h5,rfl,?_,h7,fun hx=>?_,CE (fun _ h=>h) aO cs b o h9 rfl h8,fun _=>h9,fun _=>h4,by simp⟩
   ·show cs.length<=c*sz
    rw [h6];exact yQ _ h1
   ·grind
  obtain ⟨S',k1,k2,k3⟩:=arK (p:=⟨b,o,c*sz,sz⟩) hh bS (by omega) aBn (by show _<=b;omega) h4 (fun j q hq e=>oD j q hq (by rw [e];simp)) (fun o' lP=>by
   obtain ⟨o'',g1,g2⟩:=hl ct (.cells true true ex sz cs) (by rw [ix];simp)
   rw [lP] at g1;injection g1 with g1
   subst g1
   exact abu (p:=⟨b,o,c*sz,sz⟩) g2 eE oB (by simp [js]))
  refine ⟨_,S',k1,kK bS,fun id p ak=>?_,?_,k2,fun b' cK=>(k3 b' cK).imp (fun h=>h) (fun h=>by rw [h];simp)⟩
  ·by_cases hc:id=ct
   ·subst hc;rw [eE] at ak;injection ak with ak
    subst ak;exact .inr ⟨yv _,by simp [fG],by simp⟩
   ·rw [eD hc] at ak;exact .inl ak
  ·simp only [fG,ai];exact ⟨_,c,eE,by simp,h1,by simp⟩
 | _=>
  exact ⟨m,S,hh,dG.refl,fun _ _ h=> .inl h,qI (fun _ h=>h) aO _ _ hr.2.2 hr.2.1,fun _ h=>h,fun _ h=> .inl h⟩
def IP {hp:Hp} {ct:Nat} {r:AV} (hf:∀id o,ay hp id=some o->id<ct):∀id o,ay (fG hp ct r).2.1 id=some o->id<(fG hp ct r).2.2:=by
 intro id o h;cases r<;>simp only [fG] at h ⊢<;>try exact hf id o h
 rw [ix] at h
 grind
def Nj:∀{vs:List AV} {hp:Hp} {ct:Nat},(∀id o,ay hp id=some o->id<ct)->∀id o,ay hp id=some o->ay (jM hp ct vs).2.1 id=some o
 | [],hp,ct,_,id,o,h=>by simpa [jM] using h
 | v::r,hp,ct,hf,id,o,h=>by
  exact Nj (IP hf) id o (SF hf id o h)
def aeJ {lo:Nat} (bk:O.w0.heap.size<=lo):∀{vs:List AV} {us:List yg} {bs:List Nat} {hp:Hp} {ct:Nat} {m:Mp} {S:Nat->Prop},aW O m S w H cH->di (jM hp ct vs).2.1 H->(jM hp ct vs).2.2<=cH->
  (∀id o,ay hp id=some o->id<ct)->(∀id,ct<=id->id<(jM hp ct vs).2.2->m id=none)->
  kS O.ah S w lo vs us bs->bs.Nodup->(∀j q,m j=some q->q.b∉bs)->
  ∃m' S',aW O m' S' w H cH/\dG m m'/\(∀id p,m' id=some p->m id=some p\/(ct<=id/\id<(jM hp ct vs).2.2/\p.b∈bs))/\aA O.ah m' S' w (jM hp ct vs).1 us/\(∀b,S b->S' b)/\(∀b,S' b->S b\/b∈bs)
 | [],us,bs,hp,ct,m,S,hh,hl,eX,hf,hn,hr,ko,oD=>by
  simp only [kS] at hr;exact ⟨m,S,hh,dG.refl,fun _ _ h=> .inl h,by simp only [jM,aA];exact hr.1,fun _ h=>h,fun _ h=> .inl h⟩
 | v::r,us,bs,hp,ct,m,S,hh,hl,eX,hf,hn,hr,ko,oD=>by
  simp only [kS] at hr;obtain ⟨u,t,b1,b2,rfl,rfl,h1,h2⟩:=hr;simp only [jM] at hl eX hn ⊢;have eC:=Nh (hp:=hp) (ct:=ct) (r:=v);have sZ:=Ni (vs:=r) (hp:=(fG hp ct v).2.1) (ct:=(fG hp ct v).2.2);rw [List.nodup_append] at ko;obtain ⟨m1,S1,k1,k2,k3,k4,k5,k6⟩:=aeI (hp:=hp) (ct:=ct) (lo:=lo) hh ((fun id o h=>hl id o (Nj (IP hf) id o h))) (by omega) (fun id g1 g2=>hn id g1 (by omega)) h1 bk
   (fun j q hq hb=>oD j q hq (by simp [hb]))
  have h2':kS O.ah S1 w lo r t b2:=by
   clear k4;have Uj:∀b,S1 b->S b\/b∈b1:=k6;have hd:∀b,b∈b2->b∉b1:=fun b hb mC=>ko.2.2 b mC b hb rfl
   have one:∀{v:AV} {u:yg} {bb:List Nat},(∀b,b∈bb->b∉b1)->iA O.ah S w lo v u bb->iA O.ah S1 w lo v u bb:=by
    intro v u bb sT h
    cases v with
    | bw ex sz n cs=>
     simp only [iA] at h ⊢;obtain ⟨b,o,c,arr,tt,rfl,rfl,g1,g2,g3,g4,g5,g6,g7,g8,g9⟩:=h;exact ⟨b,o,c,arr,tt,rfl,rfl,g1,g2,g3,fun hs=>(Uj b hs).elim g4 (sT b (by simp)),g5,g6,g7,CE k5 (fun _ _=>rfl) cs b o g9 rfl g8,g9⟩
    | _=>simp only [iA] at h ⊢;exact ⟨h.1,qI k5 (fun _ _=>rfl) _ _ h.2.2 h.2.1,h.2.2⟩
   clear k1 k2 k3 hl eX hn oD ko;revert hd h2;generalize b2=bb
   induction r generalizing t bb with
   | nil=>intro h2 hd;simpa only [kS] using h2
   | cons v' r ih=>
    intro h2 hd;simp only [kS] at h2 ⊢;obtain ⟨u',t',c1,c2,rfl,rfl,g1,g2⟩:=h2
    exact ⟨u',t',c1,c2,rfl,rfl,one (fun b hb=>hd b (by simp [hb])) g1,ih _ (by
     have:=Ni (vs:=r) (hp:=(fG hp ct v).2.1) (ct:=(fG hp ct v).2.2)
     exact this) _ g2 (fun b hb=>hd b (by simp [hb]))⟩
  obtain ⟨m2,S2,g1,g2,g3,g4,g5,g6⟩:=aeJ bk (vs:=r) (us:=t) (bs:=b2) (m:=m1) (S:=S1) k1 hl eX (IP hf) (fun id q1 q2=>by
   cases hq:m1 id with
   | none=>rfl
   | some p=>
    rcases k3 id p hq with h | ⟨_,h,_⟩
    ·rw [hn id (by omega) q2] at h;cases h
    ·omega) h2' ko.2.1 (fun j q hq hb=>by
     rcases k3 j q hq with h | ⟨_,_,h⟩
     ·exact oD j q h (by simp [hb])
     ·exact ko.2.2 q.b h q.b hb rfl)
  refine ⟨m2,S2,g1,k2.trans g2,fun id p ak=>?_,?_,fun b hb=>g5 b (k5 b hb),fun b hb=>?_⟩
  ·rcases g3 id p ak with h | ⟨a1,a2,a3⟩
   ·rcases k3 id p h with h | ⟨a1,a2,a3⟩
    ·exact .inl h
    ·exact .inr ⟨a1,by omega,by simp [a3]⟩
   ·exact .inr ⟨by omega,a2,by simp [a3]⟩
  ·simp only [aA];exact ⟨u,t,rfl,lY g2 g5 (fun _ _=>rfl) _ _ k4,g4⟩
  ·rcases g6 b hb with h | h
   ·exact (k6 b h).imp (fun h=>h) (fun h=>by simp [h])
   ·exact .inr (by simp [h])
def avU {hp:Hp} {ct lo:Nat} {r:AV} {u:yg} (hh:aW O m S w H cH) (hl:di (own hp ct r).2.1 H) (eX:(own hp ct r).2.2<=cH) (hf:∀id o,ay hp id=some o->id<ct)
  (hn:∀id,ct<=id->id<(own hp ct r).2.2->m id=none) (hr:nh O.ah S w lo r u) (bk:O.w0.heap.size<=lo) (La:∀j q,m j=some q->q.b<lo):
  ∃m' S',aW O m' S' w H cH/\dG m m'/\(∀id p,m' id=some p->m id=some p\/(ct<=id/\id<(own hp ct r).2.2/\lo<=p.b))/\ai O.ah m' S' w (own hp ct r).1 u/\(∀b,S b->S' b)/\(∀b,S' b->S b\/lo<=b):=by
 have one:∀(r:AV) (bs:List Nat),own hp ct r=fG hp ct r->iA O.ah S w lo r u bs->di (own hp ct r).2.1 H->(own hp ct r).2.2<=cH->(∀id,ct<=id->id<(own hp ct r).2.2->m id=none)->
   ∃m' S',aW O m' S' w H cH/\dG m m'/\(∀id p,m' id=some p->m id=some p\/(ct<=id/\id<(own hp ct r).2.2/\lo<=p.b))/\ai O.ah m' S' w (own hp ct r).1 u/\(∀b,S b->S' b)/\(∀b,S' b->S b\/lo<=b):=by
  intro r bs he hr hl eX hn;rw [he] at hl eX hn ⊢;have Du:=SD hr;obtain ⟨m',S',k1,k2,k3,k4,k5,k6⟩:=aeI hh hl eX hn hr bk (fun j q hq hb=>by have:=La j q hq;have:=(Du _ hb).1;omega)
  exact ⟨m',S',k1,k2,fun id p h=>(k3 id p h).imp (fun h=>h) (fun h=>⟨h.1,h.2.1,(Du _ h.2.2).1⟩),k4,k5,fun b hb=>(k6 b hb).imp (fun h=>h) (fun h=>(Du _ h).1)⟩
 cases r with
 | ae vs=>
  simp only [own] at hl eX hn ⊢;simp only [nh] at hr;obtain ⟨us,bs,rfl,h1,h2⟩:=hr;have Du:=SE h1;obtain ⟨m',S',k1,k2,k3,k4,k5,k6⟩:=aeJ bk hh hl eX hf hn h1 h2 (fun j q hq hb=>by have:=La j q hq;have:=(Du _ hb).1;omega)
  exact ⟨m',S',k1,k2,fun id p h=>(k3 id p h).imp (fun h=>h) (fun h=>⟨h.1,h.2.1,(Du _ h.2.2).1⟩),by simp only [ai];exact ⟨us,rfl,k4⟩,k5,fun b hb=>(k6 b hb).imp (fun h=>h) (fun h=>(Du _ h).1)⟩
 | _=>
  simp only [nh] at hr;obtain ⟨bs,hr⟩:=hr;exact one _ bs rfl hr hl eX hn
end
end
section
open Go
section
variable {O:bA} {m m':Mp} {S:Nat->Prop} {w:yi} {f:Nat->Option Nat}
def FA (f:Nat->Option Nat) (m m':Mp):Prop:=∀id j,f id=some j->m' j=m id
mutual
def aeK {ah:Nat->Nat} (hf:FA f m m'):∀(v:AV) (u:yg),ai ah m S w v u->ai ah m' S w (ck f v) u
 | .int _ _,_,h | .bool _,_,h | .bU _ _,_,h | .str _,_,h | .kR,_,h | .aa,_,h | .iZ,_,h | .kh,_,h | .undef,_,h=>by
  simpa only [ck,ai] using h
 | .ptr id o,u,h=>by
  simp only [ck]
  cases hi:f id with
  | none=>simp only [ai]
  | some j=>
   simp only [ai] at h ⊢;rw [hf id j hi];exact h
 | .cg cs,u,h=>by
  simp only [ck];exact qI (fun _ h=>h) (fun _ _=>rfl) _ _ (by simp [a7]) h
 | .aB ex n cs,u,h=>by
  simp only [ck];exact qI (fun _ h=>h) (fun _ _=>rfl) _ _ (by simp [a7]) h
 | .bw _ _ _ _,u,h=>by simp only [ai] at h
 | .aw id o n,u,h=>by
  simp only [ck]
  cases hi:f id with
  | none=>simp only [ai]
  | some j=>
   simp only [ai] at h ⊢;rw [hf id j hi];exact h
 | .fn (.f g) first cap,u,h=>by
  simp only [ck,ai] at h ⊢;obtain ⟨fi,ca,h1,h2,h3⟩:=h;exact ⟨fi,ca,h1,AY hf first _ h2,AY hf cap _ h3⟩
 | .fn (.y l) first cap,u,h=>by
  simp only [ck]
  cases hi:f l with
  | none=>simp only [ai]
  | some j=>
   simp only [ai] at h ⊢;rw [hf l j hi];exact h
 | .map id,u,h=>by
  simp only [ck]
  cases hi:f id with
  | none=>simp only [ai]
  | some j=>
   simp only [ai] at h ⊢;rw [hf id j hi];exact h
 | .jw ks vs,u,h=>by
  simp only [ck];exact qI (fun _ h=>h) (fun _ _=>rfl) _ _ (by simp [a7]) h
 | .it id,u,h=>by
  simp only [ck]
  cases hi:f id with
  | none=>simp only [ai]
  | some j=>
   simp only [ai] at h ⊢;rw [hf id j hi];exact h
 | .agg cs,u,h=>by
  simp only [ck,ai] at h ⊢;obtain ⟨xs,h1,h2⟩:=h;exact ⟨xs,h1,AY hf cs _ h2⟩
 | .ae cs,u,h=>by
  simp only [ck,ai] at h ⊢;obtain ⟨xs,h1,h2⟩:=h;exact ⟨xs,h1,AY hf cs _ h2⟩
def AY {ah:Nat->Nat} (hf:FA f m m'):∀(vs:List AV) (us:List yg),aA ah m S w vs us->aA ah m' S w (fo f vs) us
 | [],us,h=>by simpa only [fo,aA] using h
 | v::r,us,h=>by
  simp only [fo,aA] at h ⊢;obtain ⟨u,t,h1,h2,h3⟩:=h;exact ⟨u,t,h1,aeK hf v u h2,AY hf r t h3⟩
end
def apY {ah:Nat->Nat} (hf:FA f m m') {cs:List AV} {b o:Nat} (h:bW ah m S w cs b o):bW ah m' S w (fo f cs) b o:=by
 obtain ⟨us,h1,_,h3⟩:=zo cs b o h;exact EM _ us o (AY hf cs us h1) h3
def Sc:∀cs:List AV,(fo f cs).length=cs.length
 | []=>rfl
 | c::r=>by simp [fo,Sc r]
def adz:∀(tm:Env) (i:Nat),af (gm f tm) i=ck f (af tm i)
 | [],i=>by simp [gm,af,ck]
 | (j,v)::r,i=>by
  simp only [gm,af]
  cases yx j i with
  | true=>rfl
  | false=>exact adz r i
def acE (tm:Env) (i:Nat):∀live:List Nat,af (cC tm live) i=af tm i\/af (cC tm live) i= .undef
 | []=> .inr rfl
 | j::r=>by
  simp only [cC,af]
  cases hb:yx j i with
  | true=>rw [yt hb];exact .inl rfl
  | false=>exact acE tm i r
def adA {tm:Env} {tmps:Array yg} (hf:FA f m m') (h:cm O m S w tm tmps):cm O m' S w (gm f tm) tmps:=fun i=>by
 rw [adz];exact aeK hf _ _ (h i)
def arL {id j:Nat} {o:Obj} {p:Pl} (hf:FA f m m') (hm:m id=some p) (hj:m' j=some p) (h:fM O m S w id o):fM O m' S w j (ja f o):=by
 cases o with
 | cells rw pu ex sz cs=>
  obtain ⟨q,arr,t,h1,h2,h3,h4,h5,h6,h7,h8,h9,iQ⟩:=h;rw [hm] at h1;injection h1 with h1;subst h1
  cases pu with
  | true=>exact ⟨p,arr,t,hj,h2,h3,h4,h5,h6,CE (fun _ h=>h) (fun _ _=>rfl) _ _ _ (h8 rfl) rfl h7,h8,h9,iQ⟩
  | false=>exact ⟨p,arr,t,hj,h2,h3,by rw [yV,Sc];exact h4,h5,by rw [yV,Sc];exact h6,apY hf h7,by simp,h9,iQ⟩
 | mp rw ks vs=>
  obtain ⟨q,es,clock,h1,h2,h3,h4,h5,h6⟩:=h;rw [hm] at h1;injection h1 with h1;subst h1
  exact ⟨p,es,clock,hj,h2,AY hf _ _ h3,AY hf _ _ h4,h5,h6⟩
 | si s pos=>
  obtain ⟨q,t,h1,h2,h3,h4⟩:=h;rw [hm] at h1;injection h1 with h1;subst h1
  exact ⟨p,t,hj,h2,h3,h4⟩
 | lp tm ps cQ body st pe=>
  obtain ⟨q,l,hi,h1,h2,h3,h4,h5,h6,h7,h8⟩:=h;rw [hm] at h1;injection h1 with h1;subst h1
  exact ⟨p,l,hi,hj,h2,h3,h4,h5,h6,adA hf h7,h8⟩
def acF {i:Nat}:∀{l:List Nat} {k j:Nat},fh i l k=some j->k<=j/\l[j-k]? =some i
 | [],k,j,h=>by simp [fh] at h
 | x::r,k,j,h=>by
  simp only [fh] at h
  cases hb:yx x i with
  | true=>
   simp_all
  | false=>
   rw [hb] at h;obtain ⟨h1,h2⟩:=acF h
   grind
def zD {a b:Nat}:yR a b=true↔a<b:=by simp_all
def Mm {hp:Hp} {j:Nat} {o':Obj}:∀{l:List Nat} {k:Nat} {acc:Hp},ay (ib hp f l k acc) j=some o'->
  (∃i id o,l[i]? =some id/\j=k+i/\ay hp id=some o/\o'=ja f o)\/ay acc j=some o'
 | [],k,acc,h=> .inr h
 | x::r,k,acc,h=>by
  simp only [ib] at h
  cases hx:ay hp x with
  | none=>
   simp only [hx] at h;rcases Mm h with ⟨i,id,o,h1,h2,h3,h4⟩ | h
   ·exact .inl ⟨i+1,id,o,by simpa using h1,by omega,h3,h4⟩
   ·grind
  | some o=>
   simp only [hx] at h;rcases Mm h with ⟨i,id,o,h1,h2,h3,h4⟩ | h
   ·exact .inl ⟨i+1,id,o,by simpa using h1,by omega,h3,h4⟩
   ·rw [ix] at h;by_cases hc:k=j
    ·simp only [hc,xD,yd] at h;exact .inl ⟨0,x,o,by simp,by omega,hx,h.symm⟩
    ·grind
def Mn {base:Nat} {j:Nat} {o':Obj}:∀{hp:Hp},ay (mh base f hp) j=some o'->j<base/\∃o,ay hp j=some o/\o'=ja f o
 | [],h=>by simp [mh,ay] at h
 | (i,q)::r,h=>by
  simp only [mh] at h
  cases hb:yR i base with
  | true=>
   rw [hb] at h;simp only [yA] at h;rw [ix] at h;by_cases hc:i=j
   ·simp only [hc,xD,yd] at h;exact ⟨by rw [<-hc];exact zD.1 hb,q,by rw [ix];simp [hc],h.symm⟩
   ·simp only [hc,xi] at h;obtain ⟨h1,o,h2,h3⟩:=Mn h;exact ⟨h1,o,by rw [ix];simp [hc,h2],h3⟩
  | false=>
   rw [hb] at h;obtain ⟨h1,o,h2,h3⟩:=Mn h;have hc:¬i=j:=fun e=>by
    have:=zD.2 h1
    grind
   exact ⟨h1,o,by rw [ix];simp [hc,h2],h3⟩
def pD (m:Mp) (base:Nat) (seen:List Nat):Mp:=fun j=>
 if j<base then m j else match seen[j-base]? with
  | some id=>if kN base seen id=some j then m id else none
  | none=>none
def RU {base:Nat} {seen:List Nat} {j:Nat} {p:Pl} (h:pD m base seen j=some p):∃id,kN base seen id=some j/\m id=some p/\(j<base->id=j):=by
 unfold pD at h
 split at h
 ·rename_i hj;exact ⟨j,by simp [kN,zD.2 hj],h,fun _=>rfl⟩
 ·grind
def arM {base:Nat} {seen:List Nat}:FA (kN base seen) m (pD m base seen):=by
 intro id j h;have h0:=h;unfold kN at h
 cases hb:yR id base with
 | true=>
  rw [hb] at h;simp only [yA,yd] at h;subst h;simp [pD,zD.1 hb]
 | false=>
  rw [hb] at h;obtain ⟨h1,h2⟩:=acF h
  have:¬j<base:=by omega
  simp only [pD,this,xi,h2,h0,xD]
def RB {s:St} {tmps:Array yg} {live:List Nat} (ht:cm O m S w s.tm tmps) (hh:aW O m S w s.hp s.ct) (hb:s.base<=s.ct):
  ∃m',cm O m' S w (aJ live s).tm tmps/\aW O m' S w (aJ live s).hp (aJ live s).ct/\(aJ live s).base=s.base/\s.base<=(aJ live s).ct/\cp m S w s.hp m' S w (aJ live s).hp s.base:=by
 simp only [aJ];generalize ai7:reach s.hp s.base 100000 (fL (cC s.tm live)++jr s.base s.hp) []=seen;have hr:=arM (m:=m) (base:=s.base) (seen:=seen);have aZ:∀j p,pD m s.base seen j=some p->j<s.base+seen.length:=by
  intro j p h;unfold pD at h
  grind
 have back:∀j o' p,ay (ib s.hp (kN s.base seen) seen s.base (mh s.base (kN s.base seen) s.hp)) j=some o'->pD m s.base seen j=some p->
   ∃id o,kN s.base seen id=some j/\ay s.hp id=some o/\m id=some p/\o'=ja (kN s.base seen) o:=by
  intro j o' p ho hm;obtain ⟨id,h1,h2,h3⟩:=RU hm;rcases Mm ho with ⟨i,ZM,o,g1,g2,g3,g4⟩ | ho
  ·have hj:¬j<s.base:=by omega
   have:pD m s.base seen j=if kN s.base seen ZM=some j then m ZM else none:=by
    simp only [pD,hj,xi,show j-s.base=i by omega,g1]
   grind
  ·obtain ⟨g1,o,g2,g3⟩:=Mn ho
   grind
 refine ⟨pD m s.base seen,?_,⟨?_,aZ,?_,hh.slt,?_,?_,hh.lG,hh.fY,fun j o' ho=>(by
  rcases Mm ho with ⟨i,ZM,o,g1,g2,g3,g4⟩ | ho
  ·grind
  ·have:=(Mn ho).1;omega)⟩,by trivial,by omega,⟨rfl,rfl,rfl,yv _,fun _ _ _=>rfl,fun _ h=>h,fun _ _=>rfl,fun _ h=> .inl h,?_,?_,fun _ r h=>⟨r,h⟩⟩⟩
 ·refine adA hr (fun i=>?_);rcases acE s.tm i live with h | h
  ·rw [h];exact ht i
  ·rw [h];simp only [ai]
 ·intro j o' p ho hm;obtain ⟨id,o,h1,h2,h3,rfl⟩:=back j o' p ho hm;exact arL hr h3 hm (hh.obj id o p h2 h3)
 ·intro i j oi oj pi pj hi hj bS gH e;obtain ⟨idi,o1,a1,a2,a3,_⟩:=back i oi pi hi bS;obtain ⟨idj,o2,b1,b2,b3,_⟩:=back j oj pj hj gH
  have:=hh.inj idi idj o1 o2 pi pj a2 b2 a3 b3 e
  grind
 ·intro j p hm;obtain ⟨id,_,h2,_⟩:=RU hm;exact hh.blt id p h2
 ·intro j p hm;obtain ⟨id,_,h2,_⟩:=RU hm;exact hh.low id p h2
 ·rintro b ⟨j,o',p,h1,h2,h3⟩;obtain ⟨id,o,_,g2,g3,_⟩:=back j o' p h1 h2;exact .inl ⟨id,o,p,g2,g3,h3⟩
 ·intro id p hid hm;simp [pD,hid,hm]
end
end
section
open Go
section
variable {O:bA} {m:Mp} {S:Nat->Prop} {w:yi} {hp:Hp} {ct:Nat}
def adB (hh:aW O m S w hp ct) (id:Nat):aW O m S w (dK hp id) ct:=by
 have sub:∀i o,ay (dK hp id) i=some o->ay hp i=some o:=fun i o h=>by
  rw [Is] at h
  grind
 exact ⟨fun i o p h hm=>hh.obj i o p (sub i o h) hm,hh.lt,fun i j oi oj pi pj hi hj=>hh.inj i j oi oj pi pj (sub i oi hi) (sub j oj hj),hh.slt,hh.blt,hh.low,hh.lG,hh.fY,fun i o h=>hh.aZ i o (sub i o h)⟩
def aeL {id b:Nat} (h:ek m (dK hp id) b):ek m hp b:=by
 obtain ⟨i,o,p,h1,h2,h3⟩:=h;rw [Is] at h1;by_cases hc:id=i
 ·grind
 ·simp only [hc,xi] at h1;exact ⟨i,o,p,h1,h2,h3⟩
def abw (hh:aW O m S w hp ct) {id:Nat} {o:Obj} {p:Pl} (hg:ay hp id=some o) (hm:m id=some p):¬ek m (dK hp id) p.b:=by
 rintro ⟨i,o',q,h1,h2,h3⟩;rw [Is] at h1;by_cases hc:id=i
 ·grind
 ·simp only [hc,xi] at h1;exact hc (hh.inj i id o' o q p h1 hg h2 hm h3).symm
def atO {ak:Hp} (hd:jX hp ak) {b:Nat} (h:ek m ak b):ek m hp b:=by
 obtain ⟨i,o,p,h1,h2,h3⟩:=h
 have:=hd i
 rw [h1] at this
 cases hq:ay hp i with
 | none=>rw [hq] at this;cases this
 | some q=>exact ⟨i,q,p,hq,h2,h3⟩
def abV {lo:Nat} {v v':AV} {ak:Hp} {n:Nat} (hh:aW O m S w hp ct) (hf:freeze n hp v=some (v',ak)) {u:yg} (hv:ai O.ah m S w v u):
  ∃S',aW O m S' w ak ct/\(∀b,S b->S' b)/\(∀b,S' b->S b\/ek m hp b)/\a7 v'=true/\ai O.ah fa S' w v' u/\iA O.ah S' w lo v' u []:=by
 obtain ⟨h1,h2,h3⟩:=RP (O:=O) hf;obtain ⟨S',g1,g2,g3⟩:=aeC hh h1 (fun id o p ho hm=>by
  have:=h2 id
  rw [ho] at this
  cases hq:ay hp id with
  | none=>rw [hq] at this;cases this
  | some q=>exact ⟨q,rfl⟩) (yv _) (fun id o ho=>(by
  have:=h2 id
  rw [ho] at this
  cases hq:ay hp id with
  | none=>rw [hq] at this;cases this
  | some q=>exact hh.aZ id q hq))
 obtain ⟨k1,k2⟩:=h3 ak m S' w ct di.refl g1;have hr:=k1 u (lY (fun _ _ h=>h) g2 (fun _ _=>rfl) v u hv);have bJ:ai O.ah fa S' w v' u:=qI (fun _ h=>h) (fun _ _=>rfl) v' u k2 hr;refine ⟨S',g1,g2,g3,k2,bJ,?_⟩
 cases v' with
 | bw _ _ _ _=>simp [a7] at k2
 | _=>exact ⟨rfl,bJ,k2⟩
def apZ {S':Nat->Prop} {lo:Nat} {v:AV} {u:yg} {bs:List Nat} (hS:∀b,S b->S' b) (hn:∀b,b∈bs->¬S' b) (h:iA O.ah S w lo v u bs):iA O.ah S' w lo v u bs:=by
 cases v with
 | bw ex sz n cs=>
  obtain ⟨b,o,c,arr,t,rfl,rfl,g1,g2,g3,g4,g5,g6,g7,g8,g9⟩:=h;exact ⟨b,o,c,arr,t,rfl,rfl,g1,g2,g3,hn b (by simp),g5,g6,g7,CE hS (fun _ _=>rfl) cs b o g9 rfl g8,g9⟩
 | _=>simp only [iA] at h ⊢;exact ⟨h.1,qI hS (fun _ _=>rfl) _ _ h.2.2 h.2.1,h.2.2⟩
def acG {lo:Nat} {v v':AV} {ak:Hp} {n:Nat} (hh:aW O m S w hp ct) (hf:jY n hp v=some (v',ak)) {u:yg} (hv:ai O.ah m S w v u) (bk:∀b,ek m hp b->lo<=b):
  ∃S' bs,aW O m S' w ak ct/\(∀b,S b->S' b)/\(∀b,S' b->S b\/ek m hp b)/\iA O.ah S' w lo v' u bs/\bs.Nodup/\(∀b,b∈bs->ek m hp b/\¬ek m ak b)/\(∀b,ek m ak b->ek m hp b):=by
 have frozen:freeze n hp v=some (v',ak)->∃S' bs,aW O m S' w ak ct/\(∀b,S b->S' b)/\(∀b,S' b->S b\/ek m hp b)/\iA O.ah S' w lo v' u bs/\bs.Nodup/\(∀b,b∈bs->ek m hp b/\¬ek m ak b)/\(∀b,ek m ak b->ek m hp b):=by
  intro hz;obtain ⟨S',g1,g2,g3,g4,g5,g6⟩:=abV (lo:=lo) hh hz hv
  exact ⟨S',[],g1,g2,g3,g6,by simp,by simp,fun b hb=>atO (RP (O:=O) hz).2.1 hb⟩
 unfold jY at hf
 split at hf
 ·rename_i id o k
  split at hf
  ·rename_i ex sz cs hg
   cases hc:yG (o+k*sz) cs.length with
   | false=>rw [hc] at hf;cases hf
   | true=>
    rw [hc] at hf;obtain ⟨rfl,rfl⟩:=hf;have hle:=yz hc;obtain ⟨p,c,hm,rfl,h1,h2⟩:=hv;obtain ⟨p',arr,t,g1,g2,g3,g4,g5,g6,g7,g8,g9,g10⟩:=hh.obj id _ _ hg hm;rw [hm] at g1;injection g1 with g1
    subst g1;rw [g3] at h2;refine ⟨S,[p.b],adB hh id,fun _ h=>h,fun _ h=> .inl h,?_,by simp,?_,fun b hb=>aeL hb⟩
    ·refine ⟨p.b,p.o+o,c,arr,t,rfl,rfl,h1,?_,bk _ (I3 hg hm),g9 rfl,g2,?_,by omega,?_,CD _ (AR _ _ (g8 rfl))⟩
     ·intro hx;simp only [yh] at hx;have e1:=yt hx.2;have e2:=zD.1 hx.1.2;have e3:=g6 hx.1.1
      have:c*sz=k*sz:=by omega
      exact tG e2 this
     ·simp only [slice,yy,xN];omega
     ·exact CE (fun _ h=>h) (fun _ _=>rfl) _ _ _ (CD _ (AR _ _ (g8 rfl))) rfl (CF _ _ _ _ (rM _ _ _ _ g7))
    ·intro b hb;simp only [List.mem_singleton] at hb;subst hb;exact ⟨I3 hg hm,abw hh hg hm⟩
  ·grind
 ·grind
def abW {lo n:Nat}:∀{vs ej:List AV} {us:List yg} {hp ak:Hp} {S:Nat->Prop},aW O m S w hp ct->qM n hp vs=some (ej,ak)->aA O.ah m S w vs us->(∀b,ek m hp b->lo<=b)->
  ∃S' bs,(∀b,S b->S' b)/\(∀b,S' b->S b\/ek m hp b)/\kS O.ah S' w lo ej us bs/\bs.Nodup/\(∀b,b∈bs->ek m hp b)/\(∀b,S' b->b<w.heap.size)
 | [],ej,us,hp,ak,S,hh,hf,hv,bk=>by
  obtain ⟨rfl,rfl⟩:=hf;exact ⟨S,[],fun _ h=>h,fun _ h=> .inl h,by simp only [kS];exact ⟨hv,by trivial⟩,by simp,by simp,hh.slt⟩
 | v::r,ej,us,hp,ak,S,hh,hf,hv,bk=>by
  simp only [qM] at hf
  cases h1:jY n hp v with
  | none=>simp [h1] at hf
  | some q=>
   obtain ⟨v1,bl⟩:=q;simp only [h1] at hf
   cases h2:qM n bl r with
   | none=>simp [h2] at hf
   | some q2=>
    simp only [h2,yd,yq] at hf;obtain ⟨rfl,rfl⟩:=hf;obtain ⟨u,t,rfl,fb,dF⟩:=hv;obtain ⟨S1,b1,k1,k2,k3,k4,k5,k6,k7⟩:=acG (lo:=lo) hh h1 fb bk;obtain ⟨S2,b2,g1,g2,g3,g4,g5,g6⟩:=abW (us:=t) k1 h2 (iw (fun _ _ h=>h) k2 (fun _ _=>rfl) _ _ dF) (fun b hb=>bk b (k7 b hb));have Uj:∀b,b∈b1->¬S2 b:=by
     intro b hb hs;rcases g2 b hs with h | h
     ·cases v1 with
      | bw ex sz n cs=>
       simp only [iA] at k4
       grind
      | _=>simp only [iA] at k4;rw [k4.1] at hb;cases hb
     ·grind
    refine ⟨S2,b1++b2,fun b hb=>g1 b (k2 b hb),fun b hb=>?_,?_,?_,?_,g6⟩
    ·grind
    ·simp only [kS];exact ⟨u,t,b1,b2,rfl,rfl,apZ g1 Uj k4,g3⟩
    ·grind
    ·grind
def RW {lo:Nat}:∀{cs:List AV} {us:List yg},aK cs=true->aA O.ah fa S w cs us->kS O.ah S w lo cs us []
 | [],us,_,h=>by simp only [aA] at h;exact ⟨h,by trivial⟩
 | c::r,us,hp,h=>by
  obtain ⟨u,t,rfl,h1,h2⟩:=h;simp only [aK,yh] at hp;refine ⟨u,t,[],[],rfl,rfl,?_,RW hp.2 h2⟩
  cases c with
  | bw _ _ _ _=>simp [a7] at hp
  | _=>exact ⟨rfl,h1,hp.1⟩
def ap0 {lo:Nat} {v r:AV} {u:yg} (hh:aW O m S w hp ct) (hr:result hp v=some r) (hv:ai O.ah m S w v u) (bk:∀b,ek m hp b->lo<=b):
  ∃S',(∀b,S b->S' b)/\(∀b,S' b->S b\/ek m hp b)/\(∀b,S' b->b<w.heap.size)/\nh O.ah S' w lo r u:=by
 unfold result at hr
 split at hr
 ·rename_i vs
  split at hr
  ·cases h1:qM deep hp vs with
   | none=>simp [h1] at hr
   | some q=>
    simp only [h1,yd] at hr;subst hr;obtain ⟨us,rfl,hv⟩:=hv;obtain ⟨S',bs,g1,g2,g3,g4,g5,g6⟩:=abW (lo:=lo) hh h1 hv bk;exact ⟨S',g1,g2,g6,us,bs,rfl,g3,g4⟩
  ·cases h1:freeze deep hp (.ae vs) with
   | none=>simp [h1] at hr
   | some q=>
    obtain ⟨v',ak⟩:=q;simp only [h1,yd] at hr;subst hr;obtain ⟨S',g1,g2,g3,g4,g5,g6⟩:=abV (lo:=lo) hh h1 hv;refine ⟨S',g2,g3,g1.slt,?_⟩
    cases v' with
    | ae cs=>
     obtain ⟨xs,rfl,g5⟩:=g5;exact ⟨xs,[],rfl,RW (by simpa [a7] using g4) g5,by simp⟩
    | _=>exact ⟨[],g6⟩
 ·rename_i Qa
  cases h1:jY deep hp v with
  | none=>simp [h1] at hr
  | some q=>
   obtain ⟨v',ak⟩:=q;simp only [h1,yd] at hr;subst hr;obtain ⟨S',bs,g1,g2,g3,g4,_⟩:=acG (lo:=lo) hh h1 hv bk;refine ⟨S',g2,g3,g1.slt,?_⟩
   cases v' with
   | ae cs=>
    obtain ⟨rfl,h2,h3⟩:=g4;obtain ⟨xs,rfl,h2⟩:=h2;exact ⟨xs,[],rfl,RW (by simpa [a7] using h3) h2,by simp⟩
   | _=>exact ⟨bs,g4⟩
end
end
section
open Go
def WF (ro:Option Nat):Fence:={Fence.wide with round:=ro}
section
variable {O:bA}
def ahQ (O:bA) (hp:Hp) (ct:Nat) (l:Nat) (xs:List AV) (v:AV) (ak:Hp) (aP:Nat):Prop:=
 ∀(m:Mp) (S:Nat->Prop) (w:yi) (args:Array yg) (p:Pl),aW O m S w hp ct->m l=some p->aA O.ah m S w xs args.toList->
  ∃f tmps assign body,(Instr.yield p.b args).run O.P w= .ok (.round p.b f tmps assign body) w/\yaG Fence.wide 0 O.P p.b f tmps assign body w (zt O m S w hp ct v ak aP)
structure nN (O:bA) (run:cD):Prop where
 pure:∀n az r,bP O.prog O.aE run n az=some r->eH O n az r
 heap:∀hp ct n az v ak aP,hZ O.prog O.aE run hp ct n az=some (v,ak,aP)->Bo O n hp ct az v ak aP
 round:∀hp ct l xs v ak aP,nM run hp ct l xs=some (v,ak,aP)->ahQ O hp ct l xs v ak aP
end
section
variable {P:y9} {o:y8} {a:Act} {w:yi} {ro:Option Nat} {next:Act->yi->Prop} {Q:Exit->Act->yi->Prop}
def Mo {c:Call} {f:xz} (ho:o.op= .call c) (hc:c.callee= .value f) {g:yaP} {fi ca:Array yg} (hf:a.eval f= .func (.func g) fi ca) {R:tq->yi->Prop}
  (h:A4 P g (fi++c.args.map a.eval++ca) w R) (hn:∀e w',R e w'->∃u,e= .returned u/\next (a.put o.dst u) w'):o.wpIn (WF ro) 0 P a w next Q:=by
 have gQ:(o.semAt ro a.eval).run P w=(callFunc g (fi++c.args.map a.eval++ca)).run P w:=by
  rw [Oper.semAt_eq _ _ _ (fun c' h'=>by rw [ho] at h';cases h')];simp only [execOp,ho,resolve,hc,Deferred.ofValue,hf,Sem.run_bind,Sem.run_pure,Result.andThen_ok,invoke]
 refine ⟨fun _ _=>trivial,?_⟩;show o.uponIn (WF ro) 0 P a next Q ((o.semAt ro a.eval).run P w)
 rw [gQ];rcases h with ⟨h1,h2⟩ | ⟨u,w',h1,h2⟩
 ·rw [h1,Oper.uponIn_enter];refine ⟨fun h=>by simp [WF,Fence.wide] at h,?_⟩;have h3:CallsIn (WF ro) 0 P g (fi++c.args.map a.eval++ca) w R:=h2;refine CallsIn.mono h3 (fun e w' he=>?_);obtain ⟨u,rfl,hq⟩:=hn e w' he;exact hq
 ·rw [h1];obtain ⟨u',e,hq⟩:=hn _ _ h2;injection e with e
  subst e;exact hq
def arN {c:Call} {f:xz} (ho:o.op= .call c) (hc:c.callee= .value f) {l:Nat} (hf:a.eval f= .func (.yield l) #[] #[]) {R:tq->yi->Prop} {g:yaP} {tmps:Array yg} {assign body:Code}
  (hy:(Instr.yield l (c.args.map a.eval)).run P w= .ok (.round l g tmps assign body) w) (h:yaG Fence.wide 0 P l g tmps assign body w R) (hn:∀e w',R e w'->∃u,e= .returned u/\next (a.put o.dst u) w'):o.wpIn (WF ro) 0 P a w next Q:=by
 have gQ:(o.semAt ro a.eval).run P w= .ok (.round l g tmps assign body) w:=by
  rw [Oper.semAt_eq _ _ _ (fun c' h'=>by rw [ho] at h';cases h')];simp only [execOp,ho,resolve,hc,Deferred.ofValue,hf,Sem.run_bind,Sem.run_pure,Result.andThen_ok,invoke,Array.empty_append];exact hy
 refine ⟨fun _ _=>trivial,?_⟩;show o.uponIn (WF ro) 0 P a next Q ((o.semAt ro a.eval).run P w)
 rw [gQ,Oper.uponIn_round];refine ⟨fun h=>by simp [WF,Fence.wide] at h,?_⟩;have h3:yaG (WF ro) 0 P l g tmps assign body w R:=h;refine RoundIn.mono h3 (fun e w' he=>?_);obtain ⟨u,rfl,hq⟩:=hn e w' he;exact hq
def NC {n:yag} {u:yg} {w':yi} (hd:∀c,o.op≠.defer c) (h:(execOp a.eval o).run P w= .ok n w') (hn:n= .value u\/(n= .skip/\u=undef)) (hq:next (a.put o.dst u) w'):o.wpIn (WF ro) 0 P a w next Q:=by
 refine ⟨fun _ _=>trivial,?_⟩;show o.uponIn (WF ro) 0 P a next Q ((o.semAt ro a.eval).run P w)
 rw [Oper.semAt_eq _ _ _ hd,h];rcases hn with rfl | ⟨rfl,rfl⟩
 ·exact hq
 ·exact hq
end
def q8 (P:y9) (H:Hint) (q:Op) (o:y8):Prop:=
 (∃k,q=bc P H k o)\/(∃c f rs,o.op= .call c/\c.callee= .value f/\q= .iW rs (aS H f) (ig H c.args.toList))\/
  (∃t x y sz rs,o.op= .store t x y/\cR P t=some sz/\q= .jB rs sz (aS H x) (aS H y))\/
  ∃k rs sz b x y,Op.aR sz b x y=bc P H k o/\q= .kX rs sz b x y
def jv:Op->Op
 | .iW _ f xs=> .iW [] f xs
 | .jB _ s x v=> .st s x v
 | .kX _ s b x v=> .aR s b x v
 | o=>o
section
variable {O:bA} {H:Hint} {m:Mp} {S:Nat->Prop} {w:yi} {tm:Env} {a:Act} {hp:Hp} {ct:Nat} {self:cD} {ro:Option Nat} {next:Act->yi->Prop} {Q:Exit->Act->yi->Prop}
def Nk {o:y8} {k:Nat} {md:Md} {x:X} {xs:List X} (h:bc O.P H k o= .call md x xs) (hb:x≠.c .undef):∃c f,o.op= .call c/\c.callee= .value f/\x=aS H f/\xs=ig H c.args.toList:=by
 have nb:bad= .call md x xs->False:=fun h=>by simp only [bad,Op.call.injEq] at h;exact hb h.2.1.symm
 cases ho:o.op with
 | call c=>
  obtain ⟨callee,args,ts⟩:=c;simp only [bc,ho] at h
  split at h
  ·rename_i f;cases hm:H.mode k<;>simp only [hm,Op.call.injEq,reduceCtorEq] at h
   all_goals exact ⟨_,f,rfl,rfl,h.2.1.symm,h.2.2.symm⟩
  ·repeat' split at h
   all_goals first
    | exact (nb h).elim
    | (cases h;done)
    | (revert h;generalize yx _ _=bb;intro h;cases bb<;>first | exact (nb h).elim | (cases h;done))
  ·exact (nb h).elim
 | binOp op t x' y ty=>
  cases op<;>simp only [bc,ho,qQ,rW] at h
  case eql=>
        repeat' split at h
        all_goals first
         | exact (nb h).elim
         | (cases h;done)
         | (cases cK:(O.P.stoodInHeld t||O.P.eqGuardType O.P.depth t)<;>rw [cK] at h<;>first | exact (nb h).elim | (cases h;done))
  case neq=>
        repeat' split at h
        all_goals first
         | exact (nb h).elim
         | (cases h;done)
         | (cases cK:(O.P.stoodInHeld t||O.P.eqGuardType O.P.depth t)<;>rw [cK] at h<;>first | exact (nb h).elim | (cases h;done))
  all_goals cases h
 | buildSlice t n parts=>
  simp only [bc,ho] at h
  repeat' split at h
  all_goals first
   | exact (nb h).elim
   | (cases h;done)
   | (revert h;generalize yG _ _=bb;intro h;cases bb<;>first | exact (nb h).elim | (simp only [yA] at h;cases h;done))
 | makeMap t r=>
  cases r<;>simp only [bc,ho] at h
  ·repeat' split at h
   all_goals first
    | exact (nb h).elim
    | (cases h;done)
  ·exact (nb h).elim
 | next x' b=>
  cases b<;>simp only [bc,ho] at h
  ·exact (nb h).elim
  ·cases h
 | _=>
  simp only [bc,ho] at h
  (repeat' split at h)
  all_goals first
   | contradiction
   | exact (nb h).elim
   | (cases h;done)
def aoX {o:y8} {k:Nat} {r:AV×Hp×Nat} (hv:bf O.prog O.aE self tm hp ct (bc O.P H k o)=some r):∀c,o.op≠.defer c:=by
 intro c ho;simp [bc,ho,bad,bf,dO,aF] at hv
end
end
end VE
