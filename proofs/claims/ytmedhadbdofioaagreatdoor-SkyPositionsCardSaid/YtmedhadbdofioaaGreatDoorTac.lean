import Derived.Laws.Tables
import Derived.IntWalk
import Derived.Test.YtmedhadbdofioaaGreatDoorTab
set_option linter.all false
set_option maxRecDepth 100000
open Array renaming range→vZ
open Bool renaming and_eq_true→yg
open Go renaming Oper→yZ,Operand→xA,TypeId→yx,Value→yf,World→yi
open List renaming flatten_append→tA,flatten_cons→vG,range→xi,replicate→yz,replicate_succ→xW
open Nat renaming add_mul→wj,beq→yu,beq_refl→xq,ble→yG,eq_of_beq_eq_true→yp,le_of_ble_eq_true→yy,mul_comm→xE
open Option.some renaming injEq→yc
open Prod.mk renaming injEq→yk
namespace VE
section
open Go
section
variable {O:bA} {H:Hint} {m:Mp} {S:Nat->Prop} {w:yi} {tm:Env} {a:Act} {hp:Hp} {ct:Nat}
def Hu {o:yZ} {b:Builtin} {args:Array xA} {ts:Array yx} (ho:o.op= .call {callee:= .builtin b,args:=args,argTypes:=ts}):
  ∃cs,(execOp a.eval o).run O.P w=(builtin b ts o.type cs (args.map a.eval)).run O.P w:=by
 exact ⟨_,by simp only [execOp,ho,resolve,Sem.run_bind,Sem.run_pure,Result.andThen_ok,invoke];rfl⟩
def ake {o:yZ} {c:Call} {k:Nat} {v:AV} (hH:fT O H) (ht:cw O m S w tm a.tmps) (hh:bf O m S w hp ct) (ho:o.op= .call c)
  (hv:bE tm hp (bt O.P H k o)=some v):Reads O m S w a o v:=by
 obtain ⟨callee,args,ts⟩:=c;simp only [bt,ho] at hv
 split at hv
 ·cases Vx:H.mode k<;>simp [Vx,bE] at hv
 ·rename_i _ b
  split at hv
  ·have key:∀{bb:Bool} {sz by':Nat} {x y:X},bE tm hp (bif bb then .dL sz by' x y else bad)=some v->False:=by
    intro bb sz by' x y h
    cases bb
    ·exact dP h
    ·simp [bE] at h
   split at hv
   ·split at hv
    ·exact (key hv).elim
    ·simp_all
   ·split at hv
    ·exact (key hv).elim
    ·simp_all
   ·simp_all
  ·rename_i x t hX pC;obtain ⟨al⟩:=args;obtain ⟨tl⟩:=ts;simp only at hX pC;subst hX;subst pC;obtain ⟨cs,fN⟩:=Hu (O:=O) (w:=w) (a:=a) ho;have fin:(∃u,(Builtin.len_ #[t] o.type #[a.eval x]).run O.P w= .ok u w/\aj O.ai m S w v u)->Reads O m S w a o v:=by
    rintro ⟨u,h1,h2⟩;refine ⟨u,?_,h2⟩;rw [fN];simp [builtin,h1]
   split at hv
   ·rename_i n e hu;simp only [bE,aA,yc] at hv;subst hv;exact fin ⟨_,by simp [Builtin.len_,run_underlying hu];rfl,by simp [aj,goInt]⟩
   ·rename_i hu;simp only [bE] at hv;exact fin (SD hh (cI hH ht x) (.inl ⟨rfl,hu⟩) hv)
   ·rename_i e hu;simp only [bE] at hv;exact fin (SD hh (cI hH ht x) (.inr (.inl ⟨rfl,e,hu⟩)) hv)
   ·rename_i kt e hu;simp only [bE] at hv;exact fin (SD hh (cI hH ht x) (.inr (.inr ⟨rfl,kt,e,hu⟩)) hv)
   ·exact (dP hv).elim
  ·split at hv
   ·split at hv
    ·simp [bE] at hv
    ·exact (dP hv).elim
   ·exact (dP hv).elim
  ·simp only [bE] at hv;obtain ⟨cs,fN⟩:=Hu (O:=O) (w:=w) (a:=a) ho;have hl:=CA hH ht args.toList
   cases hx:dG tm (ia H args.toList) with
   | nil=>simp [hx] at hv
   | cons c r=>
    simp only [hx] at hv;rw [hx] at hl;simp only [au] at hl;obtain ⟨u,us,h1,h2,h3⟩:=hl;obtain ⟨q,h4,h5⟩:=R5 (O:=O) (g:=Builtin.min2) (fun va vb v x y hx hy h=>aoD hx hy h) r us c v u h2 h3 hv;refine ⟨q,?_,h5⟩;rw [fN];simp [builtin,Builtin.min_,h1,h4]
  ·simp only [bE] at hv;obtain ⟨cs,fN⟩:=Hu (O:=O) (w:=w) (a:=a) ho;have hl:=CA hH ht args.toList
   cases hx:dG tm (ia H args.toList) with
   | nil=>simp [hx] at hv
   | cons c r=>
    simp only [hx] at hv;rw [hx] at hl;simp only [au] at hl;obtain ⟨u,us,h1,h2,h3⟩:=hl;obtain ⟨q,h4,h5⟩:=R5 (O:=O) (g:=Builtin.max2) (fun va vb v x y hx hy h=>aoE hx hy h) r us c v u h2 h3 hv;refine ⟨q,?_,h5⟩;rw [fN];simp [builtin,Builtin.max_,h1,h4]
  ·exact (dP hv).elim
 ·exact (dP hv).elim
def Yt {kt:yx} {kk:Nat} {vk:AV} (hk:keyOf O.P kt=some kk) (h:sS kk vk=true):∃d,O.P.underlying kt=some d/\NT d=true/\fits d vk=true:=by
 unfold keyOf at hk
 split at hk
 ·rename_i hu;simp only [yc] at hk;subst hk;refine ⟨_,hu,rfl,?_⟩;cases vk<;>simp_all [sS,fits]
 ·rename_i hu;simp only [yc] at hk;subst hk;refine ⟨_,hu,rfl,?_⟩;cases vk<;>simp_all [sS,fits]
 ·rename_i hu;simp only [yc] at hk;subst hk;refine ⟨_,hu,rfl,?_⟩;cases vk<;>simp_all [sS,fits]
 ·cases hk
def abb {o:yZ} {k:Nat} {v:AV} (hH:fT O H) (ht:cw O m S w tm a.tmps) (hh:bf O m S w hp ct)
  (hv:bE tm hp (bt O.P H k o)=some v):Reads O m S w a o v:=by
 cases ho:o.op with
 | call c=>exact ake hH ht hh ho hv
 | binOp op t x y ty=>exact amc hH ht ho hv
 | move x=>
  simp only [bt,ho,bE,yc] at hv;subst hv;exact ⟨_,by simp only [execOp,ho,Sem.run_pure],cI hH ht x⟩
 | assign x=>
  simp only [bt,ho,bE,yc] at hv;subst hv;exact ⟨_,by simp only [execOp,ho,Sem.run_pure],cI hH ht x⟩
 | pick c x y=>
  simp only [bt,ho,bE] at hv;have rc:=cI hH ht c;cases hc:aA tm (aT H c)<;>rw [hc] at hv<;>simp only [reduceCtorEq] at hv
  rename_i b;rw [hc] at rc;simp only [aj] at rc;simp only [yc] at hv;subst hv
  cases b with
  | true=>exact ⟨a.eval x,by simp [execOp,ho,rc,asBool],cI hH ht x⟩
  | false=>exact ⟨a.eval y,by simp [execOp,ho,rc,asBool],cI hH ht y⟩
 | load t x=>
  simp only [bt,ho] at hv
  split at hv
  ·rename_i s ag hz ha;simp only [bE] at hv;exact jZ (by simp only [execOp,ho]) (atq hh hz ha (cI hH ht x) hv)
  ·exact (dP hv).elim
 | fieldAddr t x i=>
  simp only [bt,ho] at hv
  split at hv
  ·rename_i fs hu
   split at hv
   ·rename_i f hf
    split at hv
    ·rename_i s hz;simp only [bE] at hv;exact jZ (by simp only [execOp,ho]) (aqG hu hf hz (cI hH ht x) hv)
    ·exact (dP hv).elim
   ·exact (dP hv).elim
  ·exact (dP hv).elim
 | field t x i=>
  simp only [bt,ho] at hv
  split at hv
  ·rename_i fs hu
   split at hv
   ·rename_i f hf
    split at hv
    ·rename_i s ag hz ha;simp only [bE] at hv;exact jZ (by simp only [execOp,ho]) (aqH hu hf hz ha (cI hH ht x) hv)
    ·exact (dP hv).elim
   ·exact (dP hv).elim
  ·exact (dP hv).elim
 | nilCheck x=>
  simp only [bt,ho,bE] at hv;have rx:=cI hH ht x;cases hx:aA tm (aT H x)<;>rw [hx] at hv rx<;>simp only [reduceCtorEq,yc] at hv
  ·subst hv;have r':=rx;simp only [aj] at r';obtain ⟨p,_,e⟩:=r';exact ⟨a.eval x,by simp only [execOp,ho,e,Sem.run_pure],rx⟩
  ·subst hv;have r':=rx;simp only [aj] at r';obtain ⟨b,o',e,_⟩:=r';exact ⟨a.eval x,by simp only [execOp,ho,e,Sem.run_pure],rx⟩
  ·subst hv;rename_i f _ _
   cases f with
   | f g=>
    have r':=rx;simp only [aj] at r';obtain ⟨fi,ca,e,_⟩:=r';exact ⟨a.eval x,by simp only [execOp,ho,e,Sem.run_pure],rx⟩
   | y l=>
    have r':=rx;simp only [aj] at r';obtain ⟨p,_,e⟩:=r';exact ⟨a.eval x,by simp only [execOp,ho,e,Sem.run_pure],rx⟩
 | unOp op t x=>
  simp only [bt,ho,bE] at hv;exact jZ (by simp only [execOp,ho]) (aoC (cI hH ht x) hv)
 | convert s d x=>
  simp only [bt,ho] at hv
  split at hv
  ·rename_i k1 k2 hs hd;simp only [bE] at hv;exact jZ (by simp only [execOp,ho]) (Z9 hd (.inl ⟨_,hs⟩) (cI hH ht x) hv)
  ·rename_i k1 k2 hs hd;simp only [bE] at hv;exact jZ (by simp only [execOp,ho]) (Z9 hd (.inr ⟨_,hs⟩) (cI hH ht x) hv)
  ·rename_i k1 k2 hs hd;simp only [bE] at hv;exact jZ (by simp only [execOp,ho]) (aaa hd (.inl ⟨_,hs⟩) (cI hH ht x) hv)
  ·rename_i k1 k2 hs hd;simp only [bE] at hv;exact jZ (by simp only [execOp,ho]) (aaa hd (.inr ⟨_,hs⟩) (cI hH ht x) hv)
  ·rename_i hs hd;simp only [bE] at hv;exact jZ (by simp only [execOp,ho]) (al9 hd hs (cI hH ht x) hv)
  ·exact (dP hv).elim
 | makeFunc fn first cap=>
  cases fn with
  | func f=>
   simp only [bt,ho] at hv
   split at hv
   ·rename_i g hg;simp only [bE,yc] at hv;subst hv;refine ⟨.func (.func f) (first.map a.eval) (cap.map a.eval),by simp [execOp,ho,Instr.makeFunc],?_⟩;simp only [aj];exact ⟨_,_,by rw [hH f g hg],by simpa using CA hH ht first.toList,by simpa using CA hH ht cap.toList⟩
   ·exact (dP hv).elim
  | _=>simp only [bt,ho] at hv;exact (dP hv).elim
 | slice t x lo hi mx=>
  cases mx with
  | some q=>simp only [bt,ho] at hv;exact (dP hv).elim
  | none=>
   simp only [bt,ho] at hv
   split at hv
   ·rename_i hu;simp only [bE] at hv;exact jZ (by simp only [execOp,ho];rfl) (akc hH ht hu (cI hH ht x) hv)
   ·rename_i e hu
    split at hv
    ·rename_i s hz;simp only [bE] at hv;exact jZ (by simp only [execOp,ho];rfl) (ama hH ht hu hz hh (cI hH ht x) hv)
    ·exact (dP hv).elim
   ·split at hv
    ·simp only [bE] at hv;cases hx:aA tm (aT H x)<;>rw [hx] at hv<;>simp [fL] at hv
    ·exact (dP hv).elim
   ·exact (dP hv).elim
 | indexAddr t x i=>
  simp only [bt,ho] at hv
  split at hv
  ·rename_i e hu
   split at hv
   ·rename_i s hz;simp only [bE] at hv
    cases hk:dY (aA tm (aT H i)) with
    | none=>simp [hk] at hv
    | some j=>
     simp only [hk] at hv;exact jZ (by simp only [execOp,ho]) (aqI hu hz (cI hH ht x) (cI hH ht i) hk hv)
   ·exact (dP hv).elim
  ·rename_i n e hu
   split at hv
   ·rename_i s hz;simp only [bE] at hv
    cases hk:dY (aA tm (aT H i)) with
    | none=>simp [hk] at hv
    | some j=>
     simp only [hk] at hv;exact jZ (by simp only [execOp,ho]) (aqJ hu hz (cI hH ht x) (cI hH ht i) hk hv)
   ·exact (dP hv).elim
  ·exact (dP hv).elim
 | index t x i=>
  simp only [bt,ho] at hv
  split at hv
  ·rename_i hu;simp only [bE] at hv
   cases hk:dY (aA tm (aT H i)) with
   | none=>simp [hk] at hv
   | some j=>
    simp only [hk] at hv;exact jZ (by simp only [execOp,ho]) (aqL hu (cI hH ht x) (cI hH ht i) hk hv)
  ·rename_i n e hu
   split at hv
   ·rename_i s ag hz ha;simp only [bE] at hv
    cases hk:dY (aA tm (aT H i)) with
    | none=>simp [hk] at hv
    | some j=>
     simp only [hk] at hv;exact jZ (by simp only [execOp,ho]) (aqK hu hz ha (cI hH ht x) (cI hH ht i) hk hv)
   ·exact (dP hv).elim
  ·exact (dP hv).elim
 | lookup t x i ok=>
  simp only [bt,ho] at hv
  split at hv
  ·rename_i kt e hu
   split at hv
   ·rename_i kk z r9 hz;simp only [bE] at hv
    cases hf:sS kk (aA tm (aT H i)) with
    | false=>simp [hf] at hv
    | true=>
     simp only [hf,ym] at hv;obtain ⟨d,jB,dU,Kp⟩:=Yt r9 hf;obtain ⟨zv,lV,rfl⟩:=Em (w:=w) hz
     cases hr:Bb hp (aA tm (aT H i)) (aA tm (aT H x)) with
     | none=>simp [hr] at hv
     | some r=>
      refine jZ (by simp only [execOp,ho]) (aqM (ok:=ok) (r:=r) (z:=eR zv) hh hu jB dU Kp lV (cI hH ht x) (cI hH ht i) (MG zv) hr ?_);cases r<;>simpa [hr] using hv
   ·exact (dP hv).elim
  ·exact (dP hv).elim
 | extract x i=>
  simp only [bt,ho,bE] at hv;have rx:=cI hH ht x;cases hx:aA tm (aT H x)<;>rw [hx] at hv rx<;>simp only [reduceCtorEq] at hv
  simp only [aj] at rx;obtain ⟨xs,e,hr⟩:=rx;obtain ⟨u,h1,h2⟩:=RF hr hv;refine ⟨u,?_,h2⟩;have BP:xs[i]? =some u:=by simpa using h1
  simp [execOp,ho,e,Instr.extract,BP]
 | build t parts=>
  simp only [bt,ho] at hv
  split at hv
  ·rename_i fs z hu hz
   split at hv
   ·rename_i pl auT;have py:=run_places (P:=O.P) w fs.toList pl auT
    split at hv
    case h_2=>exact (dP hv).elim
    rename_i ps fD;simp only [bE] at hv
    cases hf:fill tm z ps with
    | none=>simp [hf] at hv
    | some cs=>
     simp only [hf,yc] at hv;subst hv;obtain ⟨zv,lV,iS⟩:=Em (w:=w) hz;have Ac:au O.ai m S w z zv.cells.toList:=by
      have:=D2 (ai:=O.ai) (m:=m) (S:=S) (w:=w) zv
      rw [<-iS] at this;exact this
     obtain ⟨out,h1,h2⟩:=MI hH ht (place:=fun i=>pl[i]?) parts.toList ps z cs zv.cells fD Ac hf;refine ⟨.agg out,?_,by simp only [aj];exact ⟨out,rfl,h2⟩⟩
     have hm:(Array.mapM (fun f=>Functor.map (Prod.mk f.offset) (Go.sizeOf f.type)) fs:Sem (Array (Nat×Nat))).run O.P w= .ok pl.toArray w:=by
      rw [Array.mapM_eq_mapM_toList];simp [py]
     simp [execOp,ho,Instr.build,lV,run_underlying hu,hm,h1]
   ·exact (dP hv).elim
  ·rename_i n e z hu hz
   split at hv
   ·rename_i s hs
    split at hv
    ·rename_i ps fD;simp only [bE] at hv
     cases hf:fill tm z ps with
     | none=>simp [hf] at hv
     | some cs=>
      simp only [hf,yc] at hv;subst hv;obtain ⟨zv,lV,iS⟩:=Em (w:=w) hz;have Ac:au O.ai m S w z zv.cells.toList:=by
       have:=D2 (ai:=O.ai) (m:=m) (S:=S) (w:=w) zv
       rw [<-iS] at this;exact this
      obtain ⟨out,h1,h2⟩:=MI hH ht (place:=fun i=>some (i*s,s)) parts.toList ps z cs zv.cells fD Ac hf;refine ⟨.agg out,?_,by simp only [aj];exact ⟨out,rfl,h2⟩⟩
      simp [execOp,ho,Instr.build,lV,run_underlying hu,nA hs,h1]
    ·exact (dP hv).elim
   ·exact (dP hv).elim
  ·exact (dP hv).elim
 | alloc t=>simp only [bt,ho] at hv;split at hv<;>simp [bE,bad] at hv
 | box t x=>simp only [bt,ho] at hv;split at hv<;>simp [bE,bad] at hv
 | buildSlice t n parts=>
  simp only [bt,ho] at hv
  split at hv
  ·split at hv
   ·rename_i s z _ _
    cases hc:yG (n*s) 16777216 with
    | false=>rw [hc] at hv;exact (dP hv).elim
    | true=>
     rw [hc] at hv;simp only [ym] at hv
     split at hv
     ·simp [bE] at hv
     ·exact (dP hv).elim
   ·exact (dP hv).elim
  ·exact (dP hv).elim
 | makeMap t r=>
  cases r<;>simp only [bt,ho] at hv
  ·repeat' split at hv
   all_goals simp [bE,bad] at hv
  ·exact (dP hv).elim
 | makeSlice t l c=>
  simp only [bt,ho] at hv
  repeat' split at hv
  all_goals simp [bE,bad] at hv
 | insert t x k y=>
  simp only [bt,ho] at hv
  repeat' split at hv
  all_goals simp [bE,bad] at hv
 | mapUpdate t x k y=>
  simp only [bt,ho] at hv
  repeat' split at hv
  all_goals simp [bE,bad] at hv
 | store t x y=>simp only [bt,ho] at hv;split at hv<;>simp [bE,bad] at hv
 | range t x=>simp only [bt,ho] at hv;split at hv<;>simp [bE,bad] at hv
 | next x b=>cases b<;>simp [bt,ho,bE,bad] at hv
 | _=>simp [bt,ho,bE,bad] at hv
end
end
section
open Go
def fO (m:Mp) (id:Nat) (p:Pl):Mp:=fun i=>if i=id then some p else m i
def eJ {m:Mp} {id:Nat} {p:Pl}:fO m id p id=some p:=by simp [fO]
def eI {m:Mp} {id i:Nat} {p:Pl} (h:i≠id):fO m id p i=m i:=by simp [fO,h]
section
variable {O:bA} {m:Mp} {S:Nat->Prop} {w:yi} {hp:Hp} {ct:Nat}
def dM (m m':Mp):Prop:=∀id p,m id=some p->m' id=some p
def dM.refl {m:Mp}:dM m m:=fun _ _ h=>h
def dM.trans {m m' Kn:Mp} (h:dM m m') (k:dM m' Kn):dM m Kn:=fun id p hp=>k id p (h id p hp)
def kN {i:Nat} (h:m i=none) {p:Pl}:dM m (fO m i p):=by
 intro id q hq;rw [eI]
 ·grind
 ·grind
def AN {tm:Env} {tmps:Array yf} {m':Mp} {S':Nat->Prop} {w':yi} (hm:∀id p,m id=some p->m' id=some p) (hS:∀b,S b->S' b) (hw:gm S w w')
  (h:cw O m S w tm tmps):cw O m' S' w' tm tmps:=fun i=>mi hm hS hw _ _ (h i)
def alloc_old {o:Go.Obj} {b:Nat} (hb:b<w.heap.size):(w.alloc o).heap[b]? =w.heap[b]? :=RowKit.Below.heap_alloc w o b hb
def rb {m':Mp} {S':Nat->Prop} {w':yi} {id:Nat} {o:Obj} (hm:∀id p,m id=some p->m' id=some p) (hS:∀b,S b->S' b) (hw:gm S w w') (hb:∀p,m id=some p->w'.heap[p.b]? =w.heap[p.b]?)
  (hn:∀p,m id=some p->S' p.b->S p.b) (h:fM O m S w id o):fM O m' S' w' id o:=by
 have rowAt:∀(cs:List AV) (b k:Nat),w'.heap[b]? =w.heap[b]? ->bW O.ai m S w cs b k->bW O.ai m' S' w' cs b k:=by
  intro cs
  induction cs with
  | nil=>intro b k _ _;simp only [bW]
  | cons c cs ih=>
   intro b k sd hr;obtain ⟨⟨u,h1,h2⟩,h3⟩:=hr;exact ⟨⟨u,(Lx sd).trans h1,mi hm hS hw _ _ h2⟩,ih b (k+1) sd h3⟩
 cases o with
 | cells rw pu ex sz cs=>
  obtain ⟨p,arr,t,h1,h2,h3,h4,h5,h6,h7,h8,h9,iT⟩:=h;exact ⟨p,arr,t,hm _ _ h1,(hb p h1).trans h2,h3,h4,h5,h6,rowAt cs p.b p.o (hb p h1) h7,h8,fun hr hs=>h9 hr (hn p h1 hs),fun hr=>hS _ (iT hr)⟩
 | mp rw ks vs=>
  obtain ⟨p,es,clock,h1,h2,h3,h4,h5,h6⟩:=h;exact ⟨p,es,clock,hm _ _ h1,(hb p h1).trans h2,iq hm hS hw _ _ h3,iq hm hS hw _ _ h4,fun hr hs=>h5 hr (hn p h1 hs),fun hr=>hS _ (h6 hr)⟩
 | si s pos=>
  obtain ⟨p,t,h1,h2,h3,h4⟩:=h;exact ⟨p,t,hm _ _ h1,(hb p h1).trans h2,h3,fun hs=>h4 (hn p h1 hs)⟩
 | lp tm ps as_ body st pe=>
  obtain ⟨p,l,hi,h1,h2,h3,h4,h5,h6,h7,h8⟩:=h;exact ⟨p,l,hi,hm _ _ h1,(hb p h1).trans h2,fun hs=>h3 (hn p h1 hs),h4,h5,h6,AN hm hS hw h7,h8⟩
def ir {id i:Nat} {o:Obj}:ak ((id,o)::hp) i=if id=i then some o else ak hp i:=by
 simp only [ak]
 simp_all
def Hy (hh:bf O m S w hp ct) (g:Go.Obj):gm S w (w.alloc g):=fun b hb=>alloc_old (hh.slt b hb)
def jC:Obj->Obj->Prop
 | .cells rw pu ex sz cs,o'=>∃fc,o'= .cells fc pu ex sz cs/\(fc=true->rw=true)
 | .mp rw ks vs,o'=>∃fc,o'= .mp fc ks vs/\(fc=true->rw=true)
 | .si s pos,o'=>o'= .si s pos
 | .lp tm ps as_ body st pe,o'=>o'= .lp tm ps as_ body st pe
def jC.refl:∀o,jC o o
 | .cells rw _ _ _ _=>⟨rw,rfl,fun h=>h⟩
 | .mp rw _ _=>⟨rw,rfl,fun h=>h⟩
 | .si _ _=>rfl
 | .lp _ _ _ _ _ _=>rfl
def jC.trans {a b c:Obj} (h:jC a b) (k:jC b c):jC a c:=by
 cases a with
 | cells rw pu ex sz cs=>
  obtain ⟨r1,rfl,h1⟩:=h;obtain ⟨r2,rfl,h2⟩:=k;exact ⟨r2,rfl,fun h=>h1 (h2 h)⟩
 | mp rw ks vs=>
  obtain ⟨r1,rfl,h1⟩:=h;obtain ⟨r2,rfl,h2⟩:=k;exact ⟨r2,rfl,fun h=>h1 (h2 h)⟩
 | si s pos=>simp only [jC] at h;subst h;exact k
 | lp tm ps as_ body st pe=>simp only [jC] at h;subst h;exact k
def dw (hp ao:Hp):Prop:=∀id o,ak hp id=some o->∃o',ak ao id=some o'/\jC o o'
def dw.refl {hp:Hp}:dw hp hp:=fun _ o h=>⟨o,h,jC.refl o⟩
def dw.trans {a b c:Hp} (h:dw a b) (k:dw b c):dw a c:=fun id o ho=>
 let ⟨o1,h1,l1⟩:=h id o ho
 let ⟨o2,h2,l2⟩:=k id o1 h1
 ⟨o2,h2,l1.trans l2⟩
def ju:Obj->Prop
 | .cells rw _ _ _ _=>rw=false
 | .mp rw _ _=>rw=false
 | _=>False
def abc {ao:Hp} {bg:Nat} (hh:bf O m S w hp ct) (hl:dw hp ao) (hd:∀id o p,ak ao id=some o->m id=some p->∃o',ak hp id=some o') (fR:ct<=bg) (auU:∀id o,ak ao id=some o->id<bg):
  ∃S',bf O m S' w ao bg/\(∀b,S b->S' b)/\∀b,S' b->S b\/eE m hp b:=by
 refine ⟨fun b=>S b\/∃id p o,m id=some p/\p.b=b/\ak ao id=some o/\ju o,?_,fun b h=> .inl h,?_⟩
 ·refine ⟨?_,fun id p h=>Nat.lt_of_lt_of_le (hh.lt id p h) fR,?_,?_,hh.blt,hh.low,hh.lR,hh.gA,auU⟩
  ·intro id o' p lA hm;obtain ⟨o,ho⟩:=hd id o' p lA hm;obtain ⟨o'',h1,h2⟩:=hl id o ho;rw [lA] at h1;injection h1 with h1
   subst h1;have h3:=hh.obj id o p ho hm;have hS:∀b,S b->(S b\/∃id p o,m id=some p/\p.b=b/\ak ao id=some o/\ju o):=fun b h=> .inl h
   have n8:∀q,m id=some q->(∃id p o,m id=some p/\p.b=q.b/\ak ao id=some o/\ju o)->ju o':=by
    rintro q hq ⟨j,pj,oj,Vy,hj2,hj3,hj4⟩;obtain ⟨Kq,hj5⟩:=hd j oj pj hj3 Vy
    have:=hh.inj id j o Kq q pj ho hj5 hq Vy hj2.symm
    grind
   have aX:gm S w w:=fun _ _=>rfl
   cases o with
   | cells rw pu ex sz cs=>
    obtain ⟨fc,rfl,n9⟩:=h2;obtain ⟨q,arr,t,h1,h2,h3,h4,h5,h6,h7,h8,h9,iT⟩:=h3;refine ⟨q,arr,t,h1,h2,h3,h4,h5,h6,?_,h8,?_,?_⟩
    ·clear h4 h6 h8;revert h7;generalize q.o=k
     induction cs generalizing k with
     | nil=>intro _;simp only [bW]
     | cons c cs ih=>
      intro hr;simp only [bW] at hr ⊢;obtain ⟨⟨u,g1,g2⟩,g3⟩:=hr
      exact ⟨⟨u,g1,mi (fun _ _ h=>h) hS aX _ _ g2⟩,by
       have Ds:∀(cs:List AV) (b k:Nat),bW O.ai m S w cs b k->bW O.ai m (fun b=>S b\/∃id p o,m id=some p/\p.b=b/\ak ao id=some o/\ju o) w cs b k:=by
        intro cs
        induction cs with
        | nil=>intro b k _;simp only [bW]
        | cons c cs ih=>
         intro b k hr;simp only [bW] at hr ⊢;obtain ⟨⟨u,g1,g2⟩,g3⟩:=hr;exact ⟨⟨u,g1,mi (fun _ _ h=>h) hS aX _ _ g2⟩,ih b (k+1) g3⟩
       exact Ds _ _ _ g3⟩
    ·rintro hr (hs | hs)
     ·grind
     ·have:=n8 q h1 hs
      simp only [ju] at this
      grind
    ·intro hr;exact .inr ⟨id,q,_,h1,rfl,lA,hr⟩
   | mp rw ks vs=>
    obtain ⟨fc,rfl,n9⟩:=h2;obtain ⟨q,es,clock,h1,h2,h3,h4,h5,h6⟩:=h3;refine ⟨q,es,clock,h1,h2,iq (fun _ _ h=>h) hS aX _ _ h3,iq (fun _ _ h=>h) hS aX _ _ h4,?_,?_⟩
    ·rintro hr (hs | hs)
     ·grind
     ·have:=n8 q h1 hs
      simp only [ju] at this
      grind
    ·intro hr;exact .inr ⟨id,q,_,h1,rfl,lA,hr⟩
   | si s pos=>
    simp only [jC] at h2;subst h2;refine rb (fun _ _ h=>h) hS aX (fun _ _=>rfl) (fun q hq hs=>?_) h3;rcases hs with hs | hs
    ·grind
    ·exact (n8 q hq hs).elim
   | lp tm ps as_ body st pe=>
    simp only [jC] at h2;subst h2;refine rb (fun _ _ h=>h) hS aX (fun _ _=>rfl) (fun q hq hs=>?_) h3;rcases hs with hs | hs
    ·grind
    ·exact (n8 q hq hs).elim
  ·intro i j oi oj pi pj hi hj bL gE e;obtain ⟨Kr,cu⟩:=hd i oi pi hi bL;obtain ⟨Kq,qK⟩:=hd j oj pj hj gE;exact hh.inj i j Kr Kq pi pj cu qK bL gE e
  ·rintro b (hb | ⟨id,p,o,h1,rfl,_,_⟩)
   ·exact hh.slt b hb
   ·exact hh.blt id p h1
 ·rintro b (hb | ⟨id,p,o,h1,rfl,h3,_⟩)
  ·exact .inl hb
  ·obtain ⟨o',lA⟩:=hd id o p h3 h1;exact .inr ⟨id,o',p,lA,h1,rfl⟩
def aac {i:Nat} (hh:bf O m S w hp ct) (hi:m i=none) (FI:i<ct) {g:Go.Obj} {p:Pl} (hb:p.b=w.heap.size)
  (hf:∀o,ak hp i=some o->(fM O (fO m i p) S (w.alloc g) i o/\¬ju o)\/
   (ju o/\fM O (fO m i p) (fun b=>S b\/b=w.heap.size) (w.alloc g) i o)):
  ∃S',bf O (fO m i p) S' (w.alloc g) hp ct/\(∀b,S b->S' b)/\∀b,S' b->S b\/b=w.heap.size:=by
 have fa:(w.alloc g).heap.size=w.heap.size+1:=by simp
 have bq:O.w0.heap.size<=w.heap.size:=hh.gA;have gen:∀S':Nat->Prop,(∀b,S b->S' b)->(∀b,S' b->S b\/b=w.heap.size)->(∀o,ak hp i=some o->fM O (fO m i p) S' (w.alloc g) i o)->bf O (fO m i p) S' (w.alloc g) hp ct:=by
  intro S' h1 h2 h3;have Ks:∀id q,m id=some q->¬q.b=w.heap.size:=fun id q hq=>by have:=hh.blt id q hq;omega
  refine ⟨?_,?_,?_,?_,?_,?_,?_,?_,hh.bi⟩
  ·intro id o q ho hm;by_cases hc:id=i
   ·grind
   ·rw [eI hc] at hm;refine rb (kN hi) h1 (Hy hh g) (fun q' cd=>alloc_old (hh.blt id q' cd)) (fun q' cd hs=>?_) (hh.obj id o q ho hm)
    grind
  ·intro id q hm;by_cases hc:id=i
   ·grind
   ·rw [eI hc] at hm;exact hh.lt id q hm
  ·intro a b oa ob pa pb ha cY Du zH e;by_cases ca:a=i
   ·by_cases cb:b=i
    ·grind
    ·subst ca;rw [eJ] at Du;rw [eI cb] at zH
     grind
   ·rw [eI ca] at Du;by_cases cb:b=i
    ·subst cb;rw [eJ] at zH
     grind
    ·rw [eI cb] at zH;exact hh.inj a b oa ob pa pb ha cY Du zH e
  ·intro b hs;rcases h2 b hs with h | h
   ·have:=hh.slt b h;omega
   ·omega
  ·intro id q hm;by_cases hc:id=i
   ·subst hc;rw [eJ] at hm
    grind
   ·rw [eI hc] at hm
    have:=hh.blt id q hm
    omega
  ·intro id q hm;by_cases hc:id=i
   ·subst hc;rw [eJ] at hm
    grind
   ·rw [eI hc] at hm;exact hh.low id q hm
  ·intro b sd;exact (alloc_old (by omega)).trans (hh.lR b sd)
  ·omega
 cases ho:ak hp i with
 | none=>exact ⟨S,gen S (fun _ h=>h) (fun _ h=> .inl h) (fun o h=>by rw [ho] at h;cases h),fun _ h=>h,fun _ h=> .inl h⟩
 | some o=>
  rcases hf o ho with ⟨h1,_⟩ | ⟨_,h1⟩
  ·exact ⟨S,gen S (fun _ h=>h) (fun _ h=> .inl h) (fun o' h=>by rw [ho] at h;injection h with h;subst h;exact h1),fun _ h=>h,fun _ h=> .inl h⟩
  ·exact ⟨_,gen (fun b=>S b\/b=w.heap.size) (fun _ h=> .inl h) (fun _ h=>h) (fun o' h=>by rw [ho] at h;injection h with h;subst h;exact h1),fun _ h=> .inl h,fun _ h=>h⟩
def X4 {id:Nat} {o o':Obj} {p:Pl} (hl:jC o o') (hm:m id=some p) (h:fM O m S w id o) (hn:¬ju o):
  (fM O m S w id o'/\¬ju o')\/(ju o'/\fM O m (fun b=>S b\/b=p.b) w id o'):=by
 have hS:∀b,S b->(S b\/b=p.b):=fun _ h=> .inl h
 have aX:gm S w w:=fun _ _=>rfl
 cases o with
 | cells rw pu ex sz cs=>
  obtain ⟨fc,rfl,n9⟩:=hl
  cases fc with
  | true=>
   grind
  | false=>
   refine .inr ⟨rfl,?_⟩;obtain ⟨q,arr,t,h1,h2,h3,h4,h5,h6,h7,h8,h9,iT⟩:=h;rw [hm] at h1;injection h1 with h1
   subst h1;have Ds:∀(cs:List AV) (b k:Nat),bW O.ai m S w cs b k->bW O.ai m (fun b=>S b\/b=p.b) w cs b k:=by
    intro cs
    induction cs with
    | nil=>intro b k _;simp only [bW]
    | cons c cs ih=>
     intro b k hr;obtain ⟨⟨u,g1,g2⟩,g3⟩:=hr;exact ⟨⟨u,g1,mi (fun _ _ h=>h) hS aX _ _ g2⟩,ih b (k+1) g3⟩
   exact ⟨p,arr,t,hm,h2,h3,h4,h5,h6,Ds _ _ _ h7,h8,by simp,fun _=> .inr rfl⟩
 | mp rw ks vs=>
  obtain ⟨fc,rfl,n9⟩:=hl
  cases fc with
  | true=>
   grind
  | false=>
   refine .inr ⟨rfl,?_⟩;obtain ⟨q,es,clock,h1,h2,h3,h4,h5,h6⟩:=h;rw [hm] at h1;injection h1 with h1
   subst h1;exact ⟨p,es,clock,hm,h2,iq (fun _ _ h=>h) hS aX _ _ h3,iq (fun _ _ h=>h) hS aX _ _ h4,by simp,fun _=> .inr rfl⟩
 | si s pos=>simp only [jC] at hl;subst hl;exact .inl ⟨h,hn⟩
 | lp tm ps as_ body st pe=>simp only [jC] at hl;subst hl;exact .inl ⟨h,hn⟩
end
end
section
open Go
section
variable {O:bA} {H:Hint} {m:Mp} {S:Nat->Prop} {w:yi} {tm:Env} {a:Act} {hp:Hp} {ct cq:Nat}
def Q4 {ai:Nat->Nat} {b:Nat} {arr:Array yf} {t:yx} {fr:Nat×Nat} (hb:w.heap[b]? =some (.cells arr t fr)):∀(cs:List AV) (us:List yf) (o:Nat),
  au ai m S w cs us->(∀(j:Nat) (u:yf),us[j]? =some u->arr[o+j]? =some u)->bW ai m S w cs b o
 | [],us,o,_,_=>by simp only [bW]
 | c::cs,us,o,h,hu=>by
  simp only [au] at h;obtain ⟨u,r,rfl,h2,h3⟩:=h;simp only [bW];refine ⟨⟨u,?_,h2⟩,Q4 hb cs r (o+1) h3 (fun j v hv=>?_)⟩
  ·have:=hu 0 u (by simp)
   simpa [World.cell?,hb] using this
  ·have:=hu (j+1) v (by simpa using hv)
   rw [show o+1+j=o+(j+1) by omega];exact this
def aoF (hh:bf O m S w hp cq) {i:Nat} {arr:Array yf} {t:yx} {cs:List AV} {us:List yf} {pu ex:Bool} {sz:Nat} (hr:au O.ai m S w cs us)
  (hu:∀(j:Nat) (u:yf),us[j]? =some u->arr[j]? =some u) (hl:cs.length<=arr.size) (hex:ex=true->cs.length=arr.size) (ij:pu=true->aH cs=true)
  (m':Mp) (hm:dM m m') (hi:m' i=some ⟨w.heap.size,0,arr.size,sz⟩):fM O m' S (w.alloc (.cells arr t)) i (.cells true pu ex sz cs):=by
 refine ⟨⟨w.heap.size,0,arr.size,sz⟩,arr,t,hi,heap_alloc_new w _,rfl,hl,by simp,hex,?_,ij,?_,by simp⟩
 ·exact Q4 (heap_alloc_new w _) cs us 0 (iq hm (fun _ h=>h) (Hy hh _) _ _ hr) (by simpa using hu)
 ·intro _ hS
  have:=hh.slt _ hS
  simp at this
def CS (O:bA) (m:Mp) (S:Nat->Prop) (w:yi) (a:Act) (ct:Nat) (o:yZ) (v:AV) (b:Obj):Prop:=
 ∃u g p,(execOp a.eval o).run O.P w= .ok (.value u) (w.alloc g)/\p.b=w.heap.size/\¬ju b/\
  ∀m',dM m m'->m' ct=some p->fM O m' S (w.alloc g) ct b/\aj O.ai m' S (w.alloc g) v u
def Q5 {o:yZ} {arr:Array yf} {t:yx} {cs:List AV} {us:List yf} {pu ex:Bool} {sz:Nat} {v:AV} {u:yf} (hh:bf O m S w hp cq)
  (he:(execOp a.eval o).run O.P w= .ok (.value u) (w.alloc (.cells arr t))) (hr:au O.ai m S w cs us)
  (hu:∀(j:Nat) (u:yf),us[j]? =some u->arr[j]? =some u) (hl:cs.length<=arr.size) (hex:ex=true->cs.length=arr.size) (ij:pu=true->aH cs=true)
  (hv:∀m':Mp,m' ct=some ⟨w.heap.size,0,arr.size,sz⟩->aj O.ai m' S (w.alloc (.cells arr t)) v u):CS O m S w a ct o v (.cells true pu ex sz cs):=
 ⟨u,_,⟨w.heap.size,0,arr.size,sz⟩,he,rfl,by simp [ju],fun m' hm hi=>⟨aoF hh hr hu hl hex ij m' hm hi,hv m' hi⟩⟩
def aad {o:yZ} {t:yx} {x:yf} {vx v:AV} {b:Obj} {sz:Nat} (hh:bf O m S w hp cq) (he:(execOp a.eval o).run O.P w= .ok (.value (.pointer (some ⟨w.heap.size,0,none⟩))) (w.alloc (.cells x.cells t))) (hx:au O.ai m S w (cellsOf vx) x.cells.toList)
  (hv:(bif yu (cellsOf vx).length sz&&bK (cellsOf vx) then some (AV.ptr ct 0,Obj.cells true (aH (cellsOf vx)) true sz (cellsOf vx)) else none)=some (v,b)):CS O m S w a ct o v b:=by
 cases hc:(yu (cellsOf vx).length sz&&bK (cellsOf vx)) with
 | false=>rw [hc] at hv;cases hv
 | true=>
  rw [hc] at hv;obtain ⟨rfl,rfl⟩:=hv;have hlen:=iY _ _ hx;refine Q5 hh he hx (fun j u hj=>by simpa using hj) (by rw [<-hlen];simp) (fun _=>by rw [<-hlen];simp) (fun h=>h) (fun m' hi=>?_)
  simp only [aj];exact ⟨_,hi,by simp⟩
def amd {o:yZ} {t:yx} {r:Option xA} (hh:bf O m S w hp cq) (ho:o.op= .makeMap t r) (hr:r=none):CS O m S w a ct o (.map ct) (.mp true [] []):=by
 subst hr;refine ⟨.map (some w.heap.size),.map #[] 0,⟨w.heap.size,0,0,0⟩,by simp [execOp,ho,Instr.makeMap],rfl,by simp [ju],fun m' _ hi=>⟨?_,?_⟩⟩
 ·refine ⟨_,#[],0,hi,heap_alloc_new w _,by simp [au],by simp [au],?_,by simp⟩;intro _ hS
  have:=hh.slt _ hS
  simp at this
 ·simp only [aj];exact ⟨_,hi,rfl⟩
def akf {o:yZ} {t:yx} {x:xA} {s:List Nat} (hh:bf O m S w hp cq) (ho:o.op= .range t x) (hu:O.P.underlying t=some .string) (hx:aj O.ai m S w (.str s) (a.eval x)):
  CS O m S w a ct o (.it ct) (.si s 0):=by
 obtain ⟨b,e,rfl⟩:=hx;refine ⟨.pointer (some ⟨w.heap.size,0,none⟩),.stringIter b 0,⟨w.heap.size,0,0,0⟩,by simp [execOp,ho,Instr.range,run_underlying hu,e],rfl,by simp [ju],fun m' _ hi=>⟨?_,?_⟩⟩
 ·refine ⟨_,b,hi,heap_alloc_new w _,rfl,?_⟩;intro hS
  have:=hh.slt _ hS
  simp at this
 ·simp only [aj];exact ⟨_,hi,rfl⟩
end
def akg (zero:Array yf):(xi zero.size).map (fun j=>zero[j]!)=zero.toList:=by
 apply List.ext_getElem
 ·simp
 ·grind
def Yu (zero:Array yf):∀n:Nat,(xi (n*zero.size)).map (fun i=>zero[i%zero.size]!)=(yz n zero.toList).flatten
 | 0=>by simp
 | n+1=>by
  rw [wj,Nat.one_mul,List.range_add,List.map_append,Yu zero n,List.replicate_succ',tA]
  congr 1
  simp only [List.map_map,vG,List.flatten_nil,List.append_nil];rw [<-akg zero];apply List.map_congr_left;intro j hj;simp at hj;simp [Function.comp,xE n,Nat.mod_eq_of_lt hj]
def RH {ai:Nat->Nat} {m:Mp} {S:Nat->Prop} {w:yi} {cs:List AV} {us:List yf} (h:au ai m S w cs us):∀n,au ai m S w (yz n cs).flatten (yz n us).flatten
 | 0=>by simp [au]
 | n+1=>by rw [xW,xW,vG,vG];exact mf h (RH h n)
section
variable {O:bA} {H:Hint} {m:Mp} {S:Nat->Prop} {w:yi} {tm:Env} {a:Act} {hp:Hp} {ct cq:Nat}
def Ze (zero:Array yf) (n:Nat):(Array.map (fun i=>zero[i%zero.size]!) (vZ (n*zero.size))).toList=(yz n zero.toList).flatten:=by
 rw [<-Yu zero n]
 simp
def aae (tm:Env):∀(ps:List (Nat×Nat×X)) (zero cs:List AV),fill tm zero ps=some cs->cs.length=zero.length
 | [],zero,cs,h=>by simp only [fill,yc] at h;rw [h]
 | (o,sz,x)::r,zero,cs,h=>by
  simp only [fill] at h
  cases hc:(yu (cellsOf (aA tm x)).length sz&&yG (o+sz) zero.length&&bK (cellsOf (aA tm x))) with
  | false=>rw [hc] at h;cases h
  | true=>
   rw [hc] at h;simp only [yg] at hc;have h1:=yp hc.1.1;have h2:=yy hc.1.2;rw [aae tm r _ _ h];simp only [over,List.length_append,List.length_take,List.length_drop];omega
def Mi {α:Type} (l:List α):∀n,(yz n l).flatten.length=n*l.length
 | 0=>by simp
 | n+1=>by simp [xW,Mi l n,wj,Nat.add_comm]
def akh {o:yZ} {t e:yx} {n s:Nat} {z:AV} {parts:Array (Nat×xA)} {ps:List (Nat×Nat×X)} {v:AV} {b:Obj} (hH:fT O H) (ht:cw O m S w tm a.tmps) (hh:bf O m S w hp cq)
  (ho:o.op= .buildSlice t n parts) (hu:O.P.underlying t=some (.slice e)) (hs:cT O.P e=some s) (hz:mY O.P e=some z) (hn:n*s<=16777216)
  (fD:partsOf H (fun i=>some (i*s,s)) parts.toList=some ps)
  (hv:da tm hp ct (.bN n s (yz n (cellsOf z)).flatten ps)=some (v,b)):CS O m S w a ct o v b:=by
 simp only [da] at hv
 cases hf:fill tm (yz n (cellsOf z)).flatten ps with
 | none=>simp [hf] at hv
 | some cs=>
  simp only [hf] at hv
  cases hc:yu cs.length (n*s) with
  | false=>rw [hc] at hv;cases hv
  | true=>
   rw [hc] at hv;simp only [ym,yc,yk] at hv;obtain ⟨rfl,rfl⟩:=hv;have hlen:=yp hc;obtain ⟨zv,lV,rfl⟩:=Em (w:=w) hz;have Ac:au O.ai m S w (cellsOf (eR zv)) zv.cells.toList:=D2 zv;have Ad:=iY _ _ Ac;have pD:=aae tm ps _ _ hf;rw [Mi] at pD;have FJ:n*s=n*zv.cells.size:=by
    rw [<-hlen,pD,<-Ad];simp
   have key:∃zr:Array yf,(n*s=0->zr=#[])/\(n*s≠0->zr=zv.cells)/\au O.ai m S w (yz n (cellsOf (eR zv))).flatten ((vZ (n*s)).map (fun x=>zr[x%zr.size]!)).toList:=by
    by_cases h0:n*s=0
    ·refine ⟨#[],fun _=>rfl,fun h=>(h h0).elim,?_⟩
     have:(yz n (cellsOf (eR zv))).flatten=[]:=by
      apply List.eq_nil_of_length_eq_zero;rw [Mi,<-Ad];simp only [Array.length_toList];omega
     rw [this];simp [au,h0]
    ·refine ⟨zv.cells,fun h=>(h0 h).elim,fun _=>rfl,?_⟩;rw [FJ,Ze];exact RH Ac n
   obtain ⟨zr,Kt,nk,Ae⟩:=key;obtain ⟨out,h1,h2⟩:=MI hH ht (place:=fun i=>some (i*s,s)) parts.toList ps _ cs _ fD Ae hf;have rZ:=iY _ _ h2
   refine Q5 (arr:=out) (t:=e) (us:=out.toList) hh ?_ h2 (fun j u hj=>by simpa using hj) (by rw [<-rZ];simp) (fun _=>by rw [<-rZ];simp) (fun h=>h) (u:= .slice (some ⟨w.heap.size,0,none⟩) n n) ?_
   ·have kF:¬(n*s>2^24):=by omega
    by_cases h0:n*s=0
    ·have:=Kt h0
     subst this;simp only [h0] at h1;simp [execOp,ho,Instr.buildSlice,run_underlying hu,nA hs,h0,newRow] at h1 ⊢;simp [h1]
    ·have:=nk h0
     subst this;simp [execOp,ho,Instr.buildSlice,run_underlying hu,nA hs,h0,kF,lV,newRow] at h1 ⊢;simp [h1]
   ·intro m' hi;simp only [aj];refine ⟨_,n,hi,by simp,Nat.le_refl _,?_⟩;simp only [Nat.zero_add];rw [<-hlen,<-rZ];simp
def D3:∀{a b:List AV},aH a=true->aH b=true->aH (a++b)=true
 | [],_,_,h=>h
 | c::r,b,h,k=>by
  simp only [aH,yg] at h;simp only [List.cons_append,aH,yg];exact ⟨h.1,D3 h.2 k⟩
def Zf {z:List AV} (h:aH z=true):∀n,aH (yz n z).flatten=true
 | 0=>by simp [aH]
 | n+1=>by rw [xW,vG];exact D3 h (Zf h n)
def ame {o:yZ} {t e:yx} {s by':Nat} {z:AV} {l c:xA} {v:AV} {b:Obj} (hH:fT O H) (ht:cw O m S w tm a.tmps) (hh:bf O m S w hp cq)
  (ho:o.op= .makeSlice t l c) (hu:O.P.underlying t=some (.slice e)) (hs:cT O.P e=some s) (hb:BM O.P e=some by') (hz:mY O.P e=some z)
  (hv:da tm hp ct (.ig s by' (cellsOf z) (aT H l) (aT H c))=some (v,b)):CS O m S w a ct o v b:=by
 simp only [da] at hv
 cases hl:dY (aA tm (aT H l)) with
 | none=>simp [hl] at hv
 | some ln=>
  cases hc:dY (aA tm (aT H c)) with
  | none=>simp [hl,hc] at hv
  | some cn=>
   simp only [hl,hc] at hv
   cases hk:(yG ln cn&&(yG cn room&&(yG (cn*by') room&&(yu (cellsOf z).length s&&bK (cellsOf z))))) with
   | false=>rw [hk] at hv;cases hv
   | true=>
    rw [hk] at hv;simp only [ym,yc,yk] at hv;obtain ⟨rfl,rfl⟩:=hv;simp only [yg] at hk;have h1:=yy hk.1;have h2:=yy hk.2.1;have h3:=yy hk.2.2.1;have h4:=yp hk.2.2.2.1;simp only [room] at h2 h3;obtain ⟨kl,el⟩:=sU (cI hH ht l) hl;obtain ⟨kc,ec⟩:=sU (cI hH ht c) hc;obtain ⟨zv,lV,rfl⟩:=Em (w:=w) hz;have Ac:au O.ai m S w (cellsOf (eR zv)) zv.cells.toList:=D2 zv;have Ad:=iY _ _ Ac;have Ku:zv.cells.size=s:=by rw [<-h4,<-Ad];simp
    have wrapN:∀k:Nat,k<=1099511627776->IntKind.i64.wrap (k:Int)=k:=fun k hk=>IntWalk.i64_in _ (by omega)
    obtain ⟨ti,Af,fa,Vz⟩:∃ti,O.P.info? e=some ti/\ti.size=s/\ti.bytes=by':=by
     unfold cT at hs;unfold BM at hb
     cases hi:O.P.info? e with
     | none=>simp [hi] at hs
     | some ti=>simp only [hi,yc] at hs hb;exact ⟨ti,rfl,hs,hb⟩
    have CY:((vZ (cn*s)).map (zv.cells[·%zv.cells.size]!)).toList=(yz ln zv.cells.toList).flatten++(yz (cn-ln) zv.cells.toList).flatten:=by
     rw [<-Ku,Ze,<-tA,List.replicate_append_replicate]
     grind
    have iR:(yz ln (cellsOf (eR zv))).flatten.length=ln*s:=by rw [Mi,h4]
    have hmul:ln*s<=cn*s:=Nat.mul_le_mul_right _ h1
    refine Q5 (arr:=(vZ (cn*s)).map (zv.cells[·%zv.cells.size]!)) (t:=e) (us:=(yz ln zv.cells.toList).flatten) hh (u:= .slice (some ⟨w.heap.size,0,none⟩) ln cn) ?_
     (RH Ac ln) ?_ ?_ ?_ (fun h=>?_) ?_
    ·have aAU:by'*cn<=1099511627776:=by rw [xE];exact h3
     have se:((by'*cn:Nat):Int)<=1099511627776:=by omega
     rw [Int.natCast_mul] at se;have hlc:(ln:Int)<=(cn:Int):=by omega
     have g1:¬(281474976710656<(by':Int)*(cn:Int)):=by omega
     have g2:¬(((ln:Int)<0)):=by omega
     have g3:¬(((cn:Int)<0)):=by omega
     have g4:¬((ln:Int)>(cn:Int)):=by omega
     by_cases h0:cn*s=0
     ·simp [execOp,ho,Instr.makeSlice,run_underlying hu,el,ec,asInt,asIntOf,typeInfo,Af,Vz,wrapN ln (by omega),wrapN cn h2,g1,g2,g3,g4,nA hs,h0,newRow,askRoom,roomBytes]
      grind
     ·simp [execOp,ho,Instr.makeSlice,run_underlying hu,el,ec,asInt,asIntOf,typeInfo,Af,Vz,wrapN ln (by omega),wrapN cn h2,g1,g2,g3,g4,nA hs,h0,newRow,askRoom,roomBytes,lV]
    ·intro j u hj
     have:((vZ (cn*s)).map (zv.cells[·%zv.cells.size]!)).toList[j]? =some u:=by
      grind
     grind
    ·grind
    ·simp_all
    ·exact Zf h ln
    ·intro m' hi;simp only [aj];refine ⟨_,cn,hi,by simp,h1,?_⟩
     simp
def aoG {o:yZ} {k:Nat} {v:AV} {b:Obj} (hH:fT O H) (ht:cw O m S w tm a.tmps) (hh:bf O m S w hp cq)
  (hv:da tm hp ct (bt O.P H k o)=some (v,b)):CS O m S w a ct o v b:=by
 cases ho:o.op with
 | call c=>
  obtain ⟨callee,args,ts⟩:=c;simp only [bt,ho] at hv
  repeat' split at hv
  all_goals first
   | (simp [da,bad] at hv;done)
   | (revert hv;generalize yu _ _=bb;intro hv;cases bb<;>simp [da,bad] at hv)
 | alloc t=>
  simp only [bt,ho] at hv
  split at hv
  ·rename_i s z hs hz;obtain ⟨zv,lV,rfl⟩:=Em (w:=w) hz
   exact aad (x:=zv) (t:=t) hh (by simp [execOp,ho,Instr.alloc,lV,newVar,newRow]) (D2 zv) (by simpa only [da,aA] using hv)
  ·simp [da,bad] at hv
 | box t x=>
  simp only [bt,ho] at hv
  split at hv
  ·rename_i s hs;simp only [da] at hv
   cases hc:(yu (cellsOf (aA tm (aT H x))).length s&&bK (cellsOf (aA tm (aT H x)))) with
   | false=>rw [hc] at hv;cases hv
   | true=>
    have h1:=hc;simp only [yg] at h1
    exact aad (x:=a.eval x) (t:=t) hh (by simp [execOp,ho,Instr.box,newVar,newRow]) (Q3 (cI hH ht x) h1.2) hv
  ·simp [da,bad] at hv
 | buildSlice t n parts=>
  simp only [bt,ho] at hv
  split at hv
  ·rename_i e hu
   split at hv
   ·rename_i s z hs hz
    cases hc:yG (n*s) 16777216 with
    | false=>rw [hc] at hv;simp [da,bad] at hv
    | true=>
     rw [hc] at hv;simp only [ym] at hv
     split at hv
     ·rename_i ps fD;exact akh hH ht hh ho hu hs hz (yy hc) fD hv
     ·simp [da,bad] at hv
   ·simp [da,bad] at hv
  ·simp [da,bad] at hv
 | makeSlice t l c=>
  simp only [bt,ho] at hv
  split at hv
  ·rename_i e hu
   split at hv
   ·rename_i s by' z hs hb hz
    exact ame hH ht hh ho hu hs hb hz hv
   ·simp [da,bad] at hv
  ·simp [da,bad] at hv
 | makeMap t r=>
  cases r with
  | some x=>simp [bt,ho,da,bad] at hv
  | none=>
   simp only [bt,ho] at hv
   repeat' split at hv
   all_goals first
    | (simp [da,bad] at hv;done)
    | (
      simp only [da,yc,yk] at hv;obtain ⟨rfl,rfl⟩:=hv
      exact amd hh ho rfl)
 | range t x=>
  simp only [bt,ho] at hv
  split at hv
  ·rename_i hu;simp only [da] at hv;have rx:=cI hH ht x;cases hx:aA tm (aT H x)<;>rw [hx] at hv rx<;>simp only [reduceCtorEq] at hv
   simp only [yc,yk] at hv;obtain ⟨rfl,rfl⟩:=hv;exact akf hh ho hu rx
  ·simp [da,bad] at hv
 | next x b=>cases b<;>simp [bt,ho,da,bad] at hv
 | binOp op t x y ty=>
  cases op<;>simp only [bt,ho,rn,sT] at hv
  case eql=>
        repeat' split at hv
        all_goals first
         | (simp [da,bad] at hv;done)
         | (cases hb:(O.P.stoodInHeld t||O.P.eqGuardType O.P.depth t)<;>rw [hb] at hv<;>simp [da,bad] at hv)
  case neq=>
        repeat' split at hv
        all_goals first
         | (simp [da,bad] at hv;done)
         | (cases hb:(O.P.stoodInHeld t||O.P.eqGuardType O.P.depth t)<;>rw [hb] at hv<;>simp [da,bad] at hv)
  all_goals simp [da] at hv
 | _=>
  simp only [bt,ho] at hv
  (repeat' split at hv)
  all_goals first
   | contradiction
   | (simp [da,bad] at hv;done)
end
end
section
open Go
def re {hp:Hp} {id i:Nat} {o:Obj}:ak (aW hp id o) i=if id=i then (if (ak hp id).isSome then some o else none) else ak hp i:=by
 induction hp with
 | nil=>simp [aW,ak]
 | cons x r ih=>
  obtain ⟨j,q⟩:=x;simp only [aW];by_cases hj:j=id
  ·subst hj;simp only [xq,ym,ak];by_cases hi:j=i
   ·simp_all
   ·have:yu j i=false:=by
     cases hq:yu j i with
     | false=>rfl
     | true=>exact absurd (yp hq) hi
    grind
  ·have hb:yu j id=false:=by
    cases hq:yu j id with
    | false=>rfl
    | true=>exact absurd (yp hq) hj
   simp only [hb,yA];rw [show ak ((j,q)::aW r id o) i=bif yu j i then some q else ak (aW r id o) i from rfl,ih];by_cases hi:j=i
   ·subst hi
    have:¬id=j:=fun h=>hj h.symm
    simp [xq,this,ak]
   ·have se:yu j i=false:=by
     cases hq:yu j i with
     | false=>rfl
     | true=>exact absurd (yp hq) hi
    simp [se,ak,hb]
def j0 (hp ao:Hp):Prop:=∀id,(ak ao id).isSome=(ak hp id).isSome
def j0.refl {hp:Hp}:j0 hp hp:=fun _=>rfl
def j0.trans {a b c:Hp} (h:j0 a b) (k:j0 b c):j0 a c:=fun id=>(k id).trans (h id)
def R6 {hp:Hp} {id:Nat} {o o':Obj} (h:ak hp id=some o) (hl:jC o o'):dw hp (aW hp id o')/\j0 hp (aW hp id o'):=by
 constructor
 ·intro i q hq;rw [re];by_cases hi:id=i
  ·grind
  ·exact ⟨q,by simp [hi,hq],jC.refl q⟩
 ·intro i;rw [re]
  grind
def Zg {hp H:Hp} {id:Nat} {pu ex:Bool} {sz:Nat} {cs:List AV} (hl:dw hp H) (h:ak hp id=some (.cells false pu ex sz cs)):ak H id=some (.cells false pu ex sz cs):=by
 obtain ⟨o',h1,fc,rfl,h2⟩:=hl id _ h
 cases fc with
 | false=>exact h1
 | true=>exact absurd (h2 rfl) (by simp)
section
variable {O:bA}
def ats (O:bA) (m:Mp) (S:Nat->Prop) (w:yi) (p:Pl) (ex:Bool) (sz:Nat) (cs:List AV):Prop:=
 p.z=sz/\cs.length<=p.e/\(ex=true->cs.length=p.e)/\S p.b/\aH cs=true/\bW O.ai m S w cs p.b p.o
def TD (O:bA) (ao:Hp) (v v':AV):Prop:=∀H m S w ct,dw ao H->bf O m S w H ct->(∀u,aj O.ai m S w v u->aj O.ai m S w v' u)/\aR v'=true
def aft (O:bA) (ao:Hp) (vs eD:List AV):Prop:=∀H m S w ct,dw ao H->bf O m S w H ct->(∀us,au O.ai m S w vs us->au O.ai m S w eD us)/\aH eD=true
def auV (O:bA) (ao:Hp) (id:Nat) (ex:Bool) (sz:Nat) (cs:List AV):Prop:=∀H m S w ct,dw ao H->bf O m S w H ct->∀p,m id=some p->ats O m S w p ex sz cs
def Eh {ai:Nat->Nat} {m:Mp} {S:Nat->Prop} {w:yi} {b:Nat}:∀(cs:List AV) (us:List yf) (o:Nat),au ai m S w cs us->
  (∀(j:Nat) (u:yf),us[j]? =some u->w.cell? ⟨b,o+j,none⟩=some u)->bW ai m S w cs b o
 | [],us,o,_,_=>by simp only [bW]
 | c::cs,us,o,h,hu=>by
  obtain ⟨u,r,rfl,h2,h3⟩:=h;refine ⟨⟨u,by simpa using hu 0 u (by simp),h2⟩,Eh cs r (o+1) h3 (fun j v hv=>?_)⟩;rw [show o+1+j=o+(j+1) by omega]
  simp_all
def att {m:Mp} {S:Nat->Prop} {w:yi} {cs dN:List AV} (h:∀us,au O.ai m S w cs us->au O.ai m S w dN us) {b o:Nat} (hr:bW O.ai m S w cs b o):bW O.ai m S w dN b o:=by
 obtain ⟨us,h1,_,h3⟩:=sM cs b o hr;exact Eh dN us o (h us h1) h3
def Cg:∀(k:Nat) {cs:List AV},aH cs=true->aH (cs.take k)=true
 | 0,_,_=>by simp [aH]
 | k+1,[],_=>by simp [aH]
 | k+1,c::cs,h=>by
  simp only [aH,yg,List.take_succ_cons] at h ⊢;exact ⟨h.1,Cg k h.2⟩
def amf {ao:Hp} {vs eD:List AV}:∀{n:Nat} {hp:Hp},cO n hp vs=some (eD,ao)->eD.length=vs.length:=by
 intro n
 induction n generalizing vs eD ao with
 | zero=>intro hp h;simp [cO] at h
 | succ n ih=>
  intro hp h
  cases vs with
  | nil=>simp only [cO,yc,yk] at h;rw [<-h.1]
  | cons v r=>
   simp only [cO] at h
   cases h1:freeze n hp v with
   | none=>simp [h1] at h
   | some q=>
    obtain ⟨v',bF⟩:=q;simp only [h1] at h
    cases h2:cO n bF r with
    | none=>simp [h2] at h
    | some q2=>
     grind
def Yv:∀n:Nat,
  (∀hp v v' ao,freeze n hp v=some (v',ao)->dw hp ao/\j0 hp ao/\TD O ao v v')/\
  (∀hp id ex sz cs ao,q9 n hp id=some (ex,sz,cs,ao)->dw hp ao/\j0 hp ao/\auV O ao id ex sz cs)/\
  (∀hp vs eD ao,cO n hp vs=some (eD,ao)->dw hp ao/\j0 hp ao/\aft O ao vs eD):=by
 intro n
 induction n with
 | zero=>refine ⟨?_,?_,?_⟩<;>intros<;>simp_all [freeze,q9,cO]
 | succ n ih=>
  obtain ⟨ihV,ihB,FK⟩:=ih;refine ⟨?_,?_,?_⟩
  ·intro hp v v' ao h;have plain:∀{v v':AV} {hp ao:Hp},(bif aR v then some (v,hp) else none)=some (v',ao)->dw hp ao/\j0 hp ao/\TD O ao v v':=by
    intro v v' hp ao h
    cases hc:aR v with
    | false=>rw [hc] at h;cases h
    | true=>
     rw [hc] at h;simp only [ym,yc,yk] at h;obtain ⟨rfl,rfl⟩:=h;exact ⟨dw.refl,j0.refl,fun _ _ _ _ _ _ _=>⟨fun _ h=>h,hc⟩⟩
   cases v<;>simp only [freeze] at h<;>first | exact plain h | skip
   case an id o k=>
    cases hb:q9 n hp id with
    | none=>simp [hb] at h
    | some q=>
     obtain ⟨ex,sz,cs,bF⟩:=q;simp only [hb] at h
     cases hc:yG (o+k*sz) cs.length with
     | false=>rw [hc] at h;cases h
     | true=>
      rw [hc] at h;simp only [ym,yc,yk] at h;obtain ⟨rfl,rfl⟩:=h;have hle:=yy hc;obtain ⟨h1,h2,h3⟩:=ihB _ _ _ _ _ _ hb;refine ⟨h1,h2,fun H m S w ct hl hh=>⟨fun u hu=>?_,by simp only [aR]⟩⟩;simp only [aj] at hu ⊢;obtain ⟨p,c,hm,rfl,Ag,Ph⟩:=hu;obtain ⟨g1,g2,g3,g4,g5,g6⟩:=h3 H m S w ct hl hh p hm;refine .inl ⟨p.b,p.o+o,c,rfl,Ag,?_,.inr g4,Cg _ (AL _ _ g5),Ci _ _ _ _ (qZ _ _ _ _ g6)⟩;intro hx;simp only [yg] at hx;have e1:=yp hx.2;have e2:0<sz:=by
       simp_all
      have e3:=g3 hx.1.1;rw [g1] at Ph
      have:c*sz=k*sz:=by omega
      exact Nat.eq_of_mul_eq_mul_right e2 this
   case ptr id o=>
    cases hb:q9 n hp id with
    | none=>simp [hb] at h
    | some q=>
     obtain ⟨ex,sz,cs,bF⟩:=q;simp only [hb,yc,yk] at h;obtain ⟨rfl,rfl⟩:=h;obtain ⟨h1,h2,h3⟩:=ihB _ _ _ _ _ _ hb;refine ⟨h1,h2,fun H m S w ct hl hh=>⟨fun u hu=>?_,by simp only [aR]⟩⟩;simp only [aj] at hu ⊢;obtain ⟨p,hm,rfl⟩:=hu;obtain ⟨g1,g2,g3,g4,g5,g6⟩:=h3 H m S w ct hl hh p hm;exact ⟨p.b,p.o+o,rfl,.inr g4,AL _ _ g5,qZ _ _ _ _ g6⟩
   case map id=>
    cases hg:ak hp id with
    | none=>simp [hg] at h
    | some ob=>
     cases ob<;>simp only [hg,reduceCtorEq] at h
     rename_i rw ks vs
     cases hc:(aH ks&&aH vs) with
     | false=>rw [hc] at h;cases h
     | true=>
      rw [hc] at h;simp only [ym,yc,yk] at h;obtain ⟨rfl,rfl⟩:=h;simp only [yg] at hc;obtain ⟨h1,h2⟩:=R6 hg (o':= .mp false ks vs) ⟨false,rfl,by simp⟩;refine ⟨h1,h2,fun H m S w ct hl hh=>⟨fun u hu=>?_,by simp only [aR]⟩⟩;simp only [aj] at hu ⊢;obtain ⟨p,hm,rfl⟩:=hu;have hq:ak (aW hp id (.mp false ks vs)) id=some (.mp false ks vs):=by rw [re];simp [hg]
      obtain ⟨o',h3,fc,rfl,h4⟩:=hl id _ hq;have n9:fc=false:=by cases fc with | false=>rfl | true=>exact absurd (h4 rfl) (by simp)
      subst n9;obtain ⟨p',es,clock,g1,g2,g3,g4,g5,g6⟩:=hh.obj id _ _ h3 hm;rw [hm] at g1;injection g1 with g1
      subst g1;exact ⟨p.b,es,clock,rfl,g6 rfl,hc.1,hc.2,g2,g3,g4⟩
   case fn f first cap=>
    cases f with
    | y l=>simp only [aR,yA,reduceCtorEq] at h
    | f g=>
     simp only at h
     cases h1:cO n hp first with
     | none=>simp [h1] at h
     | some q=>
      obtain ⟨ab4,bF⟩:=q;simp only [h1] at h
      cases h2:cO n bF cap with
      | none=>simp [h2] at h
      | some q2=>
       obtain ⟨NQ,gC⟩:=q2;simp only [h2,yc,yk] at h;obtain ⟨rfl,rfl⟩:=h;obtain ⟨a1,a2,a3⟩:=FK _ _ _ _ h1;obtain ⟨b1,b2,b3⟩:=FK _ _ _ _ h2;refine ⟨a1.trans b1,a2.trans b2,fun H m S w ct hl hh=>?_⟩;obtain ⟨c1,c2⟩:=a3 H m S w ct (b1.trans hl) hh;obtain ⟨d1,d2⟩:=b3 H m S w ct hl hh;refine ⟨fun u hu=>?_,by simp [aR,c2,d2]⟩;simp only [aj] at hu ⊢;obtain ⟨fi,ca,rfl,e1,e2⟩:=hu;exact ⟨fi,ca,rfl,c1 _ e1,d1 _ e2⟩
   case agg cs=>
    cases h1:cO n hp cs with
    | none=>simp [h1] at h
    | some q=>
     obtain ⟨dN,bF⟩:=q;simp only [h1,yc,yk] at h;obtain ⟨rfl,rfl⟩:=h;obtain ⟨a1,a2,a3⟩:=FK _ _ _ _ h1;refine ⟨a1,a2,fun H m S w ct hl hh=>?_⟩;obtain ⟨c1,c2⟩:=a3 H m S w ct hl hh;refine ⟨fun u hu=>?_,by simpa [aR] using c2⟩;simp only [aj] at hu ⊢;obtain ⟨xs,rfl,e1⟩:=hu;exact ⟨xs,rfl,c1 _ e1⟩
   case ap cs=>
    cases h1:cO n hp cs with
    | none=>simp [h1] at h
    | some q=>
     obtain ⟨dN,bF⟩:=q;simp only [h1,yc,yk] at h;obtain ⟨rfl,rfl⟩:=h;obtain ⟨a1,a2,a3⟩:=FK _ _ _ _ h1;refine ⟨a1,a2,fun H m S w ct hl hh=>?_⟩;obtain ⟨c1,c2⟩:=a3 H m S w ct hl hh;refine ⟨fun u hu=>?_,by simpa [aR] using c2⟩;simp only [aj] at hu ⊢;obtain ⟨xs,rfl,e1⟩:=hu;exact ⟨xs,rfl,c1 _ e1⟩
  ·intro hp id ex sz dN ao h;simp only [q9] at h
   cases hg:ak hp id with
   | none=>simp [hg] at h
   | some ob=>
    cases ob<;>simp only [hg,reduceCtorEq] at h
    rename_i rw pu rX BQ cs
    cases pu with
    | true=>
     simp only [ym,yc,yk] at h;obtain ⟨rfl,rfl,rfl,rfl⟩:=h;have hq:dw hp (bif rw then aW hp id (.cells false true rX BQ cs) else hp)/\j0 hp (bif rw then aW hp id (.cells false true rX BQ cs) else hp)/\ak (bif rw then aW hp id (.cells false true rX BQ cs) else hp) id=some (.cells false true rX BQ cs):=by
      cases rw with
      | true=>
       obtain ⟨h1,h2⟩:=R6 hg (o':= .cells false true rX BQ cs) ⟨false,rfl,by simp⟩;exact ⟨h1,h2,by simp [re,hg]⟩
      | false=>exact ⟨dw.refl,j0.refl,hg⟩
     refine ⟨hq.1,hq.2.1,fun H m S w ct hl hh p hm=>?_⟩;obtain ⟨p',arr,t,g1,g2,g3,g4,g5,g6,g7,g8,g9,g10⟩:=hh.obj id _ _ (Zg hl hq.2.2) hm;rw [hm] at g1;injection g1 with g1
     subst g1;exact ⟨g3,g4,g6,g10 rfl,g8 rfl,g7⟩
    | false=>
     simp only [yA] at h
     cases h1:cO n hp cs with
     | none=>simp [h1] at h
     | some q=>
      obtain ⟨sf,bF⟩:=q;simp only [h1,yc,yk] at h;obtain ⟨rfl,rfl,rfl,rfl⟩:=h;obtain ⟨a1,a2,a3⟩:=FK _ _ _ _ h1;obtain ⟨o1,gU,rw1,rfl,_⟩:=a1 id _ hg;obtain ⟨b1,b2⟩:=R6 gU (o':= .cells false false rX BQ cs) ⟨false,rfl,by simp⟩;refine ⟨a1.trans b1,a2.trans b2,fun H m S w ct hl hh p hm=>?_⟩;have hq:ak (aW bF id (.cells false false rX BQ cs)) id=some (.cells false false rX BQ cs):=by simp [re,gU]
      obtain ⟨p',arr,t,g1,g2,g3,g4,g5,g6,g7,g8,g9,g10⟩:=hh.obj id _ _ (Zg hl hq) hm;rw [hm] at g1;injection g1 with g1
      subst g1;obtain ⟨c1,c2⟩:=a3 H m S w ct (b1.trans hl) hh;have hlen:=amf h1
      exact ⟨g3,by omega,fun hx=>by have:=g6 hx;omega,g10 rfl,c2,att c1 g7⟩
  ·intro hp vs eD ao h
   cases vs with
   | nil=>
    simp only [cO,yc,yk] at h;obtain ⟨rfl,rfl⟩:=h;exact ⟨dw.refl,j0.refl,fun _ _ _ _ _ _ _=>⟨fun _ h=>h,rfl⟩⟩
   | cons v r=>
    simp only [cO] at h
    cases h1:freeze n hp v with
    | none=>simp [h1] at h
    | some q=>
     obtain ⟨v1,bF⟩:=q;simp only [h1] at h
     cases h2:cO n bF r with
     | none=>simp [h2] at h
     | some q2=>
      obtain ⟨r1,gC⟩:=q2;simp only [h2,yc,yk] at h;obtain ⟨rfl,rfl⟩:=h;obtain ⟨a1,a2,a3⟩:=ihV _ _ _ _ h1;obtain ⟨b1,b2,b3⟩:=FK _ _ _ _ h2;refine ⟨a1.trans b1,a2.trans b2,fun H m S w ct hl hh=>?_⟩;obtain ⟨c1,c2⟩:=a3 H m S w ct (b1.trans hl) hh;obtain ⟨d1,d2⟩:=b3 H m S w ct hl hh;refine ⟨fun us hu=>?_,by simp [aH,c2,d2]⟩;simp only [au] at hu ⊢;obtain ⟨u,t,rfl,e1,e2⟩:=hu;exact ⟨u,t,rfl,c1 _ e1,d1 _ e2⟩
def QN {n:Nat} {hp ao:Hp} {vs eD:List AV} (h:cO n hp vs=some (eD,ao)):dw hp ao/\j0 hp ao/\aft O ao vs eD:=(Yv n).2.2 _ _ _ _ h
def Q6 {n:Nat} {hp ao:Hp} {v v':AV} (h:freeze n hp v=some (v',ao)):dw hp ao/\j0 hp ao/\TD O ao v v':=(Yv n).1 _ _ _ _ h
end
end
end VE
