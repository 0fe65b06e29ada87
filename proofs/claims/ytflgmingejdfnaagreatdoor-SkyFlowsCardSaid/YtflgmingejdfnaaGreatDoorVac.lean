import Derived.Laws.Tables
import Derived.IntWalk
import Derived.Test.YtflgmingejdfnaaGreatDoorVab
set_option linter.all false
set_option maxRecDepth 100000
open Array renaming range→ub
open Bool renaming and_eq_true→yf
open Go renaming Oper→yY,Operand→xB,TypeId→yx,Value→ye,World→yh
open List renaming flatten_append→tS,flatten_cons→vN,range→xh,replicate→yA,replicate_succ→xU
open Nat renaming add_mul→wG,beq→yr,beq_refl→xo,ble→yE,eq_of_beq_eq_true→yo,le_of_ble_eq_true→yt,mul_comm→xN
open Option.some renaming injEq→yc
open Prod.mk renaming injEq→yk
namespace VE
section
open Go
section
variable {O:bw} {H:Hint} {m:Mp} {S:Nat->Prop} {w:yh} {tm:Env} {a:Act} {hp:Hp} {ct:Nat}
def G3 {o:yY} {b:Builtin} {args:Array xB} {ts:Array yx} (ho:o.op= .call {callee:= .builtin b,args:=args,argTypes:=ts}):
  ∃cs,(execOp a.eval o).run O.P w=(builtin b ts o.type cs (args.map a.eval)).run O.P w:=by
 exact ⟨_,by simp only [execOp,ho,resolve,Sem.run_bind,Sem.run_pure,Result.andThen_ok,invoke];rfl⟩
def ajn {o:yY} {c:Call} {k:Nat} {v:AV} (hH:fF O H) (ht:cp O m S w tm a.tmps) (hh:aZ O m S w hp ct) (ho:o.op= .call c)
  (hv:bC tm hp (br O.P H k o)=some v):Reads O m S w a o v:=by
 obtain ⟨callee,args,ts⟩:=c;simp only [br,ho] at hv
 split at hv
 ·cases Um:H.mode k<;>simp [Um,bC] at hv
 ·rename_i _ b
  split at hv
  ·have key:∀{bb:Bool} {sz by':Nat} {x y:X},bC tm hp (bif bb then .dH sz by' x y else bad)=some v->False:=by
    intro bb sz by' x y h
    cases bb
    ·exact dM h
    ·simp [bC] at h
   split at hv
   ·split at hv
    ·exact (key hv).elim
    ·simp_all
   ·split at hv
    ·exact (key hv).elim
    ·simp_all
   ·simp_all
  ·rename_i x t gL po;obtain ⟨al⟩:=args;obtain ⟨tl⟩:=ts;simp only at gL po;subst gL;subst po;obtain ⟨cs,fC⟩:=G3 (O:=O) (w:=w) (a:=a) ho;have fin:(∃u,(Builtin.len_ #[t] o.type #[a.eval x]).run O.P w= .ok u w/\aj O.ah m S w v u)->Reads O m S w a o v:=by
    rintro ⟨u,h1,h2⟩;refine ⟨u,?_,h2⟩;rw [fC];simp [builtin,h1]
   split at hv
   ·rename_i n e hu;simp only [bC,az,yc] at hv;subst hv;exact fin ⟨_,by simp [Builtin.len_,run_underlying hu];rfl,by simp [aj,goInt]⟩
   ·rename_i hu;simp only [bC] at hv;exact fin (Ry hh (cF hH ht x) (.inl ⟨rfl,hu⟩) hv)
   ·rename_i e hu;simp only [bC] at hv;exact fin (Ry hh (cF hH ht x) (.inr (.inl ⟨rfl,e,hu⟩)) hv)
   ·rename_i kt e hu;simp only [bC] at hv;exact fin (Ry hh (cF hH ht x) (.inr (.inr ⟨rfl,kt,e,hu⟩)) hv)
   ·exact (dM hv).elim
  ·split at hv
   ·split at hv
    ·simp [bC] at hv
    ·exact (dM hv).elim
   ·exact (dM hv).elim
  ·simp only [bC] at hv;obtain ⟨cs,fC⟩:=G3 (O:=O) (w:=w) (a:=a) ho;have hl:=Cm hH ht args.toList
   cases hx:dD tm (gN H args.toList) with
   | nil=>simp [hx] at hv
   | cons c r=>
    simp only [hx] at hv;rw [hx] at hl;simp only [au] at hl;obtain ⟨u,us,h1,h2,h3⟩:=hl;obtain ⟨q,h4,h5⟩:=QV (O:=O) (g:=Builtin.min2) (fun va vb v x y hx hy h=>anJ hx hy h) r us c v u h2 h3 hv;refine ⟨q,?_,h5⟩;rw [fC];simp [builtin,Builtin.min_,h1,h4]
  ·simp only [bC] at hv;obtain ⟨cs,fC⟩:=G3 (O:=O) (w:=w) (a:=a) ho;have hl:=Cm hH ht args.toList
   cases hx:dD tm (gN H args.toList) with
   | nil=>simp [hx] at hv
   | cons c r=>
    simp only [hx] at hv;rw [hx] at hl;simp only [au] at hl;obtain ⟨u,us,h1,h2,h3⟩:=hl;obtain ⟨q,h4,h5⟩:=QV (O:=O) (g:=Builtin.max2) (fun va vb v x y hx hy h=>anK hx hy h) r us c v u h2 h3 hv;refine ⟨q,?_,h5⟩;rw [fC];simp [builtin,Builtin.max_,h1,h4]
  ·exact (dM hv).elim
 ·exact (dM hv).elim
def XI {kt:yx} {kk:Nat} {vk:AV} (hk:keyOf O.P kt=some kk) (h:sL kk vk=true):∃d,O.P.underlying kt=some d/\MV d=true/\fits d vk=true:=by
 unfold keyOf at hk
 split at hk
 ·rename_i hu;simp only [yc] at hk;subst hk;refine ⟨_,hu,rfl,?_⟩;cases vk<;>simp_all [sL,fits]
 ·rename_i hu;simp only [yc] at hk;subst hk;refine ⟨_,hu,rfl,?_⟩;cases vk<;>simp_all [sL,fits]
 ·rename_i hu;simp only [yc] at hk;subst hk;refine ⟨_,hu,rfl,?_⟩;cases vk<;>simp_all [sL,fits]
 ·cases hk
def aav {o:yY} {k:Nat} {v:AV} (hH:fF O H) (ht:cp O m S w tm a.tmps) (hh:aZ O m S w hp ct)
  (hv:bC tm hp (br O.P H k o)=some v):Reads O m S w a o v:=by
 cases ho:o.op with
 | call c=>exact ajn hH ht hh ho hv
 | binOp op t x y ty=>exact ali hH ht ho hv
 | move x=>
  simp only [br,ho,bC,yc] at hv;subst hv;exact ⟨_,by simp only [execOp,ho,Sem.run_pure],cF hH ht x⟩
 | assign x=>
  simp only [br,ho,bC,yc] at hv;subst hv;exact ⟨_,by simp only [execOp,ho,Sem.run_pure],cF hH ht x⟩
 | pick c x y=>
  simp only [br,ho,bC] at hv;have rc:=cF hH ht c;cases hc:az tm (aR H c)<;>rw [hc] at hv<;>simp only [reduceCtorEq] at hv
  rename_i b;rw [hc] at rc;simp only [aj] at rc;simp only [yc] at hv;subst hv
  cases b with
  | true=>exact ⟨a.eval x,by simp [execOp,ho,rc,asBool],cF hH ht x⟩
  | false=>exact ⟨a.eval y,by simp [execOp,ho,rc,asBool],cF hH ht y⟩
 | load t x=>
  simp only [br,ho] at hv
  split at hv
  ·rename_i s ag hz ha;simp only [bC] at hv;exact jJ (by simp only [execOp,ho]) (asj hh hz ha (cF hH ht x) hv)
  ·exact (dM hv).elim
 | fieldAddr t x i=>
  simp only [br,ho] at hv
  split at hv
  ·rename_i fs hu
   split at hv
   ·rename_i f hf
    split at hv
    ·rename_i s hz;simp only [bC] at hv;exact jJ (by simp only [execOp,ho]) (apR hu hf hz (cF hH ht x) hv)
    ·exact (dM hv).elim
   ·exact (dM hv).elim
  ·exact (dM hv).elim
 | field t x i=>
  simp only [br,ho] at hv
  split at hv
  ·rename_i fs hu
   split at hv
   ·rename_i f hf
    split at hv
    ·rename_i s ag hz ha;simp only [bC] at hv;exact jJ (by simp only [execOp,ho]) (apS hu hf hz ha (cF hH ht x) hv)
    ·exact (dM hv).elim
   ·exact (dM hv).elim
  ·exact (dM hv).elim
 | nilCheck x=>
  simp only [br,ho,bC] at hv;have rx:=cF hH ht x;cases hx:az tm (aR H x)<;>rw [hx] at hv rx<;>simp only [reduceCtorEq,yc] at hv
  ·subst hv;have r':=rx;simp only [aj] at r';obtain ⟨p,_,e⟩:=r';exact ⟨a.eval x,by simp only [execOp,ho,e,Sem.run_pure],rx⟩
  ·subst hv;have r':=rx;simp only [aj] at r';obtain ⟨b,o',e,_⟩:=r';exact ⟨a.eval x,by simp only [execOp,ho,e,Sem.run_pure],rx⟩
  ·subst hv;rename_i f _ _
   cases f with
   | f g=>
    have r':=rx;simp only [aj] at r';obtain ⟨fi,ca,e,_⟩:=r';exact ⟨a.eval x,by simp only [execOp,ho,e,Sem.run_pure],rx⟩
   | y l=>
    have r':=rx;simp only [aj] at r';obtain ⟨p,_,e⟩:=r';exact ⟨a.eval x,by simp only [execOp,ho,e,Sem.run_pure],rx⟩
 | unOp op t x=>
  simp only [br,ho,bC] at hv;exact jJ (by simp only [execOp,ho]) (anI (cF hH ht x) hv)
 | convert s d x=>
  simp only [br,ho] at hv
  split at hv
  ·rename_i k1 k2 hs hd;simp only [bC] at hv;exact jJ (by simp only [execOp,ho]) (Zr hd (.inl ⟨_,hs⟩) (cF hH ht x) hv)
  ·rename_i k1 k2 hs hd;simp only [bC] at hv;exact jJ (by simp only [execOp,ho]) (Zr hd (.inr ⟨_,hs⟩) (cF hH ht x) hv)
  ·rename_i k1 k2 hs hd;simp only [bC] at hv;exact jJ (by simp only [execOp,ho]) (Zs hd (.inl ⟨_,hs⟩) (cF hH ht x) hv)
  ·rename_i k1 k2 hs hd;simp only [bC] at hv;exact jJ (by simp only [execOp,ho]) (Zs hd (.inr ⟨_,hs⟩) (cF hH ht x) hv)
  ·rename_i hs hd;simp only [bC] at hv;exact jJ (by simp only [execOp,ho]) (alf hd hs (cF hH ht x) hv)
  ·exact (dM hv).elim
 | makeFunc fn first cap=>
  cases fn with
  | func f=>
   simp only [br,ho] at hv
   split at hv
   ·rename_i g hg;simp only [bC,yc] at hv;subst hv;refine ⟨.func (.func f) (first.map a.eval) (cap.map a.eval),by simp [execOp,ho,Instr.makeFunc],?_⟩;simp only [aj];exact ⟨_,_,by rw [hH f g hg],by simpa using Cm hH ht first.toList,by simpa using Cm hH ht cap.toList⟩
   ·exact (dM hv).elim
  | _=>simp only [br,ho] at hv;exact (dM hv).elim
 | slice t x lo hi mx=>
  cases mx with
  | some q=>simp only [br,ho] at hv;exact (dM hv).elim
  | none=>
   simp only [br,ho] at hv
   split at hv
   ·rename_i hu;simp only [bC] at hv;exact jJ (by simp only [execOp,ho];rfl) (ajl hH ht hu (cF hH ht x) hv)
   ·rename_i e hu
    split at hv
    ·rename_i s hz;simp only [bC] at hv;exact jJ (by simp only [execOp,ho];rfl) (alg hH ht hu hz hh (cF hH ht x) hv)
    ·exact (dM hv).elim
   ·split at hv
    ·simp only [bC] at hv;cases hx:az tm (aR H x)<;>rw [hx] at hv<;>simp [fA] at hv
    ·exact (dM hv).elim
   ·exact (dM hv).elim
 | indexAddr t x i=>
  simp only [br,ho] at hv
  split at hv
  ·rename_i e hu
   split at hv
   ·rename_i s hz;simp only [bC] at hv
    cases hk:dV (az tm (aR H i)) with
    | none=>simp [hk] at hv
    | some j=>
     simp only [hk] at hv;exact jJ (by simp only [execOp,ho]) (apT hu hz (cF hH ht x) (cF hH ht i) hk hv)
   ·exact (dM hv).elim
  ·rename_i n e hu
   split at hv
   ·rename_i s hz;simp only [bC] at hv
    cases hk:dV (az tm (aR H i)) with
    | none=>simp [hk] at hv
    | some j=>
     simp only [hk] at hv;exact jJ (by simp only [execOp,ho]) (apU hu hz (cF hH ht x) (cF hH ht i) hk hv)
   ·exact (dM hv).elim
  ·exact (dM hv).elim
 | index t x i=>
  simp only [br,ho] at hv
  split at hv
  ·rename_i hu;simp only [bC] at hv
   cases hk:dV (az tm (aR H i)) with
   | none=>simp [hk] at hv
   | some j=>
    simp only [hk] at hv;exact jJ (by simp only [execOp,ho]) (apW hu (cF hH ht x) (cF hH ht i) hk hv)
  ·rename_i n e hu
   split at hv
   ·rename_i s ag hz ha;simp only [bC] at hv
    cases hk:dV (az tm (aR H i)) with
    | none=>simp [hk] at hv
    | some j=>
     simp only [hk] at hv;exact jJ (by simp only [execOp,ho]) (apV hu hz ha (cF hH ht x) (cF hH ht i) hk hv)
   ·exact (dM hv).elim
  ·exact (dM hv).elim
 | lookup t x i ok=>
  simp only [br,ho] at hv
  split at hv
  ·rename_i kt e hu
   split at hv
   ·rename_i kk z rS hz;simp only [bC] at hv
    cases hf:sL kk (az tm (aR H i)) with
    | false=>simp [hf] at hv
    | true=>
     simp only [hf,ym] at hv;obtain ⟨d,jj,dR,JC⟩:=XI rS hf;obtain ⟨zv,mD,rfl⟩:=DX (w:=w) hz
     cases hr:AY hp (az tm (aR H i)) (az tm (aR H x)) with
     | none=>simp [hr] at hv
     | some r=>
      refine jJ (by simp only [execOp,ho]) (apX (ok:=ok) (r:=r) (z:=eJ zv) hh hu jj dR JC mD (cF hH ht x) (cF hH ht i) (LJ zv) hr ?_);cases r<;>simpa [hr] using hv
   ·exact (dM hv).elim
  ·exact (dM hv).elim
 | extract x i=>
  simp only [br,ho,bC] at hv;have rx:=cF hH ht x;cases hx:az tm (aR H x)<;>rw [hx] at hv rx<;>simp only [reduceCtorEq] at hv
  simp only [aj] at rx;obtain ⟨xs,e,hr⟩:=rx;obtain ⟨u,h1,h2⟩:=Qq hr hv;refine ⟨u,?_,h2⟩;have BC:xs[i]? =some u:=by simpa using h1
  simp [execOp,ho,e,Instr.extract,BC]
 | build t parts=>
  simp only [br,ho] at hv
  split at hv
  ·rename_i fs z hu hz
   split at hv
   ·rename_i pl atP;have pg:=run_places (P:=O.P) w fs.toList pl atP
    split at hv
    case h_2=>exact (dM hv).elim
    rename_i ps fg;simp only [bC] at hv
    cases hf:fill tm z ps with
    | none=>simp [hf] at hv
    | some cs=>
     simp only [hf,yc] at hv;subst hv;obtain ⟨zv,mD,iz⟩:=DX (w:=w) hz;have zW:au O.ah m S w z zv.cells.toList:=by
      have:=DE (ah:=O.ah) (m:=m) (S:=S) (w:=w) zv
      rw [<-iz] at this;exact this
     obtain ⟨out,h1,h2⟩:=LL hH ht (place:=fun i=>pl[i]?) parts.toList ps z cs zv.cells fg zW hf;refine ⟨.agg out,?_,by simp only [aj];exact ⟨out,rfl,h2⟩⟩
     have hm:(Array.mapM (fun f=>Functor.map (Prod.mk f.offset) (Go.sizeOf f.type)) fs:Sem (Array (Nat×Nat))).run O.P w= .ok pl.toArray w:=by
      rw [Array.mapM_eq_mapM_toList];simp [pg]
     simp [execOp,ho,Instr.build,mD,run_underlying hu,hm,h1]
   ·exact (dM hv).elim
  ·rename_i n e z hu hz
   split at hv
   ·rename_i s hs
    split at hv
    ·rename_i ps fg;simp only [bC] at hv
     cases hf:fill tm z ps with
     | none=>simp [hf] at hv
     | some cs=>
      simp only [hf,yc] at hv;subst hv;obtain ⟨zv,mD,iz⟩:=DX (w:=w) hz;have zW:au O.ah m S w z zv.cells.toList:=by
       have:=DE (ah:=O.ah) (m:=m) (S:=S) (w:=w) zv
       rw [<-iz] at this;exact this
      obtain ⟨out,h1,h2⟩:=LL hH ht (place:=fun i=>some (i*s,s)) parts.toList ps z cs zv.cells fg zW hf;refine ⟨.agg out,?_,by simp only [aj];exact ⟨out,rfl,h2⟩⟩
      simp [execOp,ho,Instr.build,mD,run_underlying hu,ns hs,h1]
    ·exact (dM hv).elim
   ·exact (dM hv).elim
  ·exact (dM hv).elim
 | alloc t=>simp only [br,ho] at hv;split at hv<;>simp [bC,bad] at hv
 | box t x=>simp only [br,ho] at hv;split at hv<;>simp [bC,bad] at hv
 | buildSlice t n parts=>
  simp only [br,ho] at hv
  split at hv
  ·split at hv
   ·rename_i s z _ _
    cases hc:yE (n*s) 16777216 with
    | false=>rw [hc] at hv;exact (dM hv).elim
    | true=>
     rw [hc] at hv;simp only [ym] at hv
     split at hv
     ·simp [bC] at hv
     ·exact (dM hv).elim
   ·exact (dM hv).elim
  ·exact (dM hv).elim
 | makeMap t r=>
  cases r<;>simp only [br,ho] at hv
  ·repeat' split at hv
   all_goals simp [bC,bad] at hv
  ·exact (dM hv).elim
 | makeSlice t l c=>
  simp only [br,ho] at hv
  repeat' split at hv
  all_goals simp [bC,bad] at hv
 | insert t x k y=>
  simp only [br,ho] at hv
  repeat' split at hv
  all_goals simp [bC,bad] at hv
 | mapUpdate t x k y=>
  simp only [br,ho] at hv
  repeat' split at hv
  all_goals simp [bC,bad] at hv
 | store t x y=>simp only [br,ho] at hv;split at hv<;>simp [bC,bad] at hv
 | range t x=>simp only [br,ho] at hv;split at hv<;>simp [bC,bad] at hv
 | next x b=>cases b<;>simp [br,ho,bC,bad] at hv
 | _=>simp [br,ho,bC,bad] at hv
end
end
section
open Go
def fD (m:Mp) (id:Nat) (p:Pl):Mp:=fun i=>if i=id then some p else m i
def eC {m:Mp} {id:Nat} {p:Pl}:fD m id p id=some p:=by simp [fD]
def eB {m:Mp} {id i:Nat} {p:Pl} (h:i≠id):fD m id p i=m i:=by simp [fD,h]
section
variable {O:bw} {m:Mp} {S:Nat->Prop} {w:yh} {hp:Hp} {ct:Nat}
def dI (m m':Mp):Prop:=∀id p,m id=some p->m' id=some p
def dI.refl {m:Mp}:dI m m:=fun _ _ h=>h
def dI.trans {m m' JA:Mp} (h:dI m m') (k:dI m' JA):dI m JA:=fun id p hp=>k id p (h id p hp)
def kC {i:Nat} (h:m i=none) {p:Pl}:dI m (fD m i p):=by
 intro id q hq;rw [eB]
 ·grind
 ·grind
def Ay {tm:Env} {tmps:Array ye} {m':Mp} {S':Nat->Prop} {w':yh} (hm:∀id p,m id=some p->m' id=some p) (hS:∀b,S b->S' b) (hw:fO S w w')
  (h:cp O m S w tm tmps):cp O m' S' w' tm tmps:=fun i=>lX hm hS hw _ _ (h i)
def alloc_old {o:Go.Obj} {b:Nat} (hb:b<w.heap.size):(w.alloc o).heap[b]? =w.heap[b]? :=RowKit.Below.heap_alloc w o b hb
def qP {m':Mp} {S':Nat->Prop} {w':yh} {id:Nat} {o:Obj} (hm:∀id p,m id=some p->m' id=some p) (hS:∀b,S b->S' b) (hw:fO S w w') (hb:∀p,m id=some p->w'.heap[p.b]? =w.heap[p.b]?)
  (hn:∀p,m id=some p->S' p.b->S p.b) (h:fB O m S w id o):fB O m' S' w' id o:=by
 have rowAt:∀(cs:List AV) (b k:Nat),w'.heap[b]? =w.heap[b]? ->bT O.ah m S w cs b k->bT O.ah m' S' w' cs b k:=by
  intro cs
  induction cs with
  | nil=>intro b k _ _;simp only [bT]
  | cons c cs ih=>
   intro b k rT hr;obtain ⟨⟨u,h1,h2⟩,h3⟩:=hr;exact ⟨⟨u,(KC rT).trans h1,lX hm hS hw _ _ h2⟩,ih b (k+1) rT h3⟩
 cases o with
 | cells rw pu ex sz cs=>
  obtain ⟨p,arr,t,h1,h2,h3,h4,h5,h6,h7,h8,h9,iA⟩:=h;exact ⟨p,arr,t,hm _ _ h1,(hb p h1).trans h2,h3,h4,h5,h6,rowAt cs p.b p.o (hb p h1) h7,h8,fun hr hs=>h9 hr (hn p h1 hs),fun hr=>hS _ (iA hr)⟩
 | mp rw ks vs=>
  obtain ⟨p,es,clock,h1,h2,h3,h4,h5,h6⟩:=h;exact ⟨p,es,clock,hm _ _ h1,(hb p h1).trans h2,gT hm hS hw _ _ h3,gT hm hS hw _ _ h4,fun hr hs=>h5 hr (hn p h1 hs),fun hr=>hS _ (h6 hr)⟩
 | si s pos=>
  obtain ⟨p,t,h1,h2,h3,h4⟩:=h;exact ⟨p,t,hm _ _ h1,(hb p h1).trans h2,h3,fun hs=>h4 (hn p h1 hs)⟩
 | lp tm ps as_ body st pe=>
  obtain ⟨p,l,hi,h1,h2,h3,h4,h5,h6,h7,h8⟩:=h;exact ⟨p,l,hi,hm _ _ h1,(hb p h1).trans h2,fun hs=>h3 (hn p h1 hs),h4,h5,h6,Ay hm hS hw h7,h8⟩
def gU {id i:Nat} {o:Obj}:ap ((id,o)::hp) i=if id=i then some o else ap hp i:=by
 simp only [ap]
 simp_all
def G8 (hh:aZ O m S w hp ct) (g:Go.Obj):fO S w (w.alloc g):=fun b hb=>alloc_old (hh.slt b hb)
def jk:Obj->Obj->Prop
 | .cells rw pu ex sz cs,o'=>∃eY,o'= .cells eY pu ex sz cs/\(eY=true->rw=true)
 | .mp rw ks vs,o'=>∃eY,o'= .mp eY ks vs/\(eY=true->rw=true)
 | .si s pos,o'=>o'= .si s pos
 | .lp tm ps as_ body st pe,o'=>o'= .lp tm ps as_ body st pe
def jk.refl:∀o,jk o o
 | .cells rw _ _ _ _=>⟨rw,rfl,fun h=>h⟩
 | .mp rw _ _=>⟨rw,rfl,fun h=>h⟩
 | .si _ _=>rfl
 | .lp _ _ _ _ _ _=>rfl
def jk.trans {a b c:Obj} (h:jk a b) (k:jk b c):jk a c:=by
 cases a with
 | cells rw pu ex sz cs=>
  obtain ⟨r1,rfl,h1⟩:=h;obtain ⟨r2,rfl,h2⟩:=k;exact ⟨r2,rfl,fun h=>h1 (h2 h)⟩
 | mp rw ks vs=>
  obtain ⟨r1,rfl,h1⟩:=h;obtain ⟨r2,rfl,h2⟩:=k;exact ⟨r2,rfl,fun h=>h1 (h2 h)⟩
 | si s pos=>simp only [jk] at h;subst h;exact k
 | lp tm ps as_ body st pe=>simp only [jk] at h;subst h;exact k
def dt (hp ao:Hp):Prop:=∀id o,ap hp id=some o->∃o',ap ao id=some o'/\jk o o'
def dt.refl {hp:Hp}:dt hp hp:=fun _ o h=>⟨o,h,jk.refl o⟩
def dt.trans {a b c:Hp} (h:dt a b) (k:dt b c):dt a c:=fun id o ho=>
 let ⟨o1,h1,l1⟩:=h id o ho
 let ⟨o2,h2,l2⟩:=k id o1 h1
 ⟨o2,h2,l1.trans l2⟩
def iU:Obj->Prop
 | .cells rw _ _ _ _=>rw=false
 | .mp rw _ _=>rw=false
 | _=>False
def aaw {ao:Hp} {bh:Nat} (hh:aZ O m S w hp ct) (hl:dt hp ao) (hd:∀id o p,ap ao id=some o->m id=some p->∃o',ap hp id=some o') (fE:ct<=bh) (atQ:∀id o,ap ao id=some o->id<bh):
  ∃S',aZ O m S' w ao bh/\(∀b,S b->S' b)/\∀b,S' b->S b\/ej m hp b:=by
 refine ⟨fun b=>S b\/∃id p o,m id=some p/\p.b=b/\ap ao id=some o/\iU o,?_,fun b h=> .inl h,?_⟩
 ·refine ⟨?_,fun id p h=>Nat.lt_of_lt_of_le (hh.lt id p h) fE,?_,?_,hh.blt,hh.low,hh.lE,hh.fP,atQ⟩
  ·intro id o' p kV hm;obtain ⟨o,ho⟩:=hd id o' p kV hm;obtain ⟨o'',h1,h2⟩:=hl id o ho;rw [kV] at h1;injection h1 with h1
   subst h1;have h3:=hh.obj id o p ho hm;have hS:∀b,S b->(S b\/∃id p o,m id=some p/\p.b=b/\ap ao id=some o/\iU o):=fun b h=> .inl h
   have nT:∀q,m id=some q->(∃id p o,m id=some p/\p.b=q.b/\ap ao id=some o/\iU o)->iU o':=by
    rintro q hq ⟨j,pj,oj,Un,hj2,hj3,hj4⟩;obtain ⟨JD,hj5⟩:=hd j oj pj hj3 Un
    have:=hh.inj id j o JD q pj ho hj5 hq Un hj2.symm
    grind
   have bf:fO S w w:=fun _ _=>rfl
   cases o with
   | cells rw pu ex sz cs=>
    obtain ⟨eY,rfl,BD⟩:=h2;obtain ⟨q,arr,t,h1,h2,h3,h4,h5,h6,h7,h8,h9,iA⟩:=h3;refine ⟨q,arr,t,h1,h2,h3,h4,h5,h6,?_,h8,?_,?_⟩
    ·clear h4 h6 h8;revert h7;generalize q.o=k
     induction cs generalizing k with
     | nil=>intro _;simp only [bT]
     | cons c cs ih=>
      intro hr;simp only [bT] at hr ⊢;obtain ⟨⟨u,g1,g2⟩,g3⟩:=hr
      exact ⟨⟨u,g1,lX (fun _ _ h=>h) hS bf _ _ g2⟩,by
       have C8:∀(cs:List AV) (b k:Nat),bT O.ah m S w cs b k->bT O.ah m (fun b=>S b\/∃id p o,m id=some p/\p.b=b/\ap ao id=some o/\iU o) w cs b k:=by
        intro cs
        induction cs with
        | nil=>intro b k _;simp only [bT]
        | cons c cs ih=>
         intro b k hr;simp only [bT] at hr ⊢;obtain ⟨⟨u,g1,g2⟩,g3⟩:=hr;exact ⟨⟨u,g1,lX (fun _ _ h=>h) hS bf _ _ g2⟩,ih b (k+1) g3⟩
       exact C8 _ _ _ g3⟩
    ·rintro hr (hs | hs)
     ·grind
     ·have:=nT q h1 hs
      simp only [iU] at this
      grind
    ·intro hr;exact .inr ⟨id,q,_,h1,rfl,kV,hr⟩
   | mp rw ks vs=>
    obtain ⟨eY,rfl,BD⟩:=h2;obtain ⟨q,es,clock,h1,h2,h3,h4,h5,h6⟩:=h3;refine ⟨q,es,clock,h1,h2,gT (fun _ _ h=>h) hS bf _ _ h3,gT (fun _ _ h=>h) hS bf _ _ h4,?_,?_⟩
    ·rintro hr (hs | hs)
     ·grind
     ·have:=nT q h1 hs
      simp only [iU] at this
      grind
    ·intro hr;exact .inr ⟨id,q,_,h1,rfl,kV,hr⟩
   | si s pos=>
    simp only [jk] at h2;subst h2;refine qP (fun _ _ h=>h) hS bf (fun _ _=>rfl) (fun q hq hs=>?_) h3;rcases hs with hs | hs
    ·grind
    ·exact (nT q hq hs).elim
   | lp tm ps as_ body st pe=>
    simp only [jk] at h2;subst h2;refine qP (fun _ _ h=>h) hS bf (fun _ _=>rfl) (fun q hq hs=>?_) h3;rcases hs with hs | hs
    ·grind
    ·exact (nT q hq hs).elim
  ·intro i j oi oj pi pj hi hj bM fW e;obtain ⟨JE,cz⟩:=hd i oi pi hi bM;obtain ⟨JD,qj⟩:=hd j oj pj hj fW;exact hh.inj i j JE JD pi pj cz qj bM fW e
  ·rintro b (hb | ⟨id,p,o,h1,rfl,_,_⟩)
   ·exact hh.slt b hb
   ·exact hh.blt id p h1
 ·rintro b (hb | ⟨id,p,o,h1,rfl,h3,_⟩)
  ·exact .inl hb
  ·obtain ⟨o',kV⟩:=hd id o p h3 h1;exact .inr ⟨id,o',p,kV,h1,rfl⟩
def Zu {i:Nat} (hh:aZ O m S w hp ct) (hi:m i=none) (Fc:i<ct) {g:Go.Obj} {p:Pl} (hb:p.b=w.heap.size)
  (hf:∀o,ap hp i=some o->(fB O (fD m i p) S (w.alloc g) i o/\¬iU o)\/
   (iU o/\fB O (fD m i p) (fun b=>S b\/b=w.heap.size) (w.alloc g) i o)):
  ∃S',aZ O (fD m i p) S' (w.alloc g) hp ct/\(∀b,S b->S' b)/\∀b,S' b->S b\/b=w.heap.size:=by
 have eQ:(w.alloc g).heap.size=w.heap.size+1:=by simp
 have bn:O.w0.heap.size<=w.heap.size:=hh.fP;have gen:∀S':Nat->Prop,(∀b,S b->S' b)->(∀b,S' b->S b\/b=w.heap.size)->(∀o,ap hp i=some o->fB O (fD m i p) S' (w.alloc g) i o)->aZ O (fD m i p) S' (w.alloc g) hp ct:=by
  intro S' h1 h2 h3;have JF:∀id q,m id=some q->¬q.b=w.heap.size:=fun id q hq=>by have:=hh.blt id q hq;omega
  refine ⟨?_,?_,?_,?_,?_,?_,?_,?_,hh.bi⟩
  ·intro id o q ho hm;by_cases hc:id=i
   ·grind
   ·rw [eB hc] at hm;refine qP (kC hi) h1 (G8 hh g) (fun q' cf=>alloc_old (hh.blt id q' cf)) (fun q' cf hs=>?_) (hh.obj id o q ho hm)
    grind
  ·intro id q hm;by_cases hc:id=i
   ·grind
   ·rw [eB hc] at hm;exact hh.lt id q hm
  ·intro a b oa ob pa pb ha cS Da zq e;by_cases ca:a=i
   ·by_cases cb:b=i
    ·grind
    ·subst ca;rw [eC] at Da;rw [eB cb] at zq
     grind
   ·rw [eB ca] at Da;by_cases cb:b=i
    ·subst cb;rw [eC] at zq
     grind
    ·rw [eB cb] at zq;exact hh.inj a b oa ob pa pb ha cS Da zq e
  ·intro b hs;rcases h2 b hs with h | h
   ·have:=hh.slt b h;omega
   ·omega
  ·intro id q hm;by_cases hc:id=i
   ·subst hc;rw [eC] at hm
    grind
   ·rw [eB hc] at hm
    have:=hh.blt id q hm
    omega
  ·intro id q hm;by_cases hc:id=i
   ·subst hc;rw [eC] at hm
    grind
   ·rw [eB hc] at hm;exact hh.low id q hm
  ·intro b rT;exact (alloc_old (by omega)).trans (hh.lE b rT)
  ·omega
 cases ho:ap hp i with
 | none=>exact ⟨S,gen S (fun _ h=>h) (fun _ h=> .inl h) (fun o h=>by rw [ho] at h;cases h),fun _ h=>h,fun _ h=> .inl h⟩
 | some o=>
  rcases hf o ho with ⟨h1,_⟩ | ⟨_,h1⟩
  ·exact ⟨S,gen S (fun _ h=>h) (fun _ h=> .inl h) (fun o' h=>by rw [ho] at h;injection h with h;subst h;exact h1),fun _ h=>h,fun _ h=> .inl h⟩
  ·exact ⟨_,gen (fun b=>S b\/b=w.heap.size) (fun _ h=> .inl h) (fun _ h=>h) (fun o' h=>by rw [ho] at h;injection h with h;subst h;exact h1),fun _ h=> .inl h,fun _ h=>h⟩
def Xj {id:Nat} {o o':Obj} {p:Pl} (hl:jk o o') (hm:m id=some p) (h:fB O m S w id o) (hn:¬iU o):
  (fB O m S w id o'/\¬iU o')\/(iU o'/\fB O m (fun b=>S b\/b=p.b) w id o'):=by
 have hS:∀b,S b->(S b\/b=p.b):=fun _ h=> .inl h
 have bf:fO S w w:=fun _ _=>rfl
 cases o with
 | cells rw pu ex sz cs=>
  obtain ⟨eY,rfl,BD⟩:=hl
  cases eY with
  | true=>
   grind
  | false=>
   refine .inr ⟨rfl,?_⟩;obtain ⟨q,arr,t,h1,h2,h3,h4,h5,h6,h7,h8,h9,iA⟩:=h;rw [hm] at h1;injection h1 with h1
   subst h1;have C8:∀(cs:List AV) (b k:Nat),bT O.ah m S w cs b k->bT O.ah m (fun b=>S b\/b=p.b) w cs b k:=by
    intro cs
    induction cs with
    | nil=>intro b k _;simp only [bT]
    | cons c cs ih=>
     intro b k hr;obtain ⟨⟨u,g1,g2⟩,g3⟩:=hr;exact ⟨⟨u,g1,lX (fun _ _ h=>h) hS bf _ _ g2⟩,ih b (k+1) g3⟩
   exact ⟨p,arr,t,hm,h2,h3,h4,h5,h6,C8 _ _ _ h7,h8,by simp,fun _=> .inr rfl⟩
 | mp rw ks vs=>
  obtain ⟨eY,rfl,BD⟩:=hl
  cases eY with
  | true=>
   grind
  | false=>
   refine .inr ⟨rfl,?_⟩;obtain ⟨q,es,clock,h1,h2,h3,h4,h5,h6⟩:=h;rw [hm] at h1;injection h1 with h1
   subst h1;exact ⟨p,es,clock,hm,h2,gT (fun _ _ h=>h) hS bf _ _ h3,gT (fun _ _ h=>h) hS bf _ _ h4,by simp,fun _=> .inr rfl⟩
 | si s pos=>simp only [jk] at hl;subst hl;exact .inl ⟨h,hn⟩
 | lp tm ps as_ body st pe=>simp only [jk] at hl;subst hl;exact .inl ⟨h,hn⟩
end
end
section
open Go
section
variable {O:bw} {H:Hint} {m:Mp} {S:Nat->Prop} {w:yh} {tm:Env} {a:Act} {hp:Hp} {ct cq:Nat}
def PZ {ah:Nat->Nat} {b:Nat} {arr:Array ye} {t:yx} {fr:Nat×Nat} (hb:w.heap[b]? =some (.cells arr t fr)):∀(cs:List AV) (us:List ye) (o:Nat),
  au ah m S w cs us->(∀(j:Nat) (u:ye),us[j]? =some u->arr[o+j]? =some u)->bT ah m S w cs b o
 | [],us,o,_,_=>by simp only [bT]
 | c::cs,us,o,h,hu=>by
  simp only [au] at h;obtain ⟨u,r,rfl,h2,h3⟩:=h;simp only [bT];refine ⟨⟨u,?_,h2⟩,PZ hb cs r (o+1) h3 (fun j v hv=>?_)⟩
  ·have:=hu 0 u (by simp)
   simpa [World.cell?,hb] using this
  ·have:=hu (j+1) v (by simpa using hv)
   rw [show o+1+j=o+(j+1) by omega];exact this
def anL (hh:aZ O m S w hp cq) {i:Nat} {arr:Array ye} {t:yx} {cs:List AV} {us:List ye} {pu ex:Bool} {sz:Nat} (hr:au O.ah m S w cs us)
  (hu:∀(j:Nat) (u:ye),us[j]? =some u->arr[j]? =some u) (hl:cs.length<=arr.size) (hex:ex=true->cs.length=arr.size) (gQ:pu=true->aJ cs=true)
  (m':Mp) (hm:dI m m') (hi:m' i=some ⟨w.heap.size,0,arr.size,sz⟩):fB O m' S (w.alloc (.cells arr t)) i (.cells true pu ex sz cs):=by
 refine ⟨⟨w.heap.size,0,arr.size,sz⟩,arr,t,hi,heap_alloc_new w _,rfl,hl,by simp,hex,?_,gQ,?_,by simp⟩
 ·exact PZ (heap_alloc_new w _) cs us 0 (gT hm (fun _ h=>h) (G8 hh _) _ _ hr) (by simpa using hu)
 ·intro _ hS
  have:=hh.slt _ hS
  simp at this
def CD (O:bw) (m:Mp) (S:Nat->Prop) (w:yh) (a:Act) (ct:Nat) (o:yY) (v:AV) (b:Obj):Prop:=
 ∃u g p,(execOp a.eval o).run O.P w= .ok (.value u) (w.alloc g)/\p.b=w.heap.size/\¬iU b/\
  ∀m',dI m m'->m' ct=some p->fB O m' S (w.alloc g) ct b/\aj O.ah m' S (w.alloc g) v u
def P0 {o:yY} {arr:Array ye} {t:yx} {cs:List AV} {us:List ye} {pu ex:Bool} {sz:Nat} {v:AV} {u:ye} (hh:aZ O m S w hp cq)
  (he:(execOp a.eval o).run O.P w= .ok (.value u) (w.alloc (.cells arr t))) (hr:au O.ah m S w cs us)
  (hu:∀(j:Nat) (u:ye),us[j]? =some u->arr[j]? =some u) (hl:cs.length<=arr.size) (hex:ex=true->cs.length=arr.size) (gQ:pu=true->aJ cs=true)
  (hv:∀m':Mp,m' ct=some ⟨w.heap.size,0,arr.size,sz⟩->aj O.ah m' S (w.alloc (.cells arr t)) v u):CD O m S w a ct o v (.cells true pu ex sz cs):=
 ⟨u,_,⟨w.heap.size,0,arr.size,sz⟩,he,rfl,by simp [iU],fun m' hm hi=>⟨anL hh hr hu hl hex gQ m' hm hi,hv m' hi⟩⟩
def Zv {o:yY} {t:yx} {x:ye} {vx v:AV} {b:Obj} {sz:Nat} (hh:aZ O m S w hp cq) (he:(execOp a.eval o).run O.P w= .ok (.value (.pointer (some ⟨w.heap.size,0,none⟩))) (w.alloc (.cells x.cells t))) (hx:au O.ah m S w (cellsOf vx) x.cells.toList)
  (hv:(bif yr (cellsOf vx).length sz&&bQ (cellsOf vx) then some (AV.ptr ct 0,Obj.cells true (aJ (cellsOf vx)) true sz (cellsOf vx)) else none)=some (v,b)):CD O m S w a ct o v b:=by
 cases hc:(yr (cellsOf vx).length sz&&bQ (cellsOf vx)) with
 | false=>rw [hc] at hv;cases hv
 | true=>
  rw [hc] at hv;obtain ⟨rfl,rfl⟩:=hv;have hlen:=iF _ _ hx;refine P0 hh he hx (fun j u hj=>by simpa using hj) (by rw [<-hlen];simp) (fun _=>by rw [<-hlen];simp) (fun h=>h) (fun m' hi=>?_)
  simp only [aj];exact ⟨_,hi,by simp⟩
def alj {o:yY} {t:yx} {r:Option xB} (hh:aZ O m S w hp cq) (ho:o.op= .makeMap t r) (hr:r=none):CD O m S w a ct o (.map ct) (.mp true [] []):=by
 subst hr;refine ⟨.map (some w.heap.size),.map #[] 0,⟨w.heap.size,0,0,0⟩,by simp [execOp,ho,Instr.makeMap],rfl,by simp [iU],fun m' _ hi=>⟨?_,?_⟩⟩
 ·refine ⟨_,#[],0,hi,heap_alloc_new w _,by simp [au],by simp [au],?_,by simp⟩;intro _ hS
  have:=hh.slt _ hS
  simp at this
 ·simp only [aj];exact ⟨_,hi,rfl⟩
def ajo {o:yY} {t:yx} {x:xB} {s:List Nat} (hh:aZ O m S w hp cq) (ho:o.op= .range t x) (hu:O.P.underlying t=some .string) (hx:aj O.ah m S w (.str s) (a.eval x)):
  CD O m S w a ct o (.it ct) (.si s 0):=by
 obtain ⟨b,e,rfl⟩:=hx;refine ⟨.pointer (some ⟨w.heap.size,0,none⟩),.stringIter b 0,⟨w.heap.size,0,0,0⟩,by simp [execOp,ho,Instr.range,run_underlying hu,e],rfl,by simp [iU],fun m' _ hi=>⟨?_,?_⟩⟩
 ·refine ⟨_,b,hi,heap_alloc_new w _,rfl,?_⟩;intro hS
  have:=hh.slt _ hS
  simp at this
 ·simp only [aj];exact ⟨_,hi,rfl⟩
end
def ajp (zero:Array ye):(xh zero.size).map (fun j=>zero[j]!)=zero.toList:=by
 apply List.ext_getElem
 ·simp
 ·grind
def XJ (zero:Array ye):∀n:Nat,(xh (n*zero.size)).map (fun i=>zero[i%zero.size]!)=(yA n zero.toList).flatten
 | 0=>by simp
 | n+1=>by
  rw [wG,Nat.one_mul,List.range_add,List.map_append,XJ zero n,List.replicate_succ',tS]
  congr 1
  simp only [List.map_map,vN,List.flatten_nil,List.append_nil];rw [<-ajp zero];apply List.map_congr_left;intro j hj;simp at hj;simp [Function.comp,xN n,Nat.mod_eq_of_lt hj]
def Qs {ah:Nat->Nat} {m:Mp} {S:Nat->Prop} {w:yh} {cs:List AV} {us:List ye} (h:au ah m S w cs us):∀n,au ah m S w (yA n cs).flatten (yA n us).flatten
 | 0=>by simp [au]
 | n+1=>by rw [xU,xU,vN,vN];exact lU h (Qs h n)
section
variable {O:bw} {H:Hint} {m:Mp} {S:Nat->Prop} {w:yh} {tm:Env} {a:Act} {hp:Hp} {ct cq:Nat}
def Yv (zero:Array ye) (n:Nat):(Array.map (fun i=>zero[i%zero.size]!) (ub (n*zero.size))).toList=(yA n zero.toList).flatten:=by
 rw [<-XJ zero n]
 simp
def Zw (tm:Env):∀(ps:List (Nat×Nat×X)) (zero cs:List AV),fill tm zero ps=some cs->cs.length=zero.length
 | [],zero,cs,h=>by simp only [fill,yc] at h;rw [h]
 | (o,sz,x)::r,zero,cs,h=>by
  simp only [fill] at h
  cases hc:(yr (cellsOf (az tm x)).length sz&&yE (o+sz) zero.length&&bQ (cellsOf (az tm x))) with
  | false=>rw [hc] at h;cases h
  | true=>
   rw [hc] at h;simp only [yf] at hc;have h1:=yo hc.1.1;have h2:=yt hc.1.2;rw [Zw tm r _ _ h];simp only [over,List.length_append,List.length_take,List.length_drop];omega
def Lj {α:Type} (l:List α):∀n,(yA n l).flatten.length=n*l.length
 | 0=>by simp
 | n+1=>by simp [xU,Lj l n,wG,Nat.add_comm]
def ajq {o:yY} {t e:yx} {n s:Nat} {z:AV} {parts:Array (Nat×xB)} {ps:List (Nat×Nat×X)} {v:AV} {b:Obj} (hH:fF O H) (ht:cp O m S w tm a.tmps) (hh:aZ O m S w hp cq)
  (ho:o.op= .buildSlice t n parts) (hu:O.P.underlying t=some (.slice e)) (hs:cP O.P e=some s) (hz:mS O.P e=some z) (hn:n*s<=16777216)
  (fg:partsOf H (fun i=>some (i*s,s)) parts.toList=some ps)
  (hv:cU tm hp ct (.bV n s (yA n (cellsOf z)).flatten ps)=some (v,b)):CD O m S w a ct o v b:=by
 simp only [cU] at hv
 cases hf:fill tm (yA n (cellsOf z)).flatten ps with
 | none=>simp [hf] at hv
 | some cs=>
  simp only [hf] at hv
  cases hc:yr cs.length (n*s) with
  | false=>rw [hc] at hv;cases hv
  | true=>
   rw [hc] at hv;simp only [ym,yc,yk] at hv;obtain ⟨rfl,rfl⟩:=hv;have hlen:=yo hc;obtain ⟨zv,mD,rfl⟩:=DX (w:=w) hz;have zW:au O.ah m S w (cellsOf (eJ zv)) zv.cells.toList:=DE zv;have zX:=iF _ _ zW;have Fe:=Zw tm ps _ _ hf;rw [Lj] at Fe;have Ff:n*s=n*zv.cells.size:=by
    rw [<-hlen,Fe,<-zX];simp
   have key:∃zr:Array ye,(n*s=0->zr=#[])/\(n*s≠0->zr=zv.cells)/\au O.ah m S w (yA n (cellsOf (eJ zv))).flatten ((ub (n*s)).map (fun x=>zr[x%zr.size]!)).toList:=by
    by_cases h0:n*s=0
    ·refine ⟨#[],fun _=>rfl,fun h=>(h h0).elim,?_⟩
     have:(yA n (cellsOf (eJ zv))).flatten=[]:=by
      apply List.eq_nil_of_length_eq_zero;rw [Lj,<-zX];simp only [Array.length_toList];omega
     rw [this];simp [au,h0]
    ·refine ⟨zv.cells,fun h=>(h0 h).elim,fun _=>rfl,?_⟩;rw [Ff,Yv];exact Qs zW n
   obtain ⟨zr,JG,nf,zY⟩:=key;obtain ⟨out,h1,h2⟩:=LL hH ht (place:=fun i=>some (i*s,s)) parts.toList ps _ cs _ fg zY hf;have rR:=iF _ _ h2
   refine P0 (arr:=out) (t:=e) (us:=out.toList) hh ?_ h2 (fun j u hj=>by simpa using hj) (by rw [<-rR];simp) (fun _=>by rw [<-rR];simp) (fun h=>h) (u:= .slice (some ⟨w.heap.size,0,none⟩) n n) ?_
   ·have jZ:¬(n*s>2^24):=by omega
    by_cases h0:n*s=0
    ·have:=JG h0
     subst this;simp only [h0] at h1;simp [execOp,ho,Instr.buildSlice,run_underlying hu,ns hs,h0,newRow] at h1 ⊢;simp [h1]
    ·have:=nf h0
     subst this;simp [execOp,ho,Instr.buildSlice,run_underlying hu,ns hs,h0,jZ,mD,newRow] at h1 ⊢;simp [h1]
   ·intro m' hi;simp only [aj];refine ⟨_,n,hi,by simp,Nat.le_refl _,?_⟩;simp only [Nat.zero_add];rw [<-hlen,<-rR];simp
def DF:∀{a b:List AV},aJ a=true->aJ b=true->aJ (a++b)=true
 | [],_,_,h=>h
 | c::r,b,h,k=>by
  simp only [aJ,yf] at h;simp only [List.cons_append,aJ,yf];exact ⟨h.1,DF h.2 k⟩
def Yw {z:List AV} (h:aJ z=true):∀n,aJ (yA n z).flatten=true
 | 0=>by simp [aJ]
 | n+1=>by rw [xU,vN];exact DF h (Yw h n)
def alk {o:yY} {t e:yx} {s by':Nat} {z:AV} {l c:xB} {v:AV} {b:Obj} (hH:fF O H) (ht:cp O m S w tm a.tmps) (hh:aZ O m S w hp cq)
  (ho:o.op= .makeSlice t l c) (hu:O.P.underlying t=some (.slice e)) (hs:cP O.P e=some s) (hb:Bz O.P e=some by') (hz:mS O.P e=some z)
  (hv:cU tm hp ct (.gP s by' (cellsOf z) (aR H l) (aR H c))=some (v,b)):CD O m S w a ct o v b:=by
 simp only [cU] at hv
 cases hl:dV (az tm (aR H l)) with
 | none=>simp [hl] at hv
 | some ln=>
  cases hc:dV (az tm (aR H c)) with
  | none=>simp [hl,hc] at hv
  | some cn=>
   simp only [hl,hc] at hv
   cases hk:(yE ln cn&&(yE cn room&&(yE (cn*by') room&&(yr (cellsOf z).length s&&bQ (cellsOf z))))) with
   | false=>rw [hk] at hv;cases hv
   | true=>
    rw [hk] at hv;simp only [ym,yc,yk] at hv;obtain ⟨rfl,rfl⟩:=hv;simp only [yf] at hk;have h1:=yt hk.1;have h2:=yt hk.2.1;have h3:=yt hk.2.2.1;have h4:=yo hk.2.2.2.1;simp only [room] at h2 h3;obtain ⟨kl,el⟩:=sN (cF hH ht l) hl;obtain ⟨kc,ec⟩:=sN (cF hH ht c) hc;obtain ⟨zv,mD,rfl⟩:=DX (w:=w) hz;have zW:au O.ah m S w (cellsOf (eJ zv)) zv.cells.toList:=DE zv;have zX:=iF _ _ zW;have JH:zv.cells.size=s:=by rw [<-h4,<-zX];simp
    have wrapN:∀k:Nat,k<=1099511627776->IntKind.i64.wrap (k:Int)=k:=fun k hk=>IntWalk.i64_in _ (by omega)
    obtain ⟨ti,zZ,eQ,Uo⟩:∃ti,O.P.info? e=some ti/\ti.size=s/\ti.bytes=by':=by
     unfold cP at hs;unfold Bz at hb
     cases hi:O.P.info? e with
     | none=>simp [hi] at hs
     | some ti=>simp only [hi,yc] at hs hb;exact ⟨ti,rfl,hs,hb⟩
    have CI:((ub (cn*s)).map (zv.cells[·%zv.cells.size]!)).toList=(yA ln zv.cells.toList).flatten++(yA (cn-ln) zv.cells.toList).flatten:=by
     rw [<-JH,Yv,<-tS,List.replicate_append_replicate]
     grind
    have ix:(yA ln (cellsOf (eJ zv))).flatten.length=ln*s:=by rw [Lj,h4]
    have hmul:ln*s<=cn*s:=Nat.mul_le_mul_right _ h1
    refine P0 (arr:=(ub (cn*s)).map (zv.cells[·%zv.cells.size]!)) (t:=e) (us:=(yA ln zv.cells.toList).flatten) hh (u:= .slice (some ⟨w.heap.size,0,none⟩) ln cn) ?_
     (Qs zW ln) ?_ ?_ ?_ (fun h=>?_) ?_
    ·have azC:by'*cn<=1099511627776:=by rw [xN];exact h3
     have rU:((by'*cn:Nat):Int)<=1099511627776:=by omega
     rw [Int.natCast_mul] at rU;have hlc:(ln:Int)<=(cn:Int):=by omega
     have g1:¬(281474976710656<(by':Int)*(cn:Int)):=by omega
     have g2:¬(((ln:Int)<0)):=by omega
     have g3:¬(((cn:Int)<0)):=by omega
     have g4:¬((ln:Int)>(cn:Int)):=by omega
     by_cases h0:cn*s=0
     ·simp [execOp,ho,Instr.makeSlice,run_underlying hu,el,ec,asInt,asIntOf,typeInfo,zZ,Uo,wrapN ln (by omega),wrapN cn h2,g1,g2,g3,g4,ns hs,h0,newRow,askRoom,roomBytes]
      grind
     ·simp [execOp,ho,Instr.makeSlice,run_underlying hu,el,ec,asInt,asIntOf,typeInfo,zZ,Uo,wrapN ln (by omega),wrapN cn h2,g1,g2,g3,g4,ns hs,h0,newRow,askRoom,roomBytes,mD]
    ·intro j u hj
     have:((ub (cn*s)).map (zv.cells[·%zv.cells.size]!)).toList[j]? =some u:=by
      grind
     grind
    ·grind
    ·simp_all
    ·exact Yw h ln
    ·intro m' hi;simp only [aj];refine ⟨_,cn,hi,by simp,h1,?_⟩
     simp
def anM {o:yY} {k:Nat} {v:AV} {b:Obj} (hH:fF O H) (ht:cp O m S w tm a.tmps) (hh:aZ O m S w hp cq)
  (hv:cU tm hp ct (br O.P H k o)=some (v,b)):CD O m S w a ct o v b:=by
 cases ho:o.op with
 | call c=>
  obtain ⟨callee,args,ts⟩:=c;simp only [br,ho] at hv
  repeat' split at hv
  all_goals first
   | (simp [cU,bad] at hv;done)
   | (revert hv;generalize yr _ _=bb;intro hv;cases bb<;>simp [cU,bad] at hv)
 | alloc t=>
  simp only [br,ho] at hv
  split at hv
  ·rename_i s z hs hz;obtain ⟨zv,mD,rfl⟩:=DX (w:=w) hz
   exact Zv (x:=zv) (t:=t) hh (by simp [execOp,ho,Instr.alloc,mD,newVar,newRow]) (DE zv) (by simpa only [cU,az] using hv)
  ·simp [cU,bad] at hv
 | box t x=>
  simp only [br,ho] at hv
  split at hv
  ·rename_i s hs;simp only [cU] at hv
   cases hc:(yr (cellsOf (az tm (aR H x))).length s&&bQ (cellsOf (az tm (aR H x)))) with
   | false=>rw [hc] at hv;cases hv
   | true=>
    have h1:=hc;simp only [yf] at h1
    exact Zv (x:=a.eval x) (t:=t) hh (by simp [execOp,ho,Instr.box,newVar,newRow]) (PY (cF hH ht x) h1.2) hv
  ·simp [cU,bad] at hv
 | buildSlice t n parts=>
  simp only [br,ho] at hv
  split at hv
  ·rename_i e hu
   split at hv
   ·rename_i s z hs hz
    cases hc:yE (n*s) 16777216 with
    | false=>rw [hc] at hv;simp [cU,bad] at hv
    | true=>
     rw [hc] at hv;simp only [ym] at hv
     split at hv
     ·rename_i ps fg;exact ajq hH ht hh ho hu hs hz (yt hc) fg hv
     ·simp [cU,bad] at hv
   ·simp [cU,bad] at hv
  ·simp [cU,bad] at hv
 | makeSlice t l c=>
  simp only [br,ho] at hv
  split at hv
  ·rename_i e hu
   split at hv
   ·rename_i s by' z hs hb hz
    exact alk hH ht hh ho hu hs hb hz hv
   ·simp [cU,bad] at hv
  ·simp [cU,bad] at hv
 | makeMap t r=>
  cases r with
  | some x=>simp [br,ho,cU,bad] at hv
  | none=>
   simp only [br,ho] at hv
   repeat' split at hv
   all_goals first
    | (simp [cU,bad] at hv;done)
    | (
      simp only [cU,yc,yk] at hv;obtain ⟨rfl,rfl⟩:=hv
      exact alj hh ho rfl)
 | range t x=>
  simp only [br,ho] at hv
  split at hv
  ·rename_i hu;simp only [cU] at hv;have rx:=cF hH ht x;cases hx:az tm (aR H x)<;>rw [hx] at hv rx<;>simp only [reduceCtorEq] at hv
   simp only [yc,yk] at hv;obtain ⟨rfl,rfl⟩:=hv;exact ajo hh ho hu rx
  ·simp [cU,bad] at hv
 | next x b=>cases b<;>simp [br,ho,cU,bad] at hv
 | binOp op t x y ty=>
  cases op<;>simp only [br,ho,qZ,sM] at hv
  case eql=>
        repeat' split at hv
        all_goals first
         | (simp [cU,bad] at hv;done)
         | (cases hb:(O.P.stoodInHeld t||O.P.eqGuardType O.P.depth t)<;>rw [hb] at hv<;>simp [cU,bad] at hv)
  case neq=>
        repeat' split at hv
        all_goals first
         | (simp [cU,bad] at hv;done)
         | (cases hb:(O.P.stoodInHeld t||O.P.eqGuardType O.P.depth t)<;>rw [hb] at hv<;>simp [cU,bad] at hv)
  all_goals simp [cU] at hv
 | _=>
  simp only [br,ho] at hv
  (repeat' split at hv)
  all_goals first
   | contradiction
   | (simp [cU,bad] at hv;done)
end
end
section
open Go
def qQ {hp:Hp} {id i:Nat} {o:Obj}:ap (aY hp id o) i=if id=i then (if (ap hp id).isSome then some o else none) else ap hp i:=by
 induction hp with
 | nil=>simp [aY,ap]
 | cons x r ih=>
  obtain ⟨j,q⟩:=x;simp only [aY];by_cases hj:j=id
  ·subst hj;simp only [xo,ym,ap];by_cases hi:j=i
   ·simp_all
   ·have:yr j i=false:=by
     cases hq:yr j i with
     | false=>rfl
     | true=>exact absurd (yo hq) hi
    grind
  ·have hb:yr j id=false:=by
    cases hq:yr j id with
    | false=>rfl
    | true=>exact absurd (yo hq) hj
   simp only [hb,yB];rw [show ap ((j,q)::aY r id o) i=bif yr j i then some q else ap (aY r id o) i from rfl,ih];by_cases hi:j=i
   ·subst hi
    have:¬id=j:=fun h=>hj h.symm
    simp [xo,this,ap]
   ·have rU:yr j i=false:=by
     cases hq:yr j i with
     | false=>rfl
     | true=>exact absurd (yo hq) hi
    simp [rU,ap,hb]
def jM (hp ao:Hp):Prop:=∀id,(ap ao id).isSome=(ap hp id).isSome
def jM.refl {hp:Hp}:jM hp hp:=fun _=>rfl
def jM.trans {a b c:Hp} (h:jM a b) (k:jM b c):jM a c:=fun id=>(k id).trans (h id)
def QW {hp:Hp} {id:Nat} {o o':Obj} (h:ap hp id=some o) (hl:jk o o'):dt hp (aY hp id o')/\jM hp (aY hp id o'):=by
 constructor
 ·intro i q hq;rw [qQ];by_cases hi:id=i
  ·grind
  ·exact ⟨q,by simp [hi,hq],jk.refl q⟩
 ·intro i;rw [qQ]
  grind
def Yx {hp H:Hp} {id:Nat} {pu ex:Bool} {sz:Nat} {cs:List AV} (hl:dt hp H) (h:ap hp id=some (.cells false pu ex sz cs)):ap H id=some (.cells false pu ex sz cs):=by
 obtain ⟨o',h1,eY,rfl,h2⟩:=hl id _ h
 cases eY with
 | false=>exact h1
 | true=>exact absurd (h2 rfl) (by simp)
section
variable {O:bw}
def asm (O:bw) (m:Mp) (S:Nat->Prop) (w:yh) (p:Pl) (ex:Bool) (sz:Nat) (cs:List AV):Prop:=
 p.z=sz/\cs.length<=p.e/\(ex=true->cs.length=p.e)/\S p.b/\aJ cs=true/\bT O.ah m S w cs p.b p.o
def Sy (O:bw) (ao:Hp) (v v':AV):Prop:=∀H m S w ct,dt ao H->aZ O m S w H ct->(∀u,aj O.ah m S w v u->aj O.ah m S w v' u)/\aS v'=true
def aeT (O:bw) (ao:Hp) (vs eh:List AV):Prop:=∀H m S w ct,dt ao H->aZ O m S w H ct->(∀us,au O.ah m S w vs us->au O.ah m S w eh us)/\aJ eh=true
def atS (O:bw) (ao:Hp) (id:Nat) (ex:Bool) (sz:Nat) (cs:List AV):Prop:=∀H m S w ct,dt ao H->aZ O m S w H ct->∀p,m id=some p->asm O m S w p ex sz cs
def DS {ah:Nat->Nat} {m:Mp} {S:Nat->Prop} {w:yh} {b:Nat}:∀(cs:List AV) (us:List ye) (o:Nat),au ah m S w cs us->
  (∀(j:Nat) (u:ye),us[j]? =some u->w.cell? ⟨b,o+j,none⟩=some u)->bT ah m S w cs b o
 | [],us,o,_,_=>by simp only [bT]
 | c::cs,us,o,h,hu=>by
  obtain ⟨u,r,rfl,h2,h3⟩:=h;refine ⟨⟨u,by simpa using hu 0 u (by simp),h2⟩,DS cs r (o+1) h3 (fun j v hv=>?_)⟩;rw [show o+1+j=o+(j+1) by omega]
  simp_all
def asn {m:Mp} {S:Nat->Prop} {w:yh} {cs dK:List AV} (h:∀us,au O.ah m S w cs us->au O.ah m S w dK us) {b o:Nat} (hr:bT O.ah m S w cs b o):bT O.ah m S w dK b o:=by
 obtain ⟨us,h1,_,h3⟩:=sE cs b o hr;exact DS dK us o (h us h1) h3
def B5:∀(k:Nat) {cs:List AV},aJ cs=true->aJ (cs.take k)=true
 | 0,_,_=>by simp [aJ]
 | k+1,[],_=>by simp [aJ]
 | k+1,c::cs,h=>by
  simp only [aJ,yf,List.take_succ_cons] at h ⊢;exact ⟨h.1,B5 k h.2⟩
def alm {ao:Hp} {vs eh:List AV}:∀{n:Nat} {hp:Hp},cN n hp vs=some (eh,ao)->eh.length=vs.length:=by
 intro n
 induction n generalizing vs eh ao with
 | zero=>intro hp h;simp [cN] at h
 | succ n ih=>
  intro hp h
  cases vs with
  | nil=>simp only [cN,yc,yk] at h;rw [<-h.1]
  | cons v r=>
   simp only [cN] at h
   cases h1:freeze n hp v with
   | none=>simp [h1] at h
   | some q=>
    obtain ⟨v',bD⟩:=q;simp only [h1] at h
    cases h2:cN n bD r with
    | none=>simp [h2] at h
    | some q2=>
     grind
def XK:∀n:Nat,
  (∀hp v v' ao,freeze n hp v=some (v',ao)->dt hp ao/\jM hp ao/\Sy O ao v v')/\
  (∀hp id ex sz cs ao,qO n hp id=some (ex,sz,cs,ao)->dt hp ao/\jM hp ao/\atS O ao id ex sz cs)/\
  (∀hp vs eh ao,cN n hp vs=some (eh,ao)->dt hp ao/\jM hp ao/\aeT O ao vs eh):=by
 intro n
 induction n with
 | zero=>refine ⟨?_,?_,?_⟩<;>intros<;>simp_all [freeze,qO,cN]
 | succ n ih=>
  obtain ⟨ihV,ihB,Fg⟩:=ih;refine ⟨?_,?_,?_⟩
  ·intro hp v v' ao h;have plain:∀{v v':AV} {hp ao:Hp},(bif aS v then some (v,hp) else none)=some (v',ao)->dt hp ao/\jM hp ao/\Sy O ao v v':=by
    intro v v' hp ao h
    cases hc:aS v with
    | false=>rw [hc] at h;cases h
    | true=>
     rw [hc] at h;simp only [ym,yc,yk] at h;obtain ⟨rfl,rfl⟩:=h;exact ⟨dt.refl,jM.refl,fun _ _ _ _ _ _ _=>⟨fun _ h=>h,hc⟩⟩
   cases v<;>simp only [freeze] at h<;>first | exact plain h | skip
   case ak id o k=>
    cases hb:qO n hp id with
    | none=>simp [hb] at h
    | some q=>
     obtain ⟨ex,sz,cs,bD⟩:=q;simp only [hb] at h
     cases hc:yE (o+k*sz) cs.length with
     | false=>rw [hc] at h;cases h
     | true=>
      rw [hc] at h;simp only [ym,yc,yk] at h;obtain ⟨rfl,rfl⟩:=h;have hle:=yt hc;obtain ⟨h1,h2,h3⟩:=ihB _ _ _ _ _ _ hb;refine ⟨h1,h2,fun H m S w ct hl hh=>⟨fun u hu=>?_,by simp only [aS]⟩⟩;simp only [aj] at hu ⊢;obtain ⟨p,c,hm,rfl,z6,N9⟩:=hu;obtain ⟨g1,g2,g3,g4,g5,g6⟩:=h3 H m S w ct hl hh p hm;refine .inl ⟨p.b,p.o+o,c,rfl,z6,?_,.inr g4,B5 _ (Aw _ _ g5),B8 _ _ _ _ (qM _ _ _ _ g6)⟩;intro hx;simp only [yf] at hx;have e1:=yo hx.2;have e2:0<sz:=by
       simp_all
      have e3:=g3 hx.1.1;rw [g1] at N9
      have:c*sz=k*sz:=by omega
      exact Nat.eq_of_mul_eq_mul_right e2 this
   case ptr id o=>
    cases hb:qO n hp id with
    | none=>simp [hb] at h
    | some q=>
     obtain ⟨ex,sz,cs,bD⟩:=q;simp only [hb,yc,yk] at h;obtain ⟨rfl,rfl⟩:=h;obtain ⟨h1,h2,h3⟩:=ihB _ _ _ _ _ _ hb;refine ⟨h1,h2,fun H m S w ct hl hh=>⟨fun u hu=>?_,by simp only [aS]⟩⟩;simp only [aj] at hu ⊢;obtain ⟨p,hm,rfl⟩:=hu;obtain ⟨g1,g2,g3,g4,g5,g6⟩:=h3 H m S w ct hl hh p hm;exact ⟨p.b,p.o+o,rfl,.inr g4,Aw _ _ g5,qM _ _ _ _ g6⟩
   case map id=>
    cases hg:ap hp id with
    | none=>simp [hg] at h
    | some ob=>
     cases ob<;>simp only [hg,reduceCtorEq] at h
     rename_i rw ks vs
     cases hc:(aJ ks&&aJ vs) with
     | false=>rw [hc] at h;cases h
     | true=>
      rw [hc] at h;simp only [ym,yc,yk] at h;obtain ⟨rfl,rfl⟩:=h;simp only [yf] at hc;obtain ⟨h1,h2⟩:=QW hg (o':= .mp false ks vs) ⟨false,rfl,by simp⟩;refine ⟨h1,h2,fun H m S w ct hl hh=>⟨fun u hu=>?_,by simp only [aS]⟩⟩;simp only [aj] at hu ⊢;obtain ⟨p,hm,rfl⟩:=hu;have hq:ap (aY hp id (.mp false ks vs)) id=some (.mp false ks vs):=by rw [qQ];simp [hg]
      obtain ⟨o',h3,eY,rfl,h4⟩:=hl id _ hq;have BD:eY=false:=by cases eY with | false=>rfl | true=>exact absurd (h4 rfl) (by simp)
      subst BD;obtain ⟨p',es,clock,g1,g2,g3,g4,g5,g6⟩:=hh.obj id _ _ h3 hm;rw [hm] at g1;injection g1 with g1
      subst g1;exact ⟨p.b,es,clock,rfl,g6 rfl,hc.1,hc.2,g2,g3,g4⟩
   case fn f first cap=>
    cases f with
    | y l=>simp only [aS,yB,reduceCtorEq] at h
    | f g=>
     simp only at h
     cases h1:cN n hp first with
     | none=>simp [h1] at h
     | some q=>
      obtain ⟨abn,bD⟩:=q;simp only [h1] at h
      cases h2:cN n bD cap with
      | none=>simp [h2] at h
      | some q2=>
       obtain ⟨MS,ji⟩:=q2;simp only [h2,yc,yk] at h;obtain ⟨rfl,rfl⟩:=h;obtain ⟨a1,a2,a3⟩:=Fg _ _ _ _ h1;obtain ⟨b1,b2,b3⟩:=Fg _ _ _ _ h2;refine ⟨a1.trans b1,a2.trans b2,fun H m S w ct hl hh=>?_⟩;obtain ⟨c1,c2⟩:=a3 H m S w ct (b1.trans hl) hh;obtain ⟨d1,d2⟩:=b3 H m S w ct hl hh;refine ⟨fun u hu=>?_,by simp [aS,c2,d2]⟩;simp only [aj] at hu ⊢;obtain ⟨fi,ca,rfl,e1,e2⟩:=hu;exact ⟨fi,ca,rfl,c1 _ e1,d1 _ e2⟩
   case agg cs=>
    cases h1:cN n hp cs with
    | none=>simp [h1] at h
    | some q=>
     obtain ⟨dK,bD⟩:=q;simp only [h1,yc,yk] at h;obtain ⟨rfl,rfl⟩:=h;obtain ⟨a1,a2,a3⟩:=Fg _ _ _ _ h1;refine ⟨a1,a2,fun H m S w ct hl hh=>?_⟩;obtain ⟨c1,c2⟩:=a3 H m S w ct hl hh;refine ⟨fun u hu=>?_,by simpa [aS] using c2⟩;simp only [aj] at hu ⊢;obtain ⟨xs,rfl,e1⟩:=hu;exact ⟨xs,rfl,c1 _ e1⟩
   case aq cs=>
    cases h1:cN n hp cs with
    | none=>simp [h1] at h
    | some q=>
     obtain ⟨dK,bD⟩:=q;simp only [h1,yc,yk] at h;obtain ⟨rfl,rfl⟩:=h;obtain ⟨a1,a2,a3⟩:=Fg _ _ _ _ h1;refine ⟨a1,a2,fun H m S w ct hl hh=>?_⟩;obtain ⟨c1,c2⟩:=a3 H m S w ct hl hh;refine ⟨fun u hu=>?_,by simpa [aS] using c2⟩;simp only [aj] at hu ⊢;obtain ⟨xs,rfl,e1⟩:=hu;exact ⟨xs,rfl,c1 _ e1⟩
  ·intro hp id ex sz dK ao h;simp only [qO] at h
   cases hg:ap hp id with
   | none=>simp [hg] at h
   | some ob=>
    cases ob<;>simp only [hg,reduceCtorEq] at h
    rename_i rw pu rP BE cs
    cases pu with
    | true=>
     simp only [ym,yc,yk] at h;obtain ⟨rfl,rfl,rfl,rfl⟩:=h;have hq:dt hp (bif rw then aY hp id (.cells false true rP BE cs) else hp)/\jM hp (bif rw then aY hp id (.cells false true rP BE cs) else hp)/\ap (bif rw then aY hp id (.cells false true rP BE cs) else hp) id=some (.cells false true rP BE cs):=by
      cases rw with
      | true=>
       obtain ⟨h1,h2⟩:=QW hg (o':= .cells false true rP BE cs) ⟨false,rfl,by simp⟩;exact ⟨h1,h2,by simp [qQ,hg]⟩
      | false=>exact ⟨dt.refl,jM.refl,hg⟩
     refine ⟨hq.1,hq.2.1,fun H m S w ct hl hh p hm=>?_⟩;obtain ⟨p',arr,t,g1,g2,g3,g4,g5,g6,g7,g8,g9,g10⟩:=hh.obj id _ _ (Yx hl hq.2.2) hm;rw [hm] at g1;injection g1 with g1
     subst g1;exact ⟨g3,g4,g6,g10 rfl,g8 rfl,g7⟩
    | false=>
     simp only [yB] at h
     cases h1:cN n hp cs with
     | none=>simp [h1] at h
     | some q=>
      obtain ⟨rV,bD⟩:=q;simp only [h1,yc,yk] at h;obtain ⟨rfl,rfl,rfl,rfl⟩:=h;obtain ⟨a1,a2,a3⟩:=Fg _ _ _ _ h1;obtain ⟨o1,ib,rw1,rfl,_⟩:=a1 id _ hg;obtain ⟨b1,b2⟩:=QW ib (o':= .cells false false rP BE cs) ⟨false,rfl,by simp⟩;refine ⟨a1.trans b1,a2.trans b2,fun H m S w ct hl hh p hm=>?_⟩;have hq:ap (aY bD id (.cells false false rP BE cs)) id=some (.cells false false rP BE cs):=by simp [qQ,ib]
      obtain ⟨p',arr,t,g1,g2,g3,g4,g5,g6,g7,g8,g9,g10⟩:=hh.obj id _ _ (Yx hl hq) hm;rw [hm] at g1;injection g1 with g1
      subst g1;obtain ⟨c1,c2⟩:=a3 H m S w ct (b1.trans hl) hh;have hlen:=alm h1
      exact ⟨g3,by omega,fun hx=>by have:=g6 hx;omega,g10 rfl,c2,asn c1 g7⟩
  ·intro hp vs eh ao h
   cases vs with
   | nil=>
    simp only [cN,yc,yk] at h;obtain ⟨rfl,rfl⟩:=h;exact ⟨dt.refl,jM.refl,fun _ _ _ _ _ _ _=>⟨fun _ h=>h,rfl⟩⟩
   | cons v r=>
    simp only [cN] at h
    cases h1:freeze n hp v with
    | none=>simp [h1] at h
    | some q=>
     obtain ⟨v1,bD⟩:=q;simp only [h1] at h
     cases h2:cN n bD r with
     | none=>simp [h2] at h
     | some q2=>
      obtain ⟨r1,ji⟩:=q2;simp only [h2,yc,yk] at h;obtain ⟨rfl,rfl⟩:=h;obtain ⟨a1,a2,a3⟩:=ihV _ _ _ _ h1;obtain ⟨b1,b2,b3⟩:=Fg _ _ _ _ h2;refine ⟨a1.trans b1,a2.trans b2,fun H m S w ct hl hh=>?_⟩;obtain ⟨c1,c2⟩:=a3 H m S w ct (b1.trans hl) hh;obtain ⟨d1,d2⟩:=b3 H m S w ct hl hh;refine ⟨fun us hu=>?_,by simp [aJ,c2,d2]⟩;simp only [au] at hu ⊢;obtain ⟨u,t,rfl,e1,e2⟩:=hu;exact ⟨u,t,rfl,c1 _ e1,d1 _ e2⟩
def PH {n:Nat} {hp ao:Hp} {vs eh:List AV} (h:cN n hp vs=some (eh,ao)):dt hp ao/\jM hp ao/\aeT O ao vs eh:=(XK n).2.2 _ _ _ _ h
def P1 {n:Nat} {hp ao:Hp} {v v':AV} (h:freeze n hp v=some (v',ao)):dt hp ao/\jM hp ao/\Sy O ao v v':=(XK n).1 _ _ _ _ h
end
end
end VE
