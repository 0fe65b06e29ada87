import Derived.Laws.Tables
import Derived.IntWalk
import Derived.Test.YtflgmingejdfnaaGreatDoorTab
set_option linter.all false
set_option maxRecDepth 100000
open Array renaming range→vn
open Bool renaming and_eq_true→ye
open Go renaming Oper→yI,Operand→y8,TypeId→yj,Value→yd,World→yf
open List renaming flatten_append→uP,flatten_cons→wU,range→yO,replicate→yu,replicate_succ→xK
open Nat renaming add_mul→w7,beq→yk,beq_refl→y9,ble→yy,eq_of_beq_eq_true→yh,le_of_ble_eq_true→yo,mul_comm→uJ
open Option.some renaming injEq→yb
open Prod.mk renaming injEq→yg
namespace VE
section
open Go
section
variable {O:a8} {H:Hint} {m:Mp} {S:Nat->Prop} {w:yf} {tm:Env} {a:Act} {hp:Hp} {ct:Nat}
def Az {o:yI} {b:Builtin} {args:Array y8} {ts:Array yj} (ho:o.op= .call {callee:= .builtin b,args:=args,argTypes:=ts}):
  ∃cs,(execOp a.eval o).run O.P w=(builtin b ts o.type cs (args.map a.eval)).run O.P w:=by
 exact ⟨_,by simp only [execOp,ho,resolve,Sem.run_bind,Sem.run_pure,Result.andThen_ok,invoke];rfl⟩
def YK {o:yI} {c:Call} {k:Nat} {v:AV} (hH:dY O H) (ht:bM O m S w tm a.tmps) (hh:aJ O m S w hp ct) (ho:o.op= .call c)
  (hv:bf tm hp (aW O.P H k o)=some v):Reads O m S w a o v:=by
 obtain ⟨callee,args,ts⟩:=c;simp only [aW,ho] at hv
 split at hv
 ·cases Kp:H.mode k<;>simp [Kp,bf] at hv
 ·rename_i _ b
  split at hv
  ·have key:∀{bb:Bool} {sz by':Nat} {x y:X},bf tm hp (bif bb then .cy sz by' x y else bad)=some v->False:=by
    intro bb sz by' x y h
    cases bb
    ·exact cG h
    ·simp [bf] at h
   split at hv
   ·split at hv
    ·exact (key hv).elim
    ·simp_all
   ·split at hv
    ·exact (key hv).elim
    ·simp_all
   ·simp_all
  ·rename_i x t fM pI;obtain ⟨al⟩:=args;obtain ⟨tl⟩:=ts;simp only at fM pI;subst fM;subst pI;obtain ⟨cs,eM⟩:=Az (O:=O) (w:=w) (a:=a) ho;have fin:(∃u,(Builtin.len_ #[t] o.type #[a.eval x]).run O.P w= .ok u w/\af O.ae m S w v u)->Reads O m S w a o v:=by
    rintro ⟨u,h1,h2⟩;refine ⟨u,?_,h2⟩;rw [eM];simp [builtin,h1]
   split at hv
   ·rename_i n e hu;simp only [bf,aq,yb] at hv;subst hv;exact fin ⟨_,by simp [Builtin.len_,run_underlying hu];rfl,by simp [af,goInt]⟩
   ·rename_i hu;simp only [bf] at hv;exact fin (IZ hh (bQ hH ht x) (.inl ⟨rfl,hu⟩) hv)
   ·rename_i e hu;simp only [bf] at hv;exact fin (IZ hh (bQ hH ht x) (.inr (.inl ⟨rfl,e,hu⟩)) hv)
   ·rename_i kt e hu;simp only [bf] at hv;exact fin (IZ hh (bQ hH ht x) (.inr (.inr ⟨rfl,kt,e,hu⟩)) hv)
   ·exact (cG hv).elim
  ·split at hv
   ·split at hv
    ·simp [bf] at hv
    ·exact (cG hv).elim
   ·exact (cG hv).elim
  ·simp only [bf] at hv;obtain ⟨cs,eM⟩:=Az (O:=O) (w:=w) (a:=a) ho;have hl:=qF hH ht args.toList
   cases hx:cA tm (eW H args.toList) with
   | nil=>simp [hx] at hv
   | cons c r=>
    simp only [hx] at hv;rw [hx] at hl;simp only [an] at hl;obtain ⟨u,us,h1,h2,h3⟩:=hl;obtain ⟨q,h4,h5⟩:=Iv (O:=O) (g:=Builtin.min2) (fun va vb v x y hx hy h=>acF hx hy h) r us c v u h2 h3 hv;refine ⟨q,?_,h5⟩;rw [eM];simp [builtin,Builtin.min_,h1,h4]
  ·simp only [bf] at hv;obtain ⟨cs,eM⟩:=Az (O:=O) (w:=w) (a:=a) ho;have hl:=qF hH ht args.toList
   cases hx:cA tm (eW H args.toList) with
   | nil=>simp [hx] at hv
   | cons c r=>
    simp only [hx] at hv;rw [hx] at hl;simp only [an] at hl;obtain ⟨u,us,h1,h2,h3⟩:=hl;obtain ⟨q,h4,h5⟩:=Iv (O:=O) (g:=Builtin.max2) (fun va vb v x y hx hy h=>acG hx hy h) r us c v u h2 h3 hv;refine ⟨q,?_,h5⟩;rw [eM];simp [builtin,Builtin.max_,h1,h4]
  ·exact (cG hv).elim
 ·exact (cG hv).elim
def Mn {kt:yj} {kk:Nat} {vk:AV} (hk:keyOf O.P kt=some kk) (h:nk kk vk=true):∃d,O.P.underlying kt=some d/\E5 d=true/\fits d vk=true:=by
 unfold keyOf at hk
 split at hk
 ·rename_i hu;simp only [yb] at hk;subst hk;refine ⟨_,hu,rfl,?_⟩;cases vk<;>simp_all [nk,fits]
 ·rename_i hu;simp only [yb] at hk;subst hk;refine ⟨_,hu,rfl,?_⟩;cases vk<;>simp_all [nk,fits]
 ·rename_i hu;simp only [yb] at hk;subst hk;refine ⟨_,hu,rfl,?_⟩;cases vk<;>simp_all [nk,fits]
 ·cases hk
def OW {o:yI} {k:Nat} {v:AV} (hH:dY O H) (ht:bM O m S w tm a.tmps) (hh:aJ O m S w hp ct)
  (hv:bf tm hp (aW O.P H k o)=some v):Reads O m S w a o v:=by
 cases ho:o.op with
 | call c=>exact YK hH ht hh ho hv
 | binOp op t x y ty=>exact aas hH ht ho hv
 | move x=>
  simp only [aW,ho,bf,yb] at hv;subst hv;exact ⟨_,by simp only [execOp,ho,Sem.run_pure],bQ hH ht x⟩
 | assign x=>
  simp only [aW,ho,bf,yb] at hv;subst hv;exact ⟨_,by simp only [execOp,ho,Sem.run_pure],bQ hH ht x⟩
 | pick c x y=>
  simp only [aW,ho,bf] at hv;have rc:=bQ hH ht c;cases hc:aq tm (aH H c)<;>rw [hc] at hv<;>simp only [reduceCtorEq] at hv
  rename_i b;rw [hc] at rc;simp only [af] at rc;simp only [yb] at hv;subst hv
  cases b with
  | true=>exact ⟨a.eval x,by simp [execOp,ho,rc,asBool],bQ hH ht x⟩
  | false=>exact ⟨a.eval y,by simp [execOp,ho,rc,asBool],bQ hH ht y⟩
 | load t x=>
  simp only [aW,ho] at hv
  split at hv
  ·rename_i s ag hz ha;simp only [bf] at hv;exact gR (by simp only [execOp,ho]) (ahm hh hz ha (bQ hH ht x) hv)
  ·exact (cG hv).elim
 | fieldAddr t x i=>
  simp only [aW,ho] at hv
  split at hv
  ·rename_i fs hu
   split at hv
   ·rename_i f hf
    split at hv
    ·rename_i s hz;simp only [bf] at hv;exact gR (by simp only [execOp,ho]) (aeK hu hf hz (bQ hH ht x) hv)
    ·exact (cG hv).elim
   ·exact (cG hv).elim
  ·exact (cG hv).elim
 | field t x i=>
  simp only [aW,ho] at hv
  split at hv
  ·rename_i fs hu
   split at hv
   ·rename_i f hf
    split at hv
    ·rename_i s ag hz ha;simp only [bf] at hv;exact gR (by simp only [execOp,ho]) (aeL hu hf hz ha (bQ hH ht x) hv)
    ·exact (cG hv).elim
   ·exact (cG hv).elim
  ·exact (cG hv).elim
 | nilCheck x=>
  simp only [aW,ho,bf] at hv;have rx:=bQ hH ht x;cases hx:aq tm (aH H x)<;>rw [hx] at hv rx<;>simp only [reduceCtorEq,yb] at hv
  ·subst hv;have r':=rx;simp only [af] at r';obtain ⟨p,_,e⟩:=r';exact ⟨a.eval x,by simp only [execOp,ho,e,Sem.run_pure],rx⟩
  ·subst hv;have r':=rx;simp only [af] at r';obtain ⟨b,o',e,_⟩:=r';exact ⟨a.eval x,by simp only [execOp,ho,e,Sem.run_pure],rx⟩
  ·subst hv;rename_i f _ _
   cases f with
   | f g=>
    have r':=rx;simp only [af] at r';obtain ⟨fi,ca,e,_⟩:=r';exact ⟨a.eval x,by simp only [execOp,ho,e,Sem.run_pure],rx⟩
   | y l=>
    have r':=rx;simp only [af] at r';obtain ⟨p,_,e⟩:=r';exact ⟨a.eval x,by simp only [execOp,ho,e,Sem.run_pure],rx⟩
 | unOp op t x=>
  simp only [aW,ho,bf] at hv;exact gR (by simp only [execOp,ho]) (acE (bQ hH ht x) hv)
 | convert s d x=>
  simp only [aW,ho] at hv
  split at hv
  ·rename_i k1 k2 hs hd;simp only [bf] at hv;exact gR (by simp only [execOp,ho]) (NX hd (.inl ⟨_,hs⟩) (bQ hH ht x) hv)
  ·rename_i k1 k2 hs hd;simp only [bf] at hv;exact gR (by simp only [execOp,ho]) (NX hd (.inr ⟨_,hs⟩) (bQ hH ht x) hv)
  ·rename_i k1 k2 hs hd;simp only [bf] at hv;exact gR (by simp only [execOp,ho]) (NY hd (.inl ⟨_,hs⟩) (bQ hH ht x) hv)
  ·rename_i k1 k2 hs hd;simp only [bf] at hv;exact gR (by simp only [execOp,ho]) (NY hd (.inr ⟨_,hs⟩) (bQ hH ht x) hv)
  ·rename_i hs hd;simp only [bf] at hv;exact gR (by simp only [execOp,ho]) (aap hd hs (bQ hH ht x) hv)
  ·exact (cG hv).elim
 | makeFunc fn first cap=>
  cases fn with
  | func f=>
   simp only [aW,ho] at hv
   split at hv
   ·rename_i g hg;simp only [bf,yb] at hv;subst hv;refine ⟨.func (.func f) (first.map a.eval) (cap.map a.eval),by simp [execOp,ho,Instr.makeFunc],?_⟩;simp only [af];exact ⟨_,_,by rw [hH f g hg],by simpa using qF hH ht first.toList,by simpa using qF hH ht cap.toList⟩
   ·exact (cG hv).elim
  | _=>simp only [aW,ho] at hv;exact (cG hv).elim
 | slice t x lo hi mx=>
  cases mx with
  | some q=>simp only [aW,ho] at hv;exact (cG hv).elim
  | none=>
   simp only [aW,ho] at hv
   split at hv
   ·rename_i hu;simp only [bf] at hv;exact gR (by simp only [execOp,ho];rfl) (YI hH ht hu (bQ hH ht x) hv)
   ·rename_i e hu
    split at hv
    ·rename_i s hz;simp only [bf] at hv;exact gR (by simp only [execOp,ho];rfl) (aaq hH ht hu hz hh (bQ hH ht x) hv)
    ·exact (cG hv).elim
   ·split at hv
    ·simp only [bf] at hv;cases hx:aq tm (aH H x)<;>rw [hx] at hv<;>simp [fu] at hv
    ·exact (cG hv).elim
   ·exact (cG hv).elim
 | indexAddr t x i=>
  simp only [aW,ho] at hv
  split at hv
  ·rename_i e hu
   split at hv
   ·rename_i s hz;simp only [bf] at hv
    cases hk:cQ (aq tm (aH H i)) with
    | none=>simp [hk] at hv
    | some j=>
     simp only [hk] at hv;exact gR (by simp only [execOp,ho]) (aeM hu hz (bQ hH ht x) (bQ hH ht i) hk hv)
   ·exact (cG hv).elim
  ·rename_i n e hu
   split at hv
   ·rename_i s hz;simp only [bf] at hv
    cases hk:cQ (aq tm (aH H i)) with
    | none=>simp [hk] at hv
    | some j=>
     simp only [hk] at hv;exact gR (by simp only [execOp,ho]) (aeN hu hz (bQ hH ht x) (bQ hH ht i) hk hv)
   ·exact (cG hv).elim
  ·exact (cG hv).elim
 | index t x i=>
  simp only [aW,ho] at hv
  split at hv
  ·rename_i hu;simp only [bf] at hv
   cases hk:cQ (aq tm (aH H i)) with
   | none=>simp [hk] at hv
   | some j=>
    simp only [hk] at hv;exact gR (by simp only [execOp,ho]) (aeP hu (bQ hH ht x) (bQ hH ht i) hk hv)
  ·rename_i n e hu
   split at hv
   ·rename_i s ag hz ha;simp only [bf] at hv
    cases hk:cQ (aq tm (aH H i)) with
    | none=>simp [hk] at hv
    | some j=>
     simp only [hk] at hv;exact gR (by simp only [execOp,ho]) (aeO hu hz ha (bQ hH ht x) (bQ hH ht i) hk hv)
   ·exact (cG hv).elim
  ·exact (cG hv).elim
 | lookup t x i ok=>
  simp only [aW,ho] at hv
  split at hv
  ·rename_i kt e hu
   split at hv
   ·rename_i kk z rQ hz;simp only [bf] at hv
    cases hf:nk kk (aq tm (aH H i)) with
    | false=>simp [hf] at hv
    | true=>
     simp only [hf,yi] at hv;obtain ⟨d,lK,gM,Kq⟩:=Mn rQ hf;obtain ⟨zv,jA,rfl⟩:=sO (w:=w) hz
     cases hr:oR hp (aq tm (aH H i)) (aq tm (aH H x)) with
     | none=>simp [hr] at hv
     | some r=>
      refine gR (by simp only [execOp,ho]) (aeQ (ok:=ok) (r:=r) (z:=du zv) hh hu lK gM Kq jA (bQ hH ht x) (bQ hH ht i) (D7 zv) hr ?_);cases r<;>simpa [hr] using hv
   ·exact (cG hv).elim
  ·exact (cG hv).elim
 | extract x i=>
  simp only [aW,ho,bf] at hv;have rx:=bQ hH ht x;cases hx:aq tm (aH H x)<;>rw [hx] at hv rx<;>simp only [reduceCtorEq] at hv
  simp only [af] at rx;obtain ⟨xs,e,hr⟩:=rx;obtain ⟨u,h1,h2⟩:=HT hr hv;refine ⟨u,?_,h2⟩;have zL:xs[i]? =some u:=by simpa using h1
  simp [execOp,ho,e,Instr.extract,zL]
 | build t parts=>
  simp only [aW,ho] at hv
  split at hv
  ·rename_i fs z hu hz
   split at hv
   ·rename_i pl ai1;have mL:=run_places (P:=O.P) w fs.toList pl ai1
    split at hv
    case h_2=>exact (cG hv).elim
    rename_i ps lL;simp only [bf] at hv
    cases hf:fill tm z ps with
    | none=>simp [hf] at hv
    | some cs=>
     simp only [hf,yb] at hv;subst hv;obtain ⟨zv,jA,fR⟩:=sO (w:=w) hz;have nX:an O.ae m S w z zv.cells.toList:=by
      have:=sA (ae:=O.ae) (m:=m) (S:=S) (w:=w) zv
      rw [<-fR] at this;exact this
     obtain ⟨out,h1,h2⟩:=D9 hH ht (place:=fun i=>pl[i]?) parts.toList ps z cs zv.cells lL nX hf;refine ⟨.agg out,?_,by simp only [af];exact ⟨out,rfl,h2⟩⟩
     have hm:(Array.mapM (fun f=>Functor.map (Prod.mk f.offset) (Go.sizeOf f.type)) fs:Sem (Array (Nat×Nat))).run O.P w= .ok pl.toArray w:=by
      rw [Array.mapM_eq_mapM_toList];simp [mL]
     simp [execOp,ho,Instr.build,jA,run_underlying hu,hm,h1]
   ·exact (cG hv).elim
  ·rename_i n e z hu hz
   split at hv
   ·rename_i s hs
    split at hv
    ·rename_i ps lL;simp only [bf] at hv
     cases hf:fill tm z ps with
     | none=>simp [hf] at hv
     | some cs=>
      simp only [hf,yb] at hv;subst hv;obtain ⟨zv,jA,fR⟩:=sO (w:=w) hz;have nX:an O.ae m S w z zv.cells.toList:=by
       have:=sA (ae:=O.ae) (m:=m) (S:=S) (w:=w) zv
       rw [<-fR] at this;exact this
      obtain ⟨out,h1,h2⟩:=D9 hH ht (place:=fun i=>some (i*s,s)) parts.toList ps z cs zv.cells lL nX hf;refine ⟨.agg out,?_,by simp only [af];exact ⟨out,rfl,h2⟩⟩
      simp [execOp,ho,Instr.build,jA,run_underlying hu,jG hs,h1]
    ·exact (cG hv).elim
   ·exact (cG hv).elim
  ·exact (cG hv).elim
 | alloc t=>simp only [aW,ho] at hv;split at hv<;>simp [bf,bad] at hv
 | box t x=>simp only [aW,ho] at hv;split at hv<;>simp [bf,bad] at hv
 | buildSlice t n parts=>
  simp only [aW,ho] at hv
  split at hv
  ·split at hv
   ·rename_i s z _ _
    cases hc:yy (n*s) 16777216 with
    | false=>rw [hc] at hv;exact (cG hv).elim
    | true=>
     rw [hc] at hv;simp only [yi] at hv
     split at hv
     ·simp [bf] at hv
     ·exact (cG hv).elim
   ·exact (cG hv).elim
  ·exact (cG hv).elim
 | makeMap t r=>
  cases r<;>simp only [aW,ho] at hv
  ·repeat' split at hv
   all_goals simp [bf,bad] at hv
  ·exact (cG hv).elim
 | makeSlice t l c=>
  simp only [aW,ho] at hv
  repeat' split at hv
  all_goals simp [bf,bad] at hv
 | insert t x k y=>
  simp only [aW,ho] at hv
  repeat' split at hv
  all_goals simp [bf,bad] at hv
 | mapUpdate t x k y=>
  simp only [aW,ho] at hv
  repeat' split at hv
  all_goals simp [bf,bad] at hv
 | store t x y=>simp only [aW,ho] at hv;split at hv<;>simp [bf,bad] at hv
 | range t x=>simp only [aW,ho] at hv;split at hv<;>simp [bf,bad] at hv
 | next x b=>cases b<;>simp [aW,ho,bf,bad] at hv
 | _=>simp [aW,ho,bf,bad] at hv
end
end
section
open Go
def dS (m:Mp) (id:Nat) (p:Pl):Mp:=fun i=>if i=id then some p else m i
def de {m:Mp} {id:Nat} {p:Pl}:dS m id p id=some p:=by simp [dS]
def dd {m:Mp} {id i:Nat} {p:Pl} (h:i≠id):dS m id p i=m i:=by simp [dS,h]
section
variable {O:a8} {m:Mp} {S:Nat->Prop} {w:yf} {hp:Hp} {ct:Nat}
def cE (m m':Mp):Prop:=∀id p,m id=some p->m' id=some p
def cE.refl {m:Mp}:cE m m:=fun _ _ h=>h
def cE.trans {m m' Cx:Mp} (h:cE m m') (k:cE m' Cx):cE m Cx:=fun id p hp=>k id p (h id p hp)
def ic {i:Nat} (h:m i=none) {p:Pl}:cE m (dS m i p):=by
 intro id q hq;rw [dd]
 ·grind
 ·grind
def ow {tm:Env} {tmps:Array yd} {m':Mp} {S':Nat->Prop} {w':yf} (hm:∀id p,m id=some p->m' id=some p) (hS:∀b,S b->S' b) (hw:ej S w w')
  (h:bM O m S w tm tmps):bM O m' S' w' tm tmps:=fun i=>iU hm hS hw _ _ (h i)
def alloc_old {o:Go.Obj} {b:Nat} (hb:b<w.heap.size):(w.alloc o).heap[b]? =w.heap[b]? :=RowKit.Below.heap_alloc w o b hb
def ma {m':Mp} {S':Nat->Prop} {w':yf} {id:Nat} {o:Obj} (hm:∀id p,m id=some p->m' id=some p) (hS:∀b,S b->S' b) (hw:ej S w w') (hb:∀p,m id=some p->w'.heap[p.b]? =w.heap[p.b]?)
  (hn:∀p,m id=some p->S' p.b->S p.b) (h:dR O m S w id o):dR O m' S' w' id o:=by
 have rowAt:∀(cs:List AV) (b k:Nat),w'.heap[b]? =w.heap[b]? ->bC O.ae m S w cs b k->bC O.ae m' S' w' cs b k:=by
  intro cs
  induction cs with
  | nil=>intro b k _ _;simp only [bC]
  | cons c cs ih=>
   intro b k pJ hr;obtain ⟨⟨u,h1,h2⟩,h3⟩:=hr;exact ⟨⟨u,(Di pJ).trans h1,iU hm hS hw _ _ h2⟩,ih b (k+1) pJ h3⟩
 cases o with
 | cells rw pu ex sz cs=>
  obtain ⟨p,arr,t,h1,h2,h3,h4,h5,h6,h7,h8,h9,rR⟩:=h;exact ⟨p,arr,t,hm _ _ h1,(hb p h1).trans h2,h3,h4,h5,h6,rowAt cs p.b p.o (hb p h1) h7,h8,fun hr hs=>h9 hr (hn p h1 hs),fun hr=>hS _ (rR hr)⟩
 | mp rw ks vs=>
  obtain ⟨p,es,clock,h1,h2,h3,h4,h5,h6⟩:=h;exact ⟨p,es,clock,hm _ _ h1,(hb p h1).trans h2,fb hm hS hw _ _ h3,fb hm hS hw _ _ h4,fun hr hs=>h5 hr (hn p h1 hs),fun hr=>hS _ (h6 hr)⟩
 | si s pos=>
  obtain ⟨p,t,h1,h2,h3,h4⟩:=h;exact ⟨p,t,hm _ _ h1,(hb p h1).trans h2,h3,fun hs=>h4 (hn p h1 hs)⟩
 | lp tm ps as_ body st pe=>
  obtain ⟨p,l,hi,h1,h2,h3,h4,h5,h6,h7,h8⟩:=h;exact ⟨p,l,hi,hm _ _ h1,(hb p h1).trans h2,fun hs=>h3 (hn p h1 hs),h4,h5,h6,ow hm hS hw h7,h8⟩
def fc {id i:Nat} {o:Obj}:ak ((id,o)::hp) i=if id=i then some o else ak hp i:=by
 simp only [ak]
 simp_all
def AF (hh:aJ O m S w hp ct) (g:Go.Obj):ej S w (w.alloc g):=fun b hb=>alloc_old (hh.slt b hb)
def gw:Obj->Obj->Prop
 | .cells rw pu ex sz cs,o'=>∃dL,o'= .cells dL pu ex sz cs/\(dL=true->rw=true)
 | .mp rw ks vs,o'=>∃dL,o'= .mp dL ks vs/\(dL=true->rw=true)
 | .si s pos,o'=>o'= .si s pos
 | .lp tm ps as_ body st pe,o'=>o'= .lp tm ps as_ body st pe
def gw.refl:∀o,gw o o
 | .cells rw _ _ _ _=>⟨rw,rfl,fun h=>h⟩
 | .mp rw _ _=>⟨rw,rfl,fun h=>h⟩
 | .si _ _=>rfl
 | .lp _ _ _ _ _ _=>rfl
def gw.trans {a b c:Obj} (h:gw a b) (k:gw b c):gw a c:=by
 cases a with
 | cells rw pu ex sz cs=>
  obtain ⟨r1,rfl,h1⟩:=h;obtain ⟨r2,rfl,h2⟩:=k;exact ⟨r2,rfl,fun h=>h1 (h2 h)⟩
 | mp rw ks vs=>
  obtain ⟨r1,rfl,h1⟩:=h;obtain ⟨r2,rfl,h2⟩:=k;exact ⟨r2,rfl,fun h=>h1 (h2 h)⟩
 | si s pos=>simp only [gw] at h;subst h;exact k
 | lp tm ps as_ body st pe=>simp only [gw] at h;subst h;exact k
def cr (hp ai:Hp):Prop:=∀id o,ak hp id=some o->∃o',ak ai id=some o'/\gw o o'
def cr.refl {hp:Hp}:cr hp hp:=fun _ o h=>⟨o,h,gw.refl o⟩
def cr.trans {a b c:Hp} (h:cr a b) (k:cr b c):cr a c:=fun id o ho=>
 let ⟨o1,h1,l1⟩:=h id o ho
 let ⟨o2,h2,l2⟩:=k id o1 h1
 ⟨o2,h2,l1.trans l2⟩
def fW:Obj->Prop
 | .cells rw _ _ _ _=>rw=false
 | .mp rw _ _=>rw=false
 | _=>False
def OX {ai:Hp} {aO:Nat} (hh:aJ O m S w hp ct) (hl:cr hp ai) (hd:∀id o p,ak ai id=some o->m id=some p->∃o',ak hp id=some o') (eN:ct<=aO) (ai2:∀id o,ak ai id=some o->id<aO):
  ∃S',aJ O m S' w ai aO/\(∀b,S b->S' b)/\∀b,S' b->S b\/da m hp b:=by
 refine ⟨fun b=>S b\/∃id p o,m id=some p/\p.b=b/\ak ai id=some o/\fW o,?_,fun b h=> .inl h,?_⟩
 ·refine ⟨?_,fun id p h=>Nat.lt_of_lt_of_le (hh.lt id p h) eN,?_,?_,hh.blt,hh.low,hh.iK,hh.eK,ai2⟩
  ·intro id o' p jz hm;obtain ⟨o,ho⟩:=hd id o' p jz hm;obtain ⟨Vf,h1,h2⟩:=hl id o ho;rw [jz] at h1;injection h1 with h1
   subst h1;have h3:=hh.obj id o p ho hm;have hS:∀b,S b->(S b\/∃id p o,m id=some p/\p.b=b/\ak ai id=some o/\fW o):=fun b h=> .inl h
   have jg:∀q,m id=some q->(∃id p o,m id=some p/\p.b=q.b/\ak ai id=some o/\fW o)->fW o':=by
    rintro q hq ⟨j,pj,oj,Kr,hj2,hj3,hj4⟩;obtain ⟨CB,hj5⟩:=hd j oj pj hj3 Kr
    have:=hh.inj id j o CB q pj ho hj5 hq Kr hj2.symm
    grind
   have aT:ej S w w:=fun _ _=>rfl
   cases o with
   | cells rw pu ex sz cs=>
    obtain ⟨dL,rfl,lM⟩:=h2;obtain ⟨q,arr,t,h1,h2,h3,h4,h5,h6,h7,h8,h9,rR⟩:=h3;refine ⟨q,arr,t,h1,h2,h3,h4,h5,h6,?_,h8,?_,?_⟩
    ·clear h4 h6 h8;revert h7;generalize q.o=k
     induction cs generalizing k with
     | nil=>intro _;simp only [bC]
     | cons c cs ih=>
      intro hr;simp only [bC] at hr ⊢;obtain ⟨⟨u,g1,g2⟩,g3⟩:=hr
      exact ⟨⟨u,g1,iU (fun _ _ h=>h) hS aT _ _ g2⟩,by
       have CA:∀(cs:List AV) (b k:Nat),bC O.ae m S w cs b k->bC O.ae m (fun b=>S b\/∃id p o,m id=some p/\p.b=b/\ak ai id=some o/\fW o) w cs b k:=by
        intro cs
        induction cs with
        | nil=>intro b k _;simp only [bC]
        | cons c cs ih=>
         intro b k hr;simp only [bC] at hr ⊢;obtain ⟨⟨u,g1,g2⟩,g3⟩:=hr;exact ⟨⟨u,g1,iU (fun _ _ h=>h) hS aT _ _ g2⟩,ih b (k+1) g3⟩
       exact CA _ _ _ g3⟩
    ·rintro hr (hs | hs)
     ·grind
     ·have:=jg q h1 hs
      simp only [fW] at this
      grind
    ·intro hr;exact .inr ⟨id,q,_,h1,rfl,jz,hr⟩
   | mp rw ks vs=>
    obtain ⟨dL,rfl,lM⟩:=h2;obtain ⟨q,es,clock,h1,h2,h3,h4,h5,h6⟩:=h3;refine ⟨q,es,clock,h1,h2,fb (fun _ _ h=>h) hS aT _ _ h3,fb (fun _ _ h=>h) hS aT _ _ h4,?_,?_⟩
    ·rintro hr (hs | hs)
     ·grind
     ·have:=jg q h1 hs
      simp only [fW] at this
      grind
    ·intro hr;exact .inr ⟨id,q,_,h1,rfl,jz,hr⟩
   | si s pos=>
    simp only [gw] at h2;subst h2;refine ma (fun _ _ h=>h) hS aT (fun _ _=>rfl) (fun q hq hs=>?_) h3;rcases hs with hs | hs
    ·grind
    ·exact (jg q hq hs).elim
   | lp tm ps as_ body st pe=>
    simp only [gw] at h2;subst h2;refine ma (fun _ _ h=>h) hS aT (fun _ _=>rfl) (fun q hq hs=>?_) h3;rcases hs with hs | hs
    ·grind
    ·exact (jg q hq hs).elim
  ·intro i j oi oj pi pj hi hj bp eG e;obtain ⟨CC,dj⟩:=hd i oi pi hi bp;obtain ⟨CB,zM⟩:=hd j oj pj hj eG;exact hh.inj i j CC CB pi pj dj zM bp eG e
  ·rintro b (hb | ⟨id,p,o,h1,rfl,_,_⟩)
   ·exact hh.slt b hb
   ·exact hh.blt id p h1
 ·rintro b (hb | ⟨id,p,o,h1,rfl,h3,_⟩)
  ·exact .inl hb
  ·obtain ⟨o',jz⟩:=hd id o p h3 h1;exact .inr ⟨id,o',p,jz,h1,rfl⟩
def N1 {i:Nat} (hh:aJ O m S w hp ct) (hi:m i=none) (zN:i<ct) {g:Go.Obj} {p:Pl} (hb:p.b=w.heap.size)
  (hf:∀o,ak hp i=some o->(dR O (dS m i p) S (w.alloc g) i o/\¬fW o)\/
   (fW o/\dR O (dS m i p) (fun b=>S b\/b=w.heap.size) (w.alloc g) i o)):
  ∃S',aJ O (dS m i p) S' (w.alloc g) hp ct/\(∀b,S b->S' b)/\∀b,S' b->S b\/b=w.heap.size:=by
 have eZ:(w.alloc g).heap.size=w.heap.size+1:=by simp
 have cd:O.w0.heap.size<=w.heap.size:=hh.eK;have gen:∀S':Nat->Prop,(∀b,S b->S' b)->(∀b,S' b->S b\/b=w.heap.size)->(∀o,ak hp i=some o->dR O (dS m i p) S' (w.alloc g) i o)->aJ O (dS m i p) S' (w.alloc g) hp ct:=by
  intro S' h1 h2 h3;have CD:∀id q,m id=some q->¬q.b=w.heap.size:=fun id q hq=>by have:=hh.blt id q hq;omega
  refine ⟨?_,?_,?_,?_,?_,?_,?_,?_,hh.aV⟩
  ·intro id o q ho hm;by_cases hc:id=i
   ·grind
   ·rw [dd hc] at hm;refine ma (ic hi) h1 (AF hh g) (fun q' bI=>alloc_old (hh.blt id q' bI)) (fun q' bI hs=>?_) (hh.obj id o q ho hm)
    grind
  ·intro id q hm;by_cases hc:id=i
   ·grind
   ·rw [dd hc] at hm;exact hh.lt id q hm
  ·intro a b oa ob pa pb ha db rS nL e;by_cases ca:a=i
   ·by_cases cb:b=i
    ·grind
    ·subst ca;rw [de] at rS;rw [dd cb] at nL
     grind
   ·rw [dd ca] at rS;by_cases cb:b=i
    ·subst cb;rw [de] at nL
     grind
    ·rw [dd cb] at nL;exact hh.inj a b oa ob pa pb ha db rS nL e
  ·intro b hs;rcases h2 b hs with h | h
   ·have:=hh.slt b h;omega
   ·omega
  ·intro id q hm;by_cases hc:id=i
   ·subst hc;rw [de] at hm
    grind
   ·rw [dd hc] at hm
    have:=hh.blt id q hm
    omega
  ·intro id q hm;by_cases hc:id=i
   ·subst hc;rw [de] at hm
    grind
   ·rw [dd hc] at hm;exact hh.low id q hm
  ·intro b pJ;exact (alloc_old (by omega)).trans (hh.iK b pJ)
  ·omega
 cases ho:ak hp i with
 | none=>exact ⟨S,gen S (fun _ h=>h) (fun _ h=> .inl h) (fun o h=>by rw [ho] at h;cases h),fun _ h=>h,fun _ h=> .inl h⟩
 | some o=>
  rcases hf o ho with ⟨h1,_⟩ | ⟨_,h1⟩
  ·exact ⟨S,gen S (fun _ h=>h) (fun _ h=> .inl h) (fun o' h=>by rw [ho] at h;injection h with h;subst h;exact h1),fun _ h=>h,fun _ h=> .inl h⟩
  ·exact ⟨_,gen (fun b=>S b\/b=w.heap.size) (fun _ h=> .inl h) (fun _ h=>h) (fun o' h=>by rw [ho] at h;injection h with h;subst h;exact h1),fun _ h=> .inl h,fun _ h=>h⟩
def L0 {id:Nat} {o o':Obj} {p:Pl} (hl:gw o o') (hm:m id=some p) (h:dR O m S w id o) (hn:¬fW o):
  (dR O m S w id o'/\¬fW o')\/(fW o'/\dR O m (fun b=>S b\/b=p.b) w id o'):=by
 have hS:∀b,S b->(S b\/b=p.b):=fun _ h=> .inl h
 have aT:ej S w w:=fun _ _=>rfl
 cases o with
 | cells rw pu ex sz cs=>
  obtain ⟨dL,rfl,lM⟩:=hl
  cases dL with
  | true=>
   grind
  | false=>
   refine .inr ⟨rfl,?_⟩;obtain ⟨q,arr,t,h1,h2,h3,h4,h5,h6,h7,h8,h9,rR⟩:=h;rw [hm] at h1;injection h1 with h1
   subst h1;have CA:∀(cs:List AV) (b k:Nat),bC O.ae m S w cs b k->bC O.ae m (fun b=>S b\/b=p.b) w cs b k:=by
    intro cs
    induction cs with
    | nil=>intro b k _;simp only [bC]
    | cons c cs ih=>
     intro b k hr;obtain ⟨⟨u,g1,g2⟩,g3⟩:=hr;exact ⟨⟨u,g1,iU (fun _ _ h=>h) hS aT _ _ g2⟩,ih b (k+1) g3⟩
   exact ⟨p,arr,t,hm,h2,h3,h4,h5,h6,CA _ _ _ h7,h8,by simp,fun _=> .inr rfl⟩
 | mp rw ks vs=>
  obtain ⟨dL,rfl,lM⟩:=hl
  cases dL with
  | true=>
   grind
  | false=>
   refine .inr ⟨rfl,?_⟩;obtain ⟨q,es,clock,h1,h2,h3,h4,h5,h6⟩:=h;rw [hm] at h1;injection h1 with h1
   subst h1;exact ⟨p,es,clock,hm,h2,fb (fun _ _ h=>h) hS aT _ _ h3,fb (fun _ _ h=>h) hS aT _ _ h4,by simp,fun _=> .inr rfl⟩
 | si s pos=>simp only [gw] at hl;subst hl;exact .inl ⟨h,hn⟩
 | lp tm ps as_ body st pe=>simp only [gw] at hl;subst hl;exact .inl ⟨h,hn⟩
end
end
section
open Go
section
variable {O:a8} {H:Hint} {m:Mp} {S:Nat->Prop} {w:yf} {tm:Env} {a:Act} {hp:Hp} {ct cq:Nat}
def Ho {ae:Nat->Nat} {b:Nat} {arr:Array yd} {t:yj} {fr:Nat×Nat} (hb:w.heap[b]? =some (.cells arr t fr)):∀(cs:List AV) (us:List yd) (o:Nat),
  an ae m S w cs us->(∀(j:Nat) (u:yd),us[j]? =some u->arr[o+j]? =some u)->bC ae m S w cs b o
 | [],us,o,_,_=>by simp only [bC]
 | c::cs,us,o,h,hu=>by
  simp only [an] at h;obtain ⟨u,r,rfl,h2,h3⟩:=h;simp only [bC];refine ⟨⟨u,?_,h2⟩,Ho hb cs r (o+1) h3 (fun j v hv=>?_)⟩
  ·have:=hu 0 u (by simp)
   simpa [World.cell?,hb] using this
  ·have:=hu (j+1) v (by simpa using hv)
   rw [show o+1+j=o+(j+1) by omega];exact this
def acH (hh:aJ O m S w hp cq) {i:Nat} {arr:Array yd} {t:yj} {cs:List AV} {us:List yd} {pu ex:Bool} {sz:Nat} (hr:an O.ae m S w cs us)
  (hu:∀(j:Nat) (u:yd),us[j]? =some u->arr[j]? =some u) (hl:cs.length<=arr.size) (hex:ex=true->cs.length=arr.size) (Cz:pu=true->az cs=true)
  (m':Mp) (hm:cE m m') (hi:m' i=some ⟨w.heap.size,0,arr.size,sz⟩):dR O m' S (w.alloc (.cells arr t)) i (.cells true pu ex sz cs):=by
 refine ⟨⟨w.heap.size,0,arr.size,sz⟩,arr,t,hi,heap_alloc_new w _,rfl,hl,by simp,hex,?_,Cz,?_,by simp⟩
 ·exact Ho (heap_alloc_new w _) cs us 0 (fb hm (fun _ h=>h) (AF hh _) _ _ hr) (by simpa using hu)
 ·intro _ hS
  have:=hh.slt _ hS
  simp at this
def qW (O:a8) (m:Mp) (S:Nat->Prop) (w:yf) (a:Act) (ct:Nat) (o:yI) (v:AV) (b:Obj):Prop:=
 ∃u g p,(execOp a.eval o).run O.P w= .ok (.value u) (w.alloc g)/\p.b=w.heap.size/\¬fW b/\
  ∀m',cE m m'->m' ct=some p->dR O m' S (w.alloc g) ct b/\af O.ae m' S (w.alloc g) v u
def Hr {o:yI} {arr:Array yd} {t:yj} {cs:List AV} {us:List yd} {pu ex:Bool} {sz:Nat} {v:AV} {u:yd} (hh:aJ O m S w hp cq)
  (he:(execOp a.eval o).run O.P w= .ok (.value u) (w.alloc (.cells arr t))) (hr:an O.ae m S w cs us)
  (hu:∀(j:Nat) (u:yd),us[j]? =some u->arr[j]? =some u) (hl:cs.length<=arr.size) (hex:ex=true->cs.length=arr.size) (Cz:pu=true->az cs=true)
  (hv:∀m':Mp,m' ct=some ⟨w.heap.size,0,arr.size,sz⟩->af O.ae m' S (w.alloc (.cells arr t)) v u):qW O m S w a ct o v (.cells true pu ex sz cs):=
 ⟨u,_,⟨w.heap.size,0,arr.size,sz⟩,he,rfl,by simp [fW],fun m' hm hi=>⟨acH hh hr hu hl hex Cz m' hm hi,hv m' hi⟩⟩
def N2 {o:yI} {t:yj} {x:yd} {vx v:AV} {b:Obj} {sz:Nat} (hh:aJ O m S w hp cq) (he:(execOp a.eval o).run O.P w= .ok (.value (.pointer (some ⟨w.heap.size,0,none⟩))) (w.alloc (.cells x.cells t))) (hx:an O.ae m S w (cellsOf vx) x.cells.toList)
  (hv:(bif yk (cellsOf vx).length sz&&bY (cellsOf vx) then some (AV.ptr ct 0,Obj.cells true (az (cellsOf vx)) true sz (cellsOf vx)) else none)=some (v,b)):qW O m S w a ct o v b:=by
 cases hc:(yk (cellsOf vx).length sz&&bY (cellsOf vx)) with
 | false=>rw [hc] at hv;cases hv
 | true=>
  rw [hc] at hv;obtain ⟨rfl,rfl⟩:=hv;have hlen:=fU _ _ hx;refine Hr hh he hx (fun j u hj=>by simpa using hj) (by rw [<-hlen];simp) (fun _=>by rw [<-hlen];simp) (fun h=>h) (fun m' hi=>?_)
  simp only [af];exact ⟨_,hi,by simp⟩
def aat {o:yI} {t:yj} {r:Option y8} (hh:aJ O m S w hp cq) (ho:o.op= .makeMap t r) (hr:r=none):qW O m S w a ct o (.map ct) (.mp true [] []):=by
 subst hr;refine ⟨.map (some w.heap.size),.map #[] 0,⟨w.heap.size,0,0,0⟩,by simp [execOp,ho,Instr.makeMap],rfl,by simp [fW],fun m' _ hi=>⟨?_,?_⟩⟩
 ·refine ⟨_,#[],0,hi,heap_alloc_new w _,by simp [an],by simp [an],?_,by simp⟩;intro _ hS
  have:=hh.slt _ hS
  simp at this
 ·simp only [af];exact ⟨_,hi,rfl⟩
def YL {o:yI} {t:yj} {x:y8} {s:List Nat} (hh:aJ O m S w hp cq) (ho:o.op= .range t x) (hu:O.P.underlying t=some .string) (hx:af O.ae m S w (.str s) (a.eval x)):
  qW O m S w a ct o (.it ct) (.si s 0):=by
 obtain ⟨b,e,rfl⟩:=hx;refine ⟨.pointer (some ⟨w.heap.size,0,none⟩),.stringIter b 0,⟨w.heap.size,0,0,0⟩,by simp [execOp,ho,Instr.range,run_underlying hu,e],rfl,by simp [fW],fun m' _ hi=>⟨?_,?_⟩⟩
 ·refine ⟨_,b,hi,heap_alloc_new w _,rfl,?_⟩;intro hS
  have:=hh.slt _ hS
  simp at this
 ·simp only [af];exact ⟨_,hi,rfl⟩
end
def YM (zero:Array yd):(yO zero.size).map (fun j=>zero[j]!)=zero.toList:=by
 apply List.ext_getElem
 ·simp
 ·grind
def Mo (zero:Array yd):∀n:Nat,(yO (n*zero.size)).map (fun i=>zero[i%zero.size]!)=(yu n zero.toList).flatten
 | 0=>by simp
 | n+1=>by
  rw [w7,Nat.one_mul,List.range_add,List.map_append,Mo zero n,List.replicate_succ',uP]
  congr 1
  simp only [List.map_map,wU,List.flatten_nil,List.append_nil];rw [<-YM zero];apply List.map_congr_left;intro j hj;simp at hj;simp [Function.comp,uJ n,Nat.mod_eq_of_lt hj]
def HV {ae:Nat->Nat} {m:Mp} {S:Nat->Prop} {w:yf} {cs:List AV} {us:List yd} (h:an ae m S w cs us):∀n,an ae m S w (yu n cs).flatten (yu n us).flatten
 | 0=>by simp [an]
 | n+1=>by rw [xK,xK,wU,wU];exact iS h (HV h n)
section
variable {O:a8} {H:Hint} {m:Mp} {S:Nat->Prop} {w:yf} {tm:Env} {a:Act} {hp:Hp} {ct cq:Nat}
def Nc (zero:Array yd) (n:Nat):(Array.map (fun i=>zero[i%zero.size]!) (vn (n*zero.size))).toList=(yu n zero.toList).flatten:=by
 rw [<-Mo zero n]
 simp
def N3 (tm:Env):∀(ps:List (Nat×Nat×X)) (zero cs:List AV),fill tm zero ps=some cs->cs.length=zero.length
 | [],zero,cs,h=>by simp only [fill,yb] at h;rw [h]
 | (o,sz,x)::r,zero,cs,h=>by
  simp only [fill] at h
  cases hc:(yk (cellsOf (aq tm x)).length sz&&yy (o+sz) zero.length&&bY (cellsOf (aq tm x))) with
  | false=>rw [hc] at h;cases h
  | true=>
   rw [hc] at h;simp only [ye] at hc;have h1:=yh hc.1.1;have h2:=yo hc.1.2;rw [N3 tm r _ _ h];simp only [over,List.length_append,List.length_take,List.length_drop];omega
def DS {α:Type} (l:List α):∀n,(yu n l).flatten.length=n*l.length
 | 0=>by simp
 | n+1=>by simp [xK,DS l n,w7,Nat.add_comm]
def YN {o:yI} {t e:yj} {n s:Nat} {z:AV} {parts:Array (Nat×y8)} {ps:List (Nat×Nat×X)} {v:AV} {b:Obj} (hH:dY O H) (ht:bM O m S w tm a.tmps) (hh:aJ O m S w hp cq)
  (ho:o.op= .buildSlice t n parts) (hu:O.P.underlying t=some (.slice e)) (hs:bU O.P e=some s) (hz:ju O.P e=some z) (hn:n*s<=16777216)
  (lL:partsOf H (fun i=>some (i*s,s)) parts.toList=some ps)
  (hv:b6 tm hp ct (.bw n s (yu n (cellsOf z)).flatten ps)=some (v,b)):qW O m S w a ct o v b:=by
 simp only [b6] at hv
 cases hf:fill tm (yu n (cellsOf z)).flatten ps with
 | none=>simp [hf] at hv
 | some cs=>
  simp only [hf] at hv
  cases hc:yk cs.length (n*s) with
  | false=>rw [hc] at hv;cases hv
  | true=>
   rw [hc] at hv;simp only [yi,yb,yg] at hv;obtain ⟨rfl,rfl⟩:=hv;have hlen:=yh hc;obtain ⟨zv,jA,rfl⟩:=sO (w:=w) hz;have nX:an O.ae m S w (cellsOf (du zv)) zv.cells.toList:=sA zv;have zO:=fU _ _ nX;have zP:=N3 tm ps _ _ hf;rw [DS] at zP;have Ks:n*s=n*zv.cells.size:=by
    rw [<-hlen,zP,<-zO];simp
   have key:∃zr:Array yd,(n*s=0->zr=#[])/\(n*s≠0->zr=zv.cells)/\an O.ae m S w (yu n (cellsOf (du zv))).flatten ((vn (n*s)).map (fun x=>zr[x%zr.size]!)).toList:=by
    by_cases h0:n*s=0
    ·refine ⟨#[],fun _=>rfl,fun h=>(h h0).elim,?_⟩
     have:(yu n (cellsOf (du zv))).flatten=[]:=by
      apply List.eq_nil_of_length_eq_zero;rw [DS,<-zO];simp only [Array.length_toList];omega
     rw [this];simp [an,h0]
    ·refine ⟨zv.cells,fun h=>(h0 h).elim,fun _=>rfl,?_⟩;rw [Ks,Nc];exact HV nX n
   obtain ⟨zr,hk0,jY,nY⟩:=key;obtain ⟨out,h1,h2⟩:=D9 hH ht (place:=fun i=>some (i*s,s)) parts.toList ps _ cs _ lL nY hf;have mM:=fU _ _ h2
   refine Hr (arr:=out) (t:=e) (us:=out.toList) hh ?_ h2 (fun j u hj=>by simpa using hj) (by rw [<-mM];simp) (fun _=>by rw [<-mM];simp) (fun h=>h) (u:= .slice (some ⟨w.heap.size,0,none⟩) n n) ?_
   ·have Kt:¬(n*s>2^24):=by omega
    by_cases h0:n*s=0
    ·have:=hk0 h0
     subst this;simp only [h0] at h1;simp [execOp,ho,Instr.buildSlice,run_underlying hu,jG hs,h0,newRow] at h1 ⊢;simp [h1]
    ·have:=jY h0
     subst this;simp [execOp,ho,Instr.buildSlice,run_underlying hu,jG hs,h0,Kt,jA,newRow] at h1 ⊢;simp [h1]
   ·intro m' hi;simp only [af];refine ⟨_,n,hi,by simp,Nat.le_refl _,?_⟩;simp only [Nat.zero_add];rw [<-hlen,<-mM];simp
def sB:∀{a b:List AV},az a=true->az b=true->az (a++b)=true
 | [],_,_,h=>h
 | c::r,b,h,k=>by
  simp only [az,ye] at h;simp only [List.cons_append,az,ye];exact ⟨h.1,sB h.2 k⟩
def Nf {z:List AV} (h:az z=true):∀n,az (yu n z).flatten=true
 | 0=>by simp [az]
 | n+1=>by rw [xK,wU];exact sB h (Nf h n)
def aau {o:yI} {t e:yj} {s by':Nat} {z:AV} {l c:y8} {v:AV} {b:Obj} (hH:dY O H) (ht:bM O m S w tm a.tmps) (hh:aJ O m S w hp cq)
  (ho:o.op= .makeSlice t l c) (hu:O.P.underlying t=some (.slice e)) (hs:bU O.P e=some s) (hb:pw O.P e=some by') (hz:ju O.P e=some z)
  (hv:b6 tm hp ct (.eY s by' (cellsOf z) (aH H l) (aH H c))=some (v,b)):qW O m S w a ct o v b:=by
 simp only [b6] at hv
 cases hl:cQ (aq tm (aH H l)) with
 | none=>simp [hl] at hv
 | some ln=>
  cases hc:cQ (aq tm (aH H c)) with
  | none=>simp [hl,hc] at hv
  | some cn=>
   simp only [hl,hc] at hv
   cases hk:(yy ln cn&&(yy cn room&&(yy (cn*by') room&&(yk (cellsOf z).length s&&bY (cellsOf z))))) with
   | false=>rw [hk] at hv;cases hv
   | true=>
    rw [hk] at hv;simp only [yi,yb,yg] at hv;obtain ⟨rfl,rfl⟩:=hv;simp only [ye] at hk;have h1:=yo hk.1;have h2:=yo hk.2.1;have h3:=yo hk.2.2.1;have h4:=yh hk.2.2.2.1;simp only [room] at h2 h3;obtain ⟨kl,el⟩:=nm (bQ hH ht l) hl;obtain ⟨kc,ec⟩:=nm (bQ hH ht c) hc;obtain ⟨zv,jA,rfl⟩:=sO (w:=w) hz;have nX:an O.ae m S w (cellsOf (du zv)) zv.cells.toList:=sA zv;have zO:=fU _ _ nX;have CE:zv.cells.size=s:=by rw [<-h4,<-zO];simp
    have wrapN:∀k:Nat,k<=1099511627776->IntKind.i64.wrap (k:Int)=k:=fun k hk=>IntWalk.i64_in _ (by omega)
    obtain ⟨ti,nZ,eZ,Ku⟩:∃ti,O.P.info? e=some ti/\ti.size=s/\ti.bytes=by':=by
     unfold bU at hs;unfold pw at hb
     cases hi:O.P.info? e with
     | none=>simp [hi] at hs
     | some ti=>simp only [hi,yb] at hs hb;exact ⟨ti,rfl,hs,hb⟩
    have rk:((vn (cn*s)).map (zv.cells[·%zv.cells.size]!)).toList=(yu ln zv.cells.toList).flatten++(yu (cn-ln) zv.cells.toList).flatten:=by
     rw [<-CE,Nc,<-uP,List.replicate_append_replicate]
     grind
    have gr:(yu ln (cellsOf (du zv))).flatten.length=ln*s:=by rw [DS,h4]
    have hmul:ln*s<=cn*s:=Nat.mul_le_mul_right _ h1
    refine Hr (arr:=(vn (cn*s)).map (zv.cells[·%zv.cells.size]!)) (t:=e) (us:=(yu ln zv.cells.toList).flatten) hh (u:= .slice (some ⟨w.heap.size,0,none⟩) ln cn) ?_
     (HV nX ln) ?_ ?_ ?_ (fun h=>?_) ?_
    ·have ano:by'*cn<=1099511627776:=by rw [uJ];exact h3
     have mN:((by'*cn:Nat):Int)<=1099511627776:=by omega
     rw [Int.natCast_mul] at mN;have hlc:(ln:Int)<=(cn:Int):=by omega
     have g1:¬(281474976710656<(by':Int)*(cn:Int)):=by omega
     have g2:¬(((ln:Int)<0)):=by omega
     have g3:¬(((cn:Int)<0)):=by omega
     have g4:¬((ln:Int)>(cn:Int)):=by omega
     by_cases h0:cn*s=0
     ·simp [execOp,ho,Instr.makeSlice,run_underlying hu,el,ec,asInt,asIntOf,typeInfo,nZ,Ku,wrapN ln (by omega),wrapN cn h2,g1,g2,g3,g4,jG hs,h0,newRow,askRoom,roomBytes]
      grind
     ·simp [execOp,ho,Instr.makeSlice,run_underlying hu,el,ec,asInt,asIntOf,typeInfo,nZ,Ku,wrapN ln (by omega),wrapN cn h2,g1,g2,g3,g4,jG hs,h0,newRow,askRoom,roomBytes,jA]
    ·intro j u hj
     have:((vn (cn*s)).map (zv.cells[·%zv.cells.size]!)).toList[j]? =some u:=by
      grind
     grind
    ·grind
    ·simp_all
    ·exact Nf h ln
    ·intro m' hi;simp only [af];refine ⟨_,cn,hi,by simp,h1,?_⟩
     simp
def acI {o:yI} {k:Nat} {v:AV} {b:Obj} (hH:dY O H) (ht:bM O m S w tm a.tmps) (hh:aJ O m S w hp cq)
  (hv:b6 tm hp ct (aW O.P H k o)=some (v,b)):qW O m S w a ct o v b:=by
 cases ho:o.op with
 | call c=>
  obtain ⟨callee,args,ts⟩:=c;simp only [aW,ho] at hv
  repeat' split at hv
  all_goals first
   | (simp [b6,bad] at hv;done)
   | (revert hv;generalize yk _ _=bb;intro hv;cases bb<;>simp [b6,bad] at hv)
 | alloc t=>
  simp only [aW,ho] at hv
  split at hv
  ·rename_i s z hs hz;obtain ⟨zv,jA,rfl⟩:=sO (w:=w) hz
   exact N2 (x:=zv) (t:=t) hh (by simp [execOp,ho,Instr.alloc,jA,newVar,newRow]) (sA zv) (by simpa only [b6,aq] using hv)
  ·simp [b6,bad] at hv
 | box t x=>
  simp only [aW,ho] at hv
  split at hv
  ·rename_i s hs;simp only [b6] at hv
   cases hc:(yk (cellsOf (aq tm (aH H x))).length s&&bY (cellsOf (aq tm (aH H x)))) with
   | false=>rw [hc] at hv;cases hv
   | true=>
    have h1:=hc;simp only [ye] at h1
    exact N2 (x:=a.eval x) (t:=t) hh (by simp [execOp,ho,Instr.box,newVar,newRow]) (Hn (bQ hH ht x) h1.2) hv
  ·simp [b6,bad] at hv
 | buildSlice t n parts=>
  simp only [aW,ho] at hv
  split at hv
  ·rename_i e hu
   split at hv
   ·rename_i s z hs hz
    cases hc:yy (n*s) 16777216 with
    | false=>rw [hc] at hv;simp [b6,bad] at hv
    | true=>
     rw [hc] at hv;simp only [yi] at hv
     split at hv
     ·rename_i ps lL;exact YN hH ht hh ho hu hs hz (yo hc) lL hv
     ·simp [b6,bad] at hv
   ·simp [b6,bad] at hv
  ·simp [b6,bad] at hv
 | makeSlice t l c=>
  simp only [aW,ho] at hv
  split at hv
  ·rename_i e hu
   split at hv
   ·rename_i s by' z hs hb hz
    exact aau hH ht hh ho hu hs hb hz hv
   ·simp [b6,bad] at hv
  ·simp [b6,bad] at hv
 | makeMap t r=>
  cases r with
  | some x=>simp [aW,ho,b6,bad] at hv
  | none=>
   simp only [aW,ho] at hv
   repeat' split at hv
   all_goals first
    | (simp [b6,bad] at hv;done)
    | (
      simp only [b6,yb,yg] at hv;obtain ⟨rfl,rfl⟩:=hv
      exact aat hh ho rfl)
 | range t x=>
  simp only [aW,ho] at hv
  split at hv
  ·rename_i hu;simp only [b6] at hv;have rx:=bQ hH ht x;cases hx:aq tm (aH H x)<;>rw [hx] at hv rx<;>simp only [reduceCtorEq] at hv
   simp only [yb,yg] at hv;obtain ⟨rfl,rfl⟩:=hv;exact YL hh ho hu rx
  ·simp [b6,bad] at hv
 | next x b=>cases b<;>simp [aW,ho,b6,bad] at hv
 | binOp op t x y ty=>
  cases op<;>simp only [aW,ho,mj,nl] at hv
  case eql=>
        repeat' split at hv
        all_goals first
         | (simp [b6,bad] at hv;done)
         | (cases hb:(O.P.stoodInHeld t||O.P.eqGuardType O.P.depth t)<;>rw [hb] at hv<;>simp [b6,bad] at hv)
  case neq=>
        repeat' split at hv
        all_goals first
         | (simp [b6,bad] at hv;done)
         | (cases hb:(O.P.stoodInHeld t||O.P.eqGuardType O.P.depth t)<;>rw [hb] at hv<;>simp [b6,bad] at hv)
  all_goals simp [b6] at hv
 | _=>
  simp only [aW,ho] at hv
  (repeat' split at hv)
  all_goals first
   | contradiction
   | (simp [b6,bad] at hv;done)
end
end
section
open Go
def mb {hp:Hp} {id i:Nat} {o:Obj}:ak (aY hp id o) i=if id=i then (if (ak hp id).isSome then some o else none) else ak hp i:=by
 induction hp with
 | nil=>simp [aY,ak]
 | cons x r ih=>
  obtain ⟨j,q⟩:=x;simp only [aY];by_cases hj:j=id
  ·subst hj;simp only [y9,yi,ak];by_cases hi:j=i
   ·simp_all
   ·have:yk j i=false:=by
     cases hq:yk j i with
     | false=>rfl
     | true=>exact absurd (yh hq) hi
    grind
  ·have hb:yk j id=false:=by
    cases hq:yk j id with
    | false=>rfl
    | true=>exact absurd (yh hq) hj
   simp only [hb,yr];rw [show ak ((j,q)::aY r id o) i=bif yk j i then some q else ak (aY r id o) i from rfl,ih];by_cases hi:j=i
   ·subst hi
    have:¬id=j:=fun h=>hj h.symm
    simp [y9,this,ak]
   ·have mN:yk j i=false:=by
     cases hq:yk j i with
     | false=>rfl
     | true=>exact absurd (yh hq) hi
    simp [mN,ak,hb]
def gS (hp ai:Hp):Prop:=∀id,(ak ai id).isSome=(ak hp id).isSome
def gS.refl {hp:Hp}:gS hp hp:=fun _=>rfl
def gS.trans {a b c:Hp} (h:gS a b) (k:gS b c):gS a c:=fun id=>(k id).trans (h id)
def Iw {hp:Hp} {id:Nat} {o o':Obj} (h:ak hp id=some o) (hl:gw o o'):cr hp (aY hp id o')/\gS hp (aY hp id o'):=by
 constructor
 ·intro i q hq;rw [mb];by_cases hi:id=i
  ·grind
  ·exact ⟨q,by simp [hi,hq],gw.refl q⟩
 ·intro i;rw [mb]
  grind
def Ng {hp H:Hp} {id:Nat} {pu ex:Bool} {sz:Nat} {cs:List AV} (hl:cr hp H) (h:ak hp id=some (.cells false pu ex sz cs)):ak H id=some (.cells false pu ex sz cs):=by
 obtain ⟨o',h1,dL,rfl,h2⟩:=hl id _ h
 cases dL with
 | false=>exact h1
 | true=>exact absurd (h2 rfl) (by simp)
section
variable {O:a8}
def aho (O:a8) (m:Mp) (S:Nat->Prop) (w:yf) (p:Pl) (ex:Bool) (sz:Nat) (cs:List AV):Prop:=
 p.z=sz/\cs.length<=p.e/\(ex=true->cs.length=p.e)/\S p.b/\az cs=true/\bC O.ae m S w cs p.b p.o
def JE (O:a8) (ai:Hp) (v v':AV):Prop:=∀H m S w ct,cr ai H->aJ O m S w H ct->(∀u,af O.ae m S w v u->af O.ae m S w v' u)/\aI v'=true
def Ti (O:a8) (ai:Hp) (vs cZ:List AV):Prop:=∀H m S w ct,cr ai H->aJ O m S w H ct->(∀us,an O.ae m S w vs us->an O.ae m S w cZ us)/\az cZ=true
def ai3 (O:a8) (ai:Hp) (id:Nat) (ex:Bool) (sz:Nat) (cs:List AV):Prop:=∀H m S w ct,cr ai H->aJ O m S w H ct->∀p,m id=some p->aho O m S w p ex sz cs
def sK {ae:Nat->Nat} {m:Mp} {S:Nat->Prop} {w:yf} {b:Nat}:∀(cs:List AV) (us:List yd) (o:Nat),an ae m S w cs us->
  (∀(j:Nat) (u:yd),us[j]? =some u->w.cell? ⟨b,o+j,none⟩=some u)->bC ae m S w cs b o
 | [],us,o,_,_=>by simp only [bC]
 | c::cs,us,o,h,hu=>by
  obtain ⟨u,r,rfl,h2,h3⟩:=h;refine ⟨⟨u,by simpa using hu 0 u (by simp),h2⟩,sK cs r (o+1) h3 (fun j v hv=>?_)⟩;rw [show o+1+j=o+(j+1) by omega]
  simp_all
def ahp {m:Mp} {S:Nat->Prop} {w:yf} {cs cF:List AV} (h:∀us,an O.ae m S w cs us->an O.ae m S w cF us) {b o:Nat} (hr:bC O.ae m S w cs b o):bC O.ae m S w cF b o:=by
 obtain ⟨us,h1,_,h3⟩:=nd cs b o hr;exact sK cF us o (h us h1) h3
def p7:∀(k:Nat) {cs:List AV},az cs=true->az (cs.take k)=true
 | 0,_,_=>by simp [az]
 | k+1,[],_=>by simp [az]
 | k+1,c::cs,h=>by
  simp only [az,ye,List.take_succ_cons] at h ⊢;exact ⟨h.1,p7 k h.2⟩
def aav {ai:Hp} {vs cZ:List AV}:∀{n:Nat} {hp:Hp},bS n hp vs=some (cZ,ai)->cZ.length=vs.length:=by
 intro n
 induction n generalizing vs cZ ai with
 | zero=>intro hp h;simp [bS] at h
 | succ n ih=>
  intro hp h
  cases vs with
  | nil=>simp only [bS,yb,yg] at h;rw [<-h.1]
  | cons v r=>
   simp only [bS] at h
   cases h1:freeze n hp v with
   | none=>simp [h1] at h
   | some q=>
    obtain ⟨v',bm⟩:=q;simp only [h1] at h
    cases h2:bS n bm r with
    | none=>simp [h2] at h
    | some q2=>
     grind
def Mq:∀n:Nat,
  (∀hp v v' ai,freeze n hp v=some (v',ai)->cr hp ai/\gS hp ai/\JE O ai v v')/\
  (∀hp id ex sz cs ai,lZ n hp id=some (ex,sz,cs,ai)->cr hp ai/\gS hp ai/\ai3 O ai id ex sz cs)/\
  (∀hp vs cZ ai,bS n hp vs=some (cZ,ai)->cr hp ai/\gS hp ai/\Ti O ai vs cZ):=by
 intro n
 induction n with
 | zero=>refine ⟨?_,?_,?_⟩<;>intros<;>simp_all [freeze,lZ,bS]
 | succ n ih=>
  obtain ⟨ihV,Vg,zQ⟩:=ih;refine ⟨?_,?_,?_⟩
  ·intro hp v v' ai h;have plain:∀{v v':AV} {hp ai:Hp},(bif aI v then some (v,hp) else none)=some (v',ai)->cr hp ai/\gS hp ai/\JE O ai v v':=by
    intro v v' hp ai h
    cases hc:aI v with
    | false=>rw [hc] at h;cases h
    | true=>
     rw [hc] at h;simp only [yi,yb,yg] at h;obtain ⟨rfl,rfl⟩:=h;exact ⟨cr.refl,gS.refl,fun _ _ _ _ _ _ _=>⟨fun _ h=>h,hc⟩⟩
   cases v<;>simp only [freeze] at h<;>first | exact plain h | skip
   case au id o k=>
    cases hb:lZ n hp id with
    | none=>simp [hb] at h
    | some q=>
     obtain ⟨ex,sz,cs,bm⟩:=q;simp only [hb] at h
     cases hc:yy (o+k*sz) cs.length with
     | false=>rw [hc] at h;cases h
     | true=>
      rw [hc] at h;simp only [yi,yb,yg] at h;obtain ⟨rfl,rfl⟩:=h;have hle:=yo hc;obtain ⟨h1,h2,h3⟩:=Vg _ _ _ _ _ _ hb;refine ⟨h1,h2,fun H m S w ct hl hh=>⟨fun u hu=>?_,by simp only [aI]⟩⟩;simp only [af] at hu ⊢;obtain ⟨p,c,hm,rfl,n5,FL⟩:=hu;obtain ⟨g1,g2,g3,g4,g5,g6⟩:=h3 H m S w ct hl hh p hm;refine .inl ⟨p.b,p.o+o,c,rfl,n5,?_,.inr g4,p7 _ (ou _ _ g5),p9 _ _ _ _ (lY _ _ _ _ g6)⟩;intro hx;simp only [ye] at hx;have e1:=yh hx.2;have e2:0<sz:=by
       simp_all
      have e3:=g3 hx.1.1;rw [g1] at FL
      have:c*sz=k*sz:=by omega
      exact Nat.eq_of_mul_eq_mul_right e2 this
   case ptr id o=>
    cases hb:lZ n hp id with
    | none=>simp [hb] at h
    | some q=>
     obtain ⟨ex,sz,cs,bm⟩:=q;simp only [hb,yb,yg] at h;obtain ⟨rfl,rfl⟩:=h;obtain ⟨h1,h2,h3⟩:=Vg _ _ _ _ _ _ hb;refine ⟨h1,h2,fun H m S w ct hl hh=>⟨fun u hu=>?_,by simp only [aI]⟩⟩;simp only [af] at hu ⊢;obtain ⟨p,hm,rfl⟩:=hu;obtain ⟨g1,g2,g3,g4,g5,g6⟩:=h3 H m S w ct hl hh p hm;exact ⟨p.b,p.o+o,rfl,.inr g4,ou _ _ g5,lY _ _ _ _ g6⟩
   case map id=>
    cases hg:ak hp id with
    | none=>simp [hg] at h
    | some ob=>
     cases ob<;>simp only [hg,reduceCtorEq] at h
     rename_i rw ks vs
     cases hc:(az ks&&az vs) with
     | false=>rw [hc] at h;cases h
     | true=>
      rw [hc] at h;simp only [yi,yb,yg] at h;obtain ⟨rfl,rfl⟩:=h;simp only [ye] at hc;obtain ⟨h1,h2⟩:=Iw hg (o':= .mp false ks vs) ⟨false,rfl,by simp⟩;refine ⟨h1,h2,fun H m S w ct hl hh=>⟨fun u hu=>?_,by simp only [aI]⟩⟩;simp only [af] at hu ⊢;obtain ⟨p,hm,rfl⟩:=hu;have hq:ak (aY hp id (.mp false ks vs)) id=some (.mp false ks vs):=by rw [mb];simp [hg]
      obtain ⟨o',h3,dL,rfl,h4⟩:=hl id _ hq;have lM:dL=false:=by cases dL with | false=>rfl | true=>exact absurd (h4 rfl) (by simp)
      subst lM;obtain ⟨p',es,clock,g1,g2,g3,g4,g5,g6⟩:=hh.obj id _ _ h3 hm;rw [hm] at g1;injection g1 with g1
      subst g1;exact ⟨p.b,es,clock,rfl,g6 rfl,hc.1,hc.2,g2,g3,g4⟩
   case fn f first cap=>
    cases f with
    | y l=>simp only [aI,yr,reduceCtorEq] at h
    | f g=>
     simp only at h
     cases h1:bS n hp first with
     | none=>simp [h1] at h
     | some q=>
      obtain ⟨PO,bm⟩:=q;simp only [h1] at h
      cases h2:bS n bm cap with
      | none=>simp [h2] at h
      | some q2=>
       obtain ⟨E2,lI⟩:=q2;simp only [h2,yb,yg] at h;obtain ⟨rfl,rfl⟩:=h;obtain ⟨a1,a2,a3⟩:=zQ _ _ _ _ h1;obtain ⟨b1,b2,b3⟩:=zQ _ _ _ _ h2;refine ⟨a1.trans b1,a2.trans b2,fun H m S w ct hl hh=>?_⟩;obtain ⟨c1,c2⟩:=a3 H m S w ct (b1.trans hl) hh;obtain ⟨d1,d2⟩:=b3 H m S w ct hl hh;refine ⟨fun u hu=>?_,by simp [aI,c2,d2]⟩;simp only [af] at hu ⊢;obtain ⟨fi,ca,rfl,e1,e2⟩:=hu;exact ⟨fi,ca,rfl,c1 _ e1,d1 _ e2⟩
   case agg cs=>
    cases h1:bS n hp cs with
    | none=>simp [h1] at h
    | some q=>
     obtain ⟨cF,bm⟩:=q;simp only [h1,yb,yg] at h;obtain ⟨rfl,rfl⟩:=h;obtain ⟨a1,a2,a3⟩:=zQ _ _ _ _ h1;refine ⟨a1,a2,fun H m S w ct hl hh=>?_⟩;obtain ⟨c1,c2⟩:=a3 H m S w ct hl hh;refine ⟨fun u hu=>?_,by simpa [aI] using c2⟩;simp only [af] at hu ⊢;obtain ⟨xs,rfl,e1⟩:=hu;exact ⟨xs,rfl,c1 _ e1⟩
   case aw cs=>
    cases h1:bS n hp cs with
    | none=>simp [h1] at h
    | some q=>
     obtain ⟨cF,bm⟩:=q;simp only [h1,yb,yg] at h;obtain ⟨rfl,rfl⟩:=h;obtain ⟨a1,a2,a3⟩:=zQ _ _ _ _ h1;refine ⟨a1,a2,fun H m S w ct hl hh=>?_⟩;obtain ⟨c1,c2⟩:=a3 H m S w ct hl hh;refine ⟨fun u hu=>?_,by simpa [aI] using c2⟩;simp only [af] at hu ⊢;obtain ⟨xs,rfl,e1⟩:=hu;exact ⟨xs,rfl,c1 _ e1⟩
  ·intro hp id ex sz cF ai h;simp only [lZ] at h
   cases hg:ak hp id with
   | none=>simp [hg] at h
   | some ob=>
    cases ob<;>simp only [hg,reduceCtorEq] at h
    rename_i rw pu mJ pK cs
    cases pu with
    | true=>
     simp only [yi,yb,yg] at h;obtain ⟨rfl,rfl,rfl,rfl⟩:=h;have hq:cr hp (bif rw then aY hp id (.cells false true mJ pK cs) else hp)/\gS hp (bif rw then aY hp id (.cells false true mJ pK cs) else hp)/\ak (bif rw then aY hp id (.cells false true mJ pK cs) else hp) id=some (.cells false true mJ pK cs):=by
      cases rw with
      | true=>
       obtain ⟨h1,h2⟩:=Iw hg (o':= .cells false true mJ pK cs) ⟨false,rfl,by simp⟩;exact ⟨h1,h2,by simp [mb,hg]⟩
      | false=>exact ⟨cr.refl,gS.refl,hg⟩
     refine ⟨hq.1,hq.2.1,fun H m S w ct hl hh p hm=>?_⟩;obtain ⟨p',arr,t,g1,g2,g3,g4,g5,g6,g7,g8,g9,g10⟩:=hh.obj id _ _ (Ng hl hq.2.2) hm;rw [hm] at g1;injection g1 with g1
     subst g1;exact ⟨g3,g4,g6,g10 rfl,g8 rfl,g7⟩
    | false=>
     simp only [yr] at h
     cases h1:bS n hp cs with
     | none=>simp [h1] at h
     | some q=>
      obtain ⟨mO,bm⟩:=q;simp only [h1,yb,yg] at h;obtain ⟨rfl,rfl,rfl,rfl⟩:=h;obtain ⟨a1,a2,a3⟩:=zQ _ _ _ _ h1;obtain ⟨o1,hX,rw1,rfl,_⟩:=a1 id _ hg;obtain ⟨b1,b2⟩:=Iw hX (o':= .cells false false mJ pK cs) ⟨false,rfl,by simp⟩;refine ⟨a1.trans b1,a2.trans b2,fun H m S w ct hl hh p hm=>?_⟩;have hq:ak (aY bm id (.cells false false mJ pK cs)) id=some (.cells false false mJ pK cs):=by simp [mb,hX]
      obtain ⟨p',arr,t,g1,g2,g3,g4,g5,g6,g7,g8,g9,g10⟩:=hh.obj id _ _ (Ng hl hq) hm;rw [hm] at g1;injection g1 with g1
      subst g1;obtain ⟨c1,c2⟩:=a3 H m S w ct (b1.trans hl) hh;have hlen:=aav h1
      exact ⟨g3,by omega,fun hx=>by have:=g6 hx;omega,g10 rfl,c2,ahp c1 g7⟩
  ·intro hp vs cZ ai h
   cases vs with
   | nil=>
    simp only [bS,yb,yg] at h;obtain ⟨rfl,rfl⟩:=h;exact ⟨cr.refl,gS.refl,fun _ _ _ _ _ _ _=>⟨fun _ h=>h,rfl⟩⟩
   | cons v r=>
    simp only [bS] at h
    cases h1:freeze n hp v with
    | none=>simp [h1] at h
    | some q=>
     obtain ⟨v1,bm⟩:=q;simp only [h1] at h
     cases h2:bS n bm r with
     | none=>simp [h2] at h
     | some q2=>
      obtain ⟨r1,lI⟩:=q2;simp only [h2,yb,yg] at h;obtain ⟨rfl,rfl⟩:=h;obtain ⟨a1,a2,a3⟩:=ihV _ _ _ _ h1;obtain ⟨b1,b2,b3⟩:=zQ _ _ _ _ h2;refine ⟨a1.trans b1,a2.trans b2,fun H m S w ct hl hh=>?_⟩;obtain ⟨c1,c2⟩:=a3 H m S w ct (b1.trans hl) hh;obtain ⟨d1,d2⟩:=b3 H m S w ct hl hh;refine ⟨fun us hu=>?_,by simp [az,c2,d2]⟩;simp only [an] at hu ⊢;obtain ⟨u,t,rfl,e1,e2⟩:=hu;exact ⟨u,t,rfl,c1 _ e1,d1 _ e2⟩
def G9 {n:Nat} {hp ai:Hp} {vs cZ:List AV} (h:bS n hp vs=some (cZ,ai)):cr hp ai/\gS hp ai/\Ti O ai vs cZ:=(Mq n).2.2 _ _ _ _ h
def Ht {n:Nat} {hp ai:Hp} {v v':AV} (h:freeze n hp v=some (v',ai)):cr hp ai/\gS hp ai/\JE O ai v v':=(Mq n).1 _ _ _ _ h
end
end
end VE
