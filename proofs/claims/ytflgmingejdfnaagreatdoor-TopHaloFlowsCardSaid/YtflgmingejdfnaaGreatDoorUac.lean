import Derived.Laws.Tables
import Derived.IntWalk
import Derived.Test.YtflgmingejdfnaaGreatDoorUab
set_option linter.all false
set_option maxRecDepth 100000
open Array renaming range→uv
open Bool renaming and_eq_true→yg
open Go renaming Oper→yY,Operand→xB,TypeId→yv,Value→yf,World→yh
open List renaming flatten_append→yaa,flatten_cons→vV,range→xg,replicate→yz,replicate_succ→wb
open Nat renaming add_mul→wZ,beq→yx,beq_refl→xq,ble→yE,eq_of_beq_eq_true→yo,le_of_ble_eq_true→yC,mul_comm→xQ
open Option.some renaming injEq→yc
open Prod.mk renaming injEq→yk
namespace VE
section
open Go
section
variable {O:bD} {H:Hint} {m:Mp} {S:Nat->Prop} {w:yh} {tm:Env} {a:Act} {hp:Hp} {ct:Nat}
def I5 {o:yY} {b:Builtin} {args:Array xB} {ts:Array yv} (ho:o.op= .call {callee:= .builtin b,args:=args,argTypes:=ts}):
  ∃cs,(execOp a.eval o).run O.P w=(builtin b ts o.type cs (args.map a.eval)).run O.P w:=by
 exact ⟨_,by simp only [execOp,ho,resolve,Sem.run_bind,Sem.run_pure,Result.andThen_ok,invoke];rfl⟩
def al3 {o:yY} {c:Call} {k:Nat} {v:AV} (hH:gl O H) (ht:cF O m S w tm a.tmps) (hh:bg O m S w hp ct) (ho:o.op= .call c)
  (hv:bH tm hp (bw O.P H k o)=some v):Reads O m S w a o v:=by
 obtain ⟨callee,args,ts⟩:=c;simp only [bw,ho] at hv
 split at hv
 ·cases WW:H.mode k<;>simp [WW,bH] at hv
 ·rename_i _ b
  split at hv
  ·have key:∀{bb:Bool} {sz by':Nat} {x y:X},bH tm hp (bif bb then .dV sz by' x y else bad)=some v->False:=by
    intro bb sz by' x y h
    cases bb
    ·exact eb h
    ·simp [bH] at h
   split at hv
   ·split at hv
    ·exact (key hv).elim
    ·simp_all
   ·split at hv
    ·exact (key hv).elim
    ·simp_all
   ·simp_all
  ·rename_i x t iq qO;obtain ⟨al⟩:=args;obtain ⟨tl⟩:=ts;simp only at iq qO;subst iq;subst qO;obtain ⟨cs,fW⟩:=I5 (O:=O) (w:=w) (a:=a) ho;have fin:(∃u,(Builtin.len_ #[t] o.type #[a.eval x]).run O.P w= .ok u w/\aj O.ai m S w v u)->Reads O m S w a o v:=by
    rintro ⟨u,h1,h2⟩;refine ⟨u,?_,h2⟩;rw [fW];simp [builtin,h1]
   split at hv
   ·rename_i n e hu;simp only [bH,aC,yc] at hv;subst hv;exact fin ⟨_,by simp [Builtin.len_,run_underlying hu];rfl,by simp [aj,goInt]⟩
   ·rename_i hu;simp only [bH] at hv;exact fin (Un hh (cQ hH ht x) (.inl ⟨rfl,hu⟩) hv)
   ·rename_i e hu;simp only [bH] at hv;exact fin (Un hh (cQ hH ht x) (.inr (.inl ⟨rfl,e,hu⟩)) hv)
   ·rename_i kt e hu;simp only [bH] at hv;exact fin (Un hh (cQ hH ht x) (.inr (.inr ⟨rfl,kt,e,hu⟩)) hv)
   ·exact (eb hv).elim
  ·split at hv
   ·split at hv
    ·simp [bH] at hv
    ·exact (eb hv).elim
   ·exact (eb hv).elim
  ·simp only [bH] at hv;obtain ⟨cs,fW⟩:=I5 (O:=O) (w:=w) (a:=a) ho;have hl:=DL hH ht args.toList
   cases hx:dS tm (ir H args.toList) with
   | nil=>simp [hx] at hv
   | cons c r=>
    simp only [hx] at hv;rw [hx] at hl;simp only [au] at hl;obtain ⟨u,us,h1,h2,h3⟩:=hl;obtain ⟨q,h4,h5⟩:=TE (O:=O) (g:=Builtin.min2) (fun va vb v x y hx hy h=>aqm hx hy h) r us c v u h2 h3 hv;refine ⟨q,?_,h5⟩;rw [fW];simp [builtin,Builtin.min_,h1,h4]
  ·simp only [bH] at hv;obtain ⟨cs,fW⟩:=I5 (O:=O) (w:=w) (a:=a) ho;have hl:=DL hH ht args.toList
   cases hx:dS tm (ir H args.toList) with
   | nil=>simp [hx] at hv
   | cons c r=>
    simp only [hx] at hv;rw [hx] at hl;simp only [au] at hl;obtain ⟨u,us,h1,h2,h3⟩:=hl;obtain ⟨q,h4,h5⟩:=TE (O:=O) (g:=Builtin.max2) (fun va vb v x y hx hy h=>aqn hx hy h) r us c v u h2 h3 hv;refine ⟨q,?_,h5⟩;rw [fW];simp [builtin,Builtin.max_,h1,h4]
  ·exact (eb hv).elim
 ·exact (eb hv).elim
def Z4 {kt:yv} {kk:Nat} {vk:AV} (hk:keyOf O.P kt=some kk) (h:Ak kk vk=true):∃d,O.P.underlying kt=some d/\Pj d=true/\fits d vk=true:=by
 unfold keyOf at hk
 split at hk
 ·rename_i hu;simp only [yc] at hk;subst hk;refine ⟨_,hu,rfl,?_⟩;cases vk<;>simp_all [Ak,fits]
 ·rename_i hu;simp only [yc] at hk;subst hk;refine ⟨_,hu,rfl,?_⟩;cases vk<;>simp_all [Ak,fits]
 ·rename_i hu;simp only [yc] at hk;subst hk;refine ⟨_,hu,rfl,?_⟩;cases vk<;>simp_all [Ak,fits]
 ·cases hk
def ac3 {o:yY} {k:Nat} {v:AV} (hH:gl O H) (ht:cF O m S w tm a.tmps) (hh:bg O m S w hp ct)
  (hv:bH tm hp (bw O.P H k o)=some v):Reads O m S w a o v:=by
 cases ho:o.op with
 | call c=>exact al3 hH ht hh ho hv
 | binOp op t x y ty=>exact anX hH ht ho hv
 | move x=>
  simp only [bw,ho,bH,yc] at hv;subst hv;exact ⟨_,by simp only [execOp,ho,Sem.run_pure],cQ hH ht x⟩
 | assign x=>
  simp only [bw,ho,bH,yc] at hv;subst hv;exact ⟨_,by simp only [execOp,ho,Sem.run_pure],cQ hH ht x⟩
 | pick c x y=>
  simp only [bw,ho,bH] at hv;have rc:=cQ hH ht c;cases hc:aC tm (aV H c)<;>rw [hc] at hv<;>simp only [reduceCtorEq] at hv
  rename_i b;rw [hc] at rc;simp only [aj] at rc;simp only [yc] at hv;subst hv
  cases b with
  | true=>exact ⟨a.eval x,by simp [execOp,ho,rc,asBool],cQ hH ht x⟩
  | false=>exact ⟨a.eval y,by simp [execOp,ho,rc,asBool],cQ hH ht y⟩
 | load t x=>
  simp only [bw,ho] at hv
  split at hv
  ·rename_i s ag hz ha;simp only [bH] at hv;exact kR (by simp only [execOp,ho]) (avt hh hz ha (cQ hH ht x) hv)
  ·exact (eb hv).elim
 | fieldAddr t x i=>
  simp only [bw,ho] at hv
  split at hv
  ·rename_i fs hu
   split at hv
   ·rename_i f hf
    split at hv
    ·rename_i s hz;simp only [bH] at hv;exact kR (by simp only [execOp,ho]) (asE hu hf hz (cQ hH ht x) hv)
    ·exact (eb hv).elim
   ·exact (eb hv).elim
  ·exact (eb hv).elim
 | field t x i=>
  simp only [bw,ho] at hv
  split at hv
  ·rename_i fs hu
   split at hv
   ·rename_i f hf
    split at hv
    ·rename_i s ag hz ha;simp only [bH] at hv;exact kR (by simp only [execOp,ho]) (asF hu hf hz ha (cQ hH ht x) hv)
    ·exact (eb hv).elim
   ·exact (eb hv).elim
  ·exact (eb hv).elim
 | nilCheck x=>
  simp only [bw,ho,bH] at hv;have rx:=cQ hH ht x;cases hx:aC tm (aV H x)<;>rw [hx] at hv rx<;>simp only [reduceCtorEq,yc] at hv
  ·subst hv;have r':=rx;simp only [aj] at r';obtain ⟨p,_,e⟩:=r';exact ⟨a.eval x,by simp only [execOp,ho,e,Sem.run_pure],rx⟩
  ·subst hv;have r':=rx;simp only [aj] at r';obtain ⟨b,o',e,_⟩:=r';exact ⟨a.eval x,by simp only [execOp,ho,e,Sem.run_pure],rx⟩
  ·subst hv;rename_i f _ _
   cases f with
   | f g=>
    have r':=rx;simp only [aj] at r';obtain ⟨fi,ca,e,_⟩:=r';exact ⟨a.eval x,by simp only [execOp,ho,e,Sem.run_pure],rx⟩
   | y l=>
    have r':=rx;simp only [aj] at r';obtain ⟨p,_,e⟩:=r';exact ⟨a.eval x,by simp only [execOp,ho,e,Sem.run_pure],rx⟩
 | unOp op t x=>
  simp only [bw,ho,bH] at hv;exact kR (by simp only [execOp,ho]) (aql (cQ hH ht x) hv)
 | convert s d x=>
  simp only [bw,ho] at hv
  split at hv
  ·rename_i k1 k2 hs hd;simp only [bH] at hv;exact kR (by simp only [execOp,ho]) (abP hd (.inl ⟨_,hs⟩) (cQ hH ht x) hv)
  ·rename_i k1 k2 hs hd;simp only [bH] at hv;exact kR (by simp only [execOp,ho]) (abP hd (.inr ⟨_,hs⟩) (cQ hH ht x) hv)
  ·rename_i k1 k2 hs hd;simp only [bH] at hv;exact kR (by simp only [execOp,ho]) (abQ hd (.inl ⟨_,hs⟩) (cQ hH ht x) hv)
  ·rename_i k1 k2 hs hd;simp only [bH] at hv;exact kR (by simp only [execOp,ho]) (abQ hd (.inr ⟨_,hs⟩) (cQ hH ht x) hv)
  ·rename_i hs hd;simp only [bH] at hv;exact kR (by simp only [execOp,ho]) (anU hd hs (cQ hH ht x) hv)
  ·exact (eb hv).elim
 | makeFunc fn first cap=>
  cases fn with
  | func f=>
   simp only [bw,ho] at hv
   split at hv
   ·rename_i g hg;simp only [bH,yc] at hv;subst hv;refine ⟨.func (.func f) (first.map a.eval) (cap.map a.eval),by simp [execOp,ho,Instr.makeFunc],?_⟩;simp only [aj];exact ⟨_,_,by rw [hH f g hg],by simpa using DL hH ht first.toList,by simpa using DL hH ht cap.toList⟩
   ·exact (eb hv).elim
  | _=>simp only [bw,ho] at hv;exact (eb hv).elim
 | slice t x lo hi mx=>
  cases mx with
  | some q=>simp only [bw,ho] at hv;exact (eb hv).elim
  | none=>
   simp only [bw,ho] at hv
   split at hv
   ·rename_i hu;simp only [bH] at hv;exact kR (by simp only [execOp,ho];rfl) (al1 hH ht hu (cQ hH ht x) hv)
   ·rename_i e hu
    split at hv
    ·rename_i s hz;simp only [bH] at hv;exact kR (by simp only [execOp,ho];rfl) (anV hH ht hu hz hh (cQ hH ht x) hv)
    ·exact (eb hv).elim
   ·split at hv
    ·simp only [bH] at hv;cases hx:aC tm (aV H x)<;>rw [hx] at hv<;>simp [fT] at hv
    ·exact (eb hv).elim
   ·exact (eb hv).elim
 | indexAddr t x i=>
  simp only [bw,ho] at hv
  split at hv
  ·rename_i e hu
   split at hv
   ·rename_i s hz;simp only [bH] at hv
    cases hk:eC (aC tm (aV H i)) with
    | none=>simp [hk] at hv
    | some j=>
     simp only [hk] at hv;exact kR (by simp only [execOp,ho]) (asG hu hz (cQ hH ht x) (cQ hH ht i) hk hv)
   ·exact (eb hv).elim
  ·rename_i n e hu
   split at hv
   ·rename_i s hz;simp only [bH] at hv
    cases hk:eC (aC tm (aV H i)) with
    | none=>simp [hk] at hv
    | some j=>
     simp only [hk] at hv;exact kR (by simp only [execOp,ho]) (asH hu hz (cQ hH ht x) (cQ hH ht i) hk hv)
   ·exact (eb hv).elim
  ·exact (eb hv).elim
 | index t x i=>
  simp only [bw,ho] at hv
  split at hv
  ·rename_i hu;simp only [bH] at hv
   cases hk:eC (aC tm (aV H i)) with
   | none=>simp [hk] at hv
   | some j=>
    simp only [hk] at hv;exact kR (by simp only [execOp,ho]) (asJ hu (cQ hH ht x) (cQ hH ht i) hk hv)
  ·rename_i n e hu
   split at hv
   ·rename_i s ag hz ha;simp only [bH] at hv
    cases hk:eC (aC tm (aV H i)) with
    | none=>simp [hk] at hv
    | some j=>
     simp only [hk] at hv;exact kR (by simp only [execOp,ho]) (asI hu hz ha (cQ hH ht x) (cQ hH ht i) hk hv)
   ·exact (eb hv).elim
  ·exact (eb hv).elim
 | lookup t x i ok=>
  simp only [bw,ho] at hv
  split at hv
  ·rename_i kt e hu
   split at hv
   ·rename_i kk z zJ hz;simp only [bH] at hv
    cases hf:Ak kk (aC tm (aV H i)) with
    | false=>simp [hf] at hv
    | true=>
     simp only [hf,ym] at hv;obtain ⟨d,jW,et,LD⟩:=Z4 zJ hf;obtain ⟨zv,mN,rfl⟩:=FH (w:=w) hz
     cases hr:Cg hp (aC tm (aV H i)) (aC tm (aV H x)) with
     | none=>simp [hr] at hv
     | some r=>
      refine kR (by simp only [execOp,ho]) (asK (ok:=ok) (r:=r) (z:=fe zv) hh hu jW et LD mN (cQ hH ht x) (cQ hH ht i) (N1 zv) hr ?_);cases r<;>simpa [hr] using hv
   ·exact (eb hv).elim
  ·exact (eb hv).elim
 | extract x i=>
  simp only [bw,ho,bH] at hv;have rx:=cQ hH ht x;cases hx:aC tm (aV H x)<;>rw [hx] at hv rx<;>simp only [reduceCtorEq] at hv
  simp only [aj] at rx;obtain ⟨xs,e,hr⟩:=rx;obtain ⟨u,h1,h2⟩:=SY hr hv;refine ⟨u,?_,h2⟩;have CU:xs[i]? =some u:=by simpa using h1
  simp [execOp,ho,e,Instr.extract,CU]
 | build t parts=>
  simp only [bw,ho] at hv
  split at hv
  ·rename_i fs z hu hz
   split at hv
   ·rename_i pl awY;have qK:=run_places (P:=O.P) w fs.toList pl awY
    split at hv
    case h_2=>exact (eb hv).elim
    rename_i ps fH;simp only [bH] at hv
    cases hf:fill tm z ps with
    | none=>simp [hf] at hv
    | some cs=>
     simp only [hf,yc] at hv;subst hv;obtain ⟨zv,mN,jh⟩:=FH (w:=w) hz;have Bf:au O.ai m S w z zv.cells.toList:=by
      have:=Fg (ai:=O.ai) (m:=m) (S:=S) (w:=w) zv
      rw [<-jh] at this;exact this
     obtain ⟨out,h1,h2⟩:=N3 hH ht (place:=fun i=>pl[i]?) parts.toList ps z cs zv.cells fH Bf hf;refine ⟨.agg out,?_,by simp only [aj];exact ⟨out,rfl,h2⟩⟩
     have hm:(Array.mapM (fun f=>Functor.map (Prod.mk f.offset) (Go.sizeOf f.type)) fs:Sem (Array (Nat×Nat))).run O.P w= .ok pl.toArray w:=by
      rw [Array.mapM_eq_mapM_toList];simp [qK]
     simp [execOp,ho,Instr.build,mN,run_underlying hu,hm,h1]
   ·exact (eb hv).elim
  ·rename_i n e z hu hz
   split at hv
   ·rename_i s hs
    split at hv
    ·rename_i ps fH;simp only [bH] at hv
     cases hf:fill tm z ps with
     | none=>simp [hf] at hv
     | some cs=>
      simp only [hf,yc] at hv;subst hv;obtain ⟨zv,mN,jh⟩:=FH (w:=w) hz;have Bf:au O.ai m S w z zv.cells.toList:=by
       have:=Fg (ai:=O.ai) (m:=m) (S:=S) (w:=w) zv
       rw [<-jh] at this;exact this
      obtain ⟨out,h1,h2⟩:=N3 hH ht (place:=fun i=>some (i*s,s)) parts.toList ps z cs zv.cells fH Bf hf;refine ⟨.agg out,?_,by simp only [aj];exact ⟨out,rfl,h2⟩⟩
      simp [execOp,ho,Instr.build,mN,run_underlying hu,oC hs,h1]
    ·exact (eb hv).elim
   ·exact (eb hv).elim
  ·exact (eb hv).elim
 | alloc t=>simp only [bw,ho] at hv;split at hv<;>simp [bH,bad] at hv
 | box t x=>simp only [bw,ho] at hv;split at hv<;>simp [bH,bad] at hv
 | buildSlice t n parts=>
  simp only [bw,ho] at hv
  split at hv
  ·split at hv
   ·rename_i s z _ _
    cases hc:yE (n*s) 16777216 with
    | false=>rw [hc] at hv;exact (eb hv).elim
    | true=>
     rw [hc] at hv;simp only [ym] at hv
     split at hv
     ·simp [bH] at hv
     ·exact (eb hv).elim
   ·exact (eb hv).elim
  ·exact (eb hv).elim
 | makeMap t r=>
  cases r<;>simp only [bw,ho] at hv
  ·repeat' split at hv
   all_goals simp [bH,bad] at hv
  ·exact (eb hv).elim
 | makeSlice t l c=>
  simp only [bw,ho] at hv
  repeat' split at hv
  all_goals simp [bH,bad] at hv
 | insert t x k y=>
  simp only [bw,ho] at hv
  repeat' split at hv
  all_goals simp [bH,bad] at hv
 | mapUpdate t x k y=>
  simp only [bw,ho] at hv
  repeat' split at hv
  all_goals simp [bH,bad] at hv
 | store t x y=>simp only [bw,ho] at hv;split at hv<;>simp [bH,bad] at hv
 | range t x=>simp only [bw,ho] at hv;split at hv<;>simp [bH,bad] at hv
 | next x b=>cases b<;>simp [bw,ho,bH,bad] at hv
 | _=>simp [bw,ho,bH,bad] at hv
end
end
section
open Go
def fX (m:Mp) (id:Nat) (p:Pl):Mp:=fun i=>if i=id then some p else m i
def eT {m:Mp} {id:Nat} {p:Pl}:fX m id p id=some p:=by simp [fX]
def eS {m:Mp} {id i:Nat} {p:Pl} (h:i≠id):fX m id p i=m i:=by simp [fX,h]
section
variable {O:bD} {m:Mp} {S:Nat->Prop} {w:yh} {hp:Hp} {ct:Nat}
def dW (m m':Mp):Prop:=∀id p,m id=some p->m' id=some p
def dW.refl {m:Mp}:dW m m:=fun _ _ h=>h
def dW.trans {m m' LB:Mp} (h:dW m m') (k:dW m' LB):dW m LB:=fun id p hp=>k id p (h id p hp)
def lK {i:Nat} (h:m i=none) {p:Pl}:dW m (fX m i p):=by
 intro id q hq;rw [eS]
 ·grind
 ·grind
def BO {tm:Env} {tmps:Array yf} {m':Mp} {S':Nat->Prop} {w':yh} (hm:∀id p,m id=some p->m' id=some p) (hS:∀b,S b->S' b) (hw:gI S w w')
  (h:cF O m S w tm tmps):cF O m' S' w' tm tmps:=fun i=>mY hm hS hw _ _ (h i)
def alloc_old {o:Go.Obj} {b:Nat} (hb:b<w.heap.size):(w.alloc o).heap[b]? =w.heap[b]? :=RowKit.Below.heap_alloc w o b hb
def sI {m':Mp} {S':Nat->Prop} {w':yh} {id:Nat} {o:Obj} (hm:∀id p,m id=some p->m' id=some p) (hS:∀b,S b->S' b) (hw:gI S w w') (hb:∀p,m id=some p->w'.heap[p.b]? =w.heap[p.b]?)
  (hn:∀p,m id=some p->S' p.b->S p.b) (h:fV O m S w id o):fV O m' S' w' id o:=by
 have rowAt:∀(cs:List AV) (b k:Nat),w'.heap[b]? =w.heap[b]? ->ck O.ai m S w cs b k->ck O.ai m' S' w' cs b k:=by
  intro cs
  induction cs with
  | nil=>intro b k _ _;simp only [ck]
  | cons c cs ih=>
   intro b k zK hr;obtain ⟨⟨u,h1,h2⟩,h3⟩:=hr;exact ⟨⟨u,(MS zK).trans h1,mY hm hS hw _ _ h2⟩,ih b (k+1) zK h3⟩
 cases o with
 | cells rw pu ex sz cs=>
  obtain ⟨p,arr,t,h1,h2,h3,h4,h5,h6,h7,h8,h9,iy⟩:=h;exact ⟨p,arr,t,hm _ _ h1,(hb p h1).trans h2,h3,h4,h5,h6,rowAt cs p.b p.o (hb p h1) h7,h8,fun hr hs=>h9 hr (hn p h1 hs),fun hr=>hS _ (iy hr)⟩
 | mp rw ks vs=>
  obtain ⟨p,es,clock,h1,h2,h3,h4,h5,h6⟩:=h;exact ⟨p,es,clock,hm _ _ h1,(hb p h1).trans h2,iB hm hS hw _ _ h3,iB hm hS hw _ _ h4,fun hr hs=>h5 hr (hn p h1 hs),fun hr=>hS _ (h6 hr)⟩
 | si s pos=>
  obtain ⟨p,t,h1,h2,h3,h4⟩:=h;exact ⟨p,t,hm _ _ h1,(hb p h1).trans h2,h3,fun hs=>h4 (hn p h1 hs)⟩
 | lp tm ps as_ body st pe=>
  obtain ⟨p,l,hi,h1,h2,h3,h4,h5,h6,h7,h8⟩:=h;exact ⟨p,l,hi,hm _ _ h1,(hb p h1).trans h2,fun hs=>h3 (hn p h1 hs),h4,h5,h6,BO hm hS hw h7,h8⟩
def iC {id i:Nat} {o:Obj}:ap ((id,o)::hp) i=if id=i then some o else ap hp i:=by
 simp only [ap]
 simp_all
def Ja (hh:bg O m S w hp ct) (g:Go.Obj):gI S w (w.alloc g):=fun b hb=>alloc_old (hh.slt b hb)
def jX:Obj->Obj->Prop
 | .cells rw pu ex sz cs,o'=>∃fm,o'= .cells fm pu ex sz cs/\(fm=true->rw=true)
 | .mp rw ks vs,o'=>∃fm,o'= .mp fm ks vs/\(fm=true->rw=true)
 | .si s pos,o'=>o'= .si s pos
 | .lp tm ps as_ body st pe,o'=>o'= .lp tm ps as_ body st pe
def jX.refl:∀o,jX o o
 | .cells rw _ _ _ _=>⟨rw,rfl,fun h=>h⟩
 | .mp rw _ _=>⟨rw,rfl,fun h=>h⟩
 | .si _ _=>rfl
 | .lp _ _ _ _ _ _=>rfl
def jX.trans {a b c:Obj} (h:jX a b) (k:jX b c):jX a c:=by
 cases a with
 | cells rw pu ex sz cs=>
  obtain ⟨r1,rfl,h1⟩:=h;obtain ⟨r2,rfl,h2⟩:=k;exact ⟨r2,rfl,fun h=>h1 (h2 h)⟩
 | mp rw ks vs=>
  obtain ⟨r1,rfl,h1⟩:=h;obtain ⟨r2,rfl,h2⟩:=k;exact ⟨r2,rfl,fun h=>h1 (h2 h)⟩
 | si s pos=>simp only [jX] at h;subst h;exact k
 | lp tm ps as_ body st pe=>simp only [jX] at h;subst h;exact k
def dN (hp ao:Hp):Prop:=∀id o,ap hp id=some o->∃o',ap ao id=some o'/\jX o o'
def dN.refl {hp:Hp}:dN hp hp:=fun _ o h=>⟨o,h,jX.refl o⟩
def dN.trans {a b c:Hp} (h:dN a b) (k:dN b c):dN a c:=fun id o ho=>
 let ⟨o1,h1,l1⟩:=h id o ho
 let ⟨o2,h2,l2⟩:=k id o1 h1
 ⟨o2,h2,l1.trans l2⟩
def jL:Obj->Prop
 | .cells rw _ _ _ _=>rw=false
 | .mp rw _ _=>rw=false
 | _=>False
def ac4 {ao:Hp} {bj:Nat} (hh:bg O m S w hp ct) (hl:dN hp ao) (hd:∀id o p,ap ao id=some o->m id=some p->∃o',ap hp id=some o') (fI:ct<=bj) (awZ:∀id o,ap ao id=some o->id<bj):
  ∃S',bg O m S' w ao bj/\(∀b,S b->S' b)/\∀b,S' b->S b\/eL m hp b:=by
 refine ⟨fun b=>S b\/∃id p o,m id=some p/\p.b=b/\ap ao id=some o/\jL o,?_,fun b h=> .inl h,?_⟩
 ·refine ⟨?_,fun id p h=>Nat.lt_of_lt_of_le (hh.lt id p h) fI,?_,?_,hh.blt,hh.low,hh.mG,hh.gK,awZ⟩
  ·intro id o' p ml hm;obtain ⟨o,ho⟩:=hd id o' p ml hm;obtain ⟨o'',h1,h2⟩:=hl id o ho;rw [ml] at h1;injection h1 with h1
   subst h1;have h3:=hh.obj id o p ho hm;have hS:∀b,S b->(S b\/∃id p o,m id=some p/\p.b=b/\ap ao id=some o/\jL o):=fun b h=> .inl h
   have mO:∀q,m id=some q->(∃id p o,m id=some p/\p.b=q.b/\ap ao id=some o/\jL o)->jL o':=by
    rintro q hq ⟨j,pj,oj,WX,hj2,hj3,hj4⟩;obtain ⟨LF,hj5⟩:=hd j oj pj hj3 WX
    have:=hh.inj id j o LF q pj ho hj5 hq WX hj2.symm
    grind
   have bh:gI S w w:=fun _ _=>rfl
   cases o with
   | cells rw pu ex sz cs=>
    obtain ⟨fm,rfl,rS⟩:=h2;obtain ⟨q,arr,t,h1,h2,h3,h4,h5,h6,h7,h8,h9,iy⟩:=h3;refine ⟨q,arr,t,h1,h2,h3,h4,h5,h6,?_,h8,?_,?_⟩
    ·clear h4 h6 h8;revert h7;generalize q.o=k
     induction cs generalizing k with
     | nil=>intro _;simp only [ck]
     | cons c cs ih=>
      intro hr;simp only [ck] at hr ⊢;obtain ⟨⟨u,g1,g2⟩,g3⟩:=hr
      exact ⟨⟨u,g1,mY (fun _ _ h=>h) hS bh _ _ g2⟩,by
       have EG:∀(cs:List AV) (b k:Nat),ck O.ai m S w cs b k->ck O.ai m (fun b=>S b\/∃id p o,m id=some p/\p.b=b/\ap ao id=some o/\jL o) w cs b k:=by
        intro cs
        induction cs with
        | nil=>intro b k _;simp only [ck]
        | cons c cs ih=>
         intro b k hr;simp only [ck] at hr ⊢;obtain ⟨⟨u,g1,g2⟩,g3⟩:=hr;exact ⟨⟨u,g1,mY (fun _ _ h=>h) hS bh _ _ g2⟩,ih b (k+1) g3⟩
       exact EG _ _ _ g3⟩
    ·rintro hr (hs | hs)
     ·grind
     ·have:=mO q h1 hs
      simp only [jL] at this
      grind
    ·intro hr;exact .inr ⟨id,q,_,h1,rfl,ml,hr⟩
   | mp rw ks vs=>
    obtain ⟨fm,rfl,rS⟩:=h2;obtain ⟨q,es,clock,h1,h2,h3,h4,h5,h6⟩:=h3;refine ⟨q,es,clock,h1,h2,iB (fun _ _ h=>h) hS bh _ _ h3,iB (fun _ _ h=>h) hS bh _ _ h4,?_,?_⟩
    ·rintro hr (hs | hs)
     ·grind
     ·have:=mO q h1 hs
      simp only [jL] at this
      grind
    ·intro hr;exact .inr ⟨id,q,_,h1,rfl,ml,hr⟩
   | si s pos=>
    simp only [jX] at h2;subst h2;refine sI (fun _ _ h=>h) hS bh (fun _ _=>rfl) (fun q hq hs=>?_) h3;rcases hs with hs | hs
    ·grind
    ·exact (mO q hq hs).elim
   | lp tm ps as_ body st pe=>
    simp only [jX] at h2;subst h2;refine sI (fun _ _ h=>h) hS bh (fun _ _=>rfl) (fun q hq hs=>?_) h3;rcases hs with hs | hs
    ·grind
    ·exact (mO q hq hs).elim
  ·intro i j oi oj pi pj hi hj bX gT e;obtain ⟨LI,cu⟩:=hd i oi pi hi bX;obtain ⟨LF,ol⟩:=hd j oj pj hj gT;exact hh.inj i j LI LF pi pj cu ol bX gT e
  ·rintro b (hb | ⟨id,p,o,h1,rfl,_,_⟩)
   ·exact hh.slt b hb
   ·exact hh.blt id p h1
 ·rintro b (hb | ⟨id,p,o,h1,rfl,h3,_⟩)
  ·exact .inl hb
  ·obtain ⟨o',ml⟩:=hd id o p h3 h1;exact .inr ⟨id,o',p,ml,h1,rfl⟩
def abS {i:Nat} (hh:bg O m S w hp ct) (hi:m i=none) (Hg:i<ct) {g:Go.Obj} {p:Pl} (hb:p.b=w.heap.size)
  (hf:∀o,ap hp i=some o->(fV O (fX m i p) S (w.alloc g) i o/\¬jL o)\/
   (jL o/\fV O (fX m i p) (fun b=>S b\/b=w.heap.size) (w.alloc g) i o)):
  ∃S',bg O (fX m i p) S' (w.alloc g) hp ct/\(∀b,S b->S' b)/\∀b,S' b->S b\/b=w.heap.size:=by
 have fk:(w.alloc g).heap.size=w.heap.size+1:=by simp
 have bt:O.w0.heap.size<=w.heap.size:=hh.gK;have gen:∀S':Nat->Prop,(∀b,S b->S' b)->(∀b,S' b->S b\/b=w.heap.size)->(∀o,ap hp i=some o->fV O (fX m i p) S' (w.alloc g) i o)->bg O (fX m i p) S' (w.alloc g) hp ct:=by
  intro S' h1 h2 h3;have LJ:∀id q,m id=some q->¬q.b=w.heap.size:=fun id q hq=>by have:=hh.blt id q hq;omega
  refine ⟨?_,?_,?_,?_,?_,?_,?_,?_,hh.bm⟩
  ·intro id o q ho hm;by_cases hc:id=i
   ·grind
   ·rw [eS hc] at hm;refine sI (lK hi) h1 (Ja hh g) (fun q' cz=>alloc_old (hh.blt id q' cz)) (fun q' cz hs=>?_) (hh.obj id o q ho hm)
    grind
  ·intro id q hm;by_cases hc:id=i
   ·grind
   ·rw [eS hc] at hm;exact hh.lt id q hm
  ·intro a b oa ob pa pb ha dl EI AR e;by_cases ca:a=i
   ·by_cases cb:b=i
    ·grind
    ·subst ca;rw [eT] at EI;rw [eS cb] at AR
     grind
   ·rw [eS ca] at EI;by_cases cb:b=i
    ·subst cb;rw [eT] at AR
     grind
    ·rw [eS cb] at AR;exact hh.inj a b oa ob pa pb ha dl EI AR e
  ·intro b hs;rcases h2 b hs with h | h
   ·have:=hh.slt b h;omega
   ·omega
  ·intro id q hm;by_cases hc:id=i
   ·subst hc;rw [eT] at hm
    grind
   ·rw [eS hc] at hm
    have:=hh.blt id q hm
    omega
  ·intro id q hm;by_cases hc:id=i
   ·subst hc;rw [eT] at hm
    grind
   ·rw [eS hc] at hm;exact hh.low id q hm
  ·intro b zK;exact (alloc_old (by omega)).trans (hh.mG b zK)
  ·omega
 cases ho:ap hp i with
 | none=>exact ⟨S,gen S (fun _ h=>h) (fun _ h=> .inl h) (fun o h=>by rw [ho] at h;cases h),fun _ h=>h,fun _ h=> .inl h⟩
 | some o=>
  rcases hf o ho with ⟨h1,_⟩ | ⟨_,h1⟩
  ·exact ⟨S,gen S (fun _ h=>h) (fun _ h=> .inl h) (fun o' h=>by rw [ho] at h;injection h with h;subst h;exact h1),fun _ h=>h,fun _ h=> .inl h⟩
  ·exact ⟨_,gen (fun b=>S b\/b=w.heap.size) (fun _ h=> .inl h) (fun _ h=>h) (fun o' h=>by rw [ho] at h;injection h with h;subst h;exact h1),fun _ h=> .inl h,fun _ h=>h⟩
def ZF {id:Nat} {o o':Obj} {p:Pl} (hl:jX o o') (hm:m id=some p) (h:fV O m S w id o) (hn:¬jL o):
  (fV O m S w id o'/\¬jL o')\/(jL o'/\fV O m (fun b=>S b\/b=p.b) w id o'):=by
 have hS:∀b,S b->(S b\/b=p.b):=fun _ h=> .inl h
 have bh:gI S w w:=fun _ _=>rfl
 cases o with
 | cells rw pu ex sz cs=>
  obtain ⟨fm,rfl,rS⟩:=hl
  cases fm with
  | true=>
   grind
  | false=>
   refine .inr ⟨rfl,?_⟩;obtain ⟨q,arr,t,h1,h2,h3,h4,h5,h6,h7,h8,h9,iy⟩:=h;rw [hm] at h1;injection h1 with h1
   subst h1;have EG:∀(cs:List AV) (b k:Nat),ck O.ai m S w cs b k->ck O.ai m (fun b=>S b\/b=p.b) w cs b k:=by
    intro cs
    induction cs with
    | nil=>intro b k _;simp only [ck]
    | cons c cs ih=>
     intro b k hr;obtain ⟨⟨u,g1,g2⟩,g3⟩:=hr;exact ⟨⟨u,g1,mY (fun _ _ h=>h) hS bh _ _ g2⟩,ih b (k+1) g3⟩
   exact ⟨p,arr,t,hm,h2,h3,h4,h5,h6,EG _ _ _ h7,h8,by simp,fun _=> .inr rfl⟩
 | mp rw ks vs=>
  obtain ⟨fm,rfl,rS⟩:=hl
  cases fm with
  | true=>
   grind
  | false=>
   refine .inr ⟨rfl,?_⟩;obtain ⟨q,es,clock,h1,h2,h3,h4,h5,h6⟩:=h;rw [hm] at h1;injection h1 with h1
   subst h1;exact ⟨p,es,clock,hm,h2,iB (fun _ _ h=>h) hS bh _ _ h3,iB (fun _ _ h=>h) hS bh _ _ h4,by simp,fun _=> .inr rfl⟩
 | si s pos=>simp only [jX] at hl;subst hl;exact .inl ⟨h,hn⟩
 | lp tm ps as_ body st pe=>simp only [jX] at hl;subst hl;exact .inl ⟨h,hn⟩
end
end
section
open Go
section
variable {O:bD} {H:Hint} {m:Mp} {S:Nat->Prop} {w:yh} {tm:Env} {a:Act} {hp:Hp} {ct cq:Nat}
def Ss {ai:Nat->Nat} {b:Nat} {arr:Array yf} {t:yv} {fr:Nat×Nat} (hb:w.heap[b]? =some (.cells arr t fr)):∀(cs:List AV) (us:List yf) (o:Nat),
  au ai m S w cs us->(∀(j:Nat) (u:yf),us[j]? =some u->arr[o+j]? =some u)->ck ai m S w cs b o
 | [],us,o,_,_=>by simp only [ck]
 | c::cs,us,o,h,hu=>by
  simp only [au] at h;obtain ⟨u,r,rfl,h2,h3⟩:=h;simp only [ck];refine ⟨⟨u,?_,h2⟩,Ss hb cs r (o+1) h3 (fun j v hv=>?_)⟩
  ·have:=hu 0 u (by simp)
   simpa [World.cell?,hb] using this
  ·have:=hu (j+1) v (by simpa using hv)
   rw [show o+1+j=o+(j+1) by omega];exact this
def aqo (hh:bg O m S w hp cq) {i:Nat} {arr:Array yf} {t:yv} {cs:List AV} {us:List yf} {pu ex:Bool} {sz:Nat} (hr:au O.ai m S w cs us)
  (hu:∀(j:Nat) (u:yf),us[j]? =some u->arr[j]? =some u) (hl:cs.length<=arr.size) (hex:ex=true->cs.length=arr.size) (ix:pu=true->aK cs=true)
  (m':Mp) (hm:dW m m') (hi:m' i=some ⟨w.heap.size,0,arr.size,sz⟩):fV O m' S (w.alloc (.cells arr t)) i (.cells true pu ex sz cs):=by
 refine ⟨⟨w.heap.size,0,arr.size,sz⟩,arr,t,hi,heap_alloc_new w _,rfl,hl,by simp,hex,?_,ix,?_,by simp⟩
 ·exact Ss (heap_alloc_new w _) cs us 0 (iB hm (fun _ h=>h) (Ja hh _) _ _ hr) (by simpa using hu)
 ·intro _ hS
  have:=hh.slt _ hS
  simp at this
def D4 (O:bD) (m:Mp) (S:Nat->Prop) (w:yh) (a:Act) (ct:Nat) (o:yY) (v:AV) (b:Obj):Prop:=
 ∃u g p,(execOp a.eval o).run O.P w= .ok (.value u) (w.alloc g)/\p.b=w.heap.size/\¬jL b/\
  ∀m',dW m m'->m' ct=some p->fV O m' S (w.alloc g) ct b/\aj O.ai m' S (w.alloc g) v u
def Su {o:yY} {arr:Array yf} {t:yv} {cs:List AV} {us:List yf} {pu ex:Bool} {sz:Nat} {v:AV} {u:yf} (hh:bg O m S w hp cq)
  (he:(execOp a.eval o).run O.P w= .ok (.value u) (w.alloc (.cells arr t))) (hr:au O.ai m S w cs us)
  (hu:∀(j:Nat) (u:yf),us[j]? =some u->arr[j]? =some u) (hl:cs.length<=arr.size) (hex:ex=true->cs.length=arr.size) (ix:pu=true->aK cs=true)
  (hv:∀m':Mp,m' ct=some ⟨w.heap.size,0,arr.size,sz⟩->aj O.ai m' S (w.alloc (.cells arr t)) v u):D4 O m S w a ct o v (.cells true pu ex sz cs):=
 ⟨u,_,⟨w.heap.size,0,arr.size,sz⟩,he,rfl,by simp [jL],fun m' hm hi=>⟨aqo hh hr hu hl hex ix m' hm hi,hv m' hi⟩⟩
def abT {o:yY} {t:yv} {x:yf} {vx v:AV} {b:Obj} {sz:Nat} (hh:bg O m S w hp cq) (he:(execOp a.eval o).run O.P w= .ok (.value (.pointer (some ⟨w.heap.size,0,none⟩))) (w.alloc (.cells x.cells t))) (hx:au O.ai m S w (cellsOf vx) x.cells.toList)
  (hv:(bif yx (cellsOf vx).length sz&&cf (cellsOf vx) then some (AV.ptr ct 0,Obj.cells true (aK (cellsOf vx)) true sz (cellsOf vx)) else none)=some (v,b)):D4 O m S w a ct o v b:=by
 cases hc:(yx (cellsOf vx).length sz&&cf (cellsOf vx)) with
 | false=>rw [hc] at hv;cases hv
 | true=>
  rw [hc] at hv;obtain ⟨rfl,rfl⟩:=hv;have hlen:=jo _ _ hx;refine Su hh he hx (fun j u hj=>by simpa using hj) (by rw [<-hlen];simp) (fun _=>by rw [<-hlen];simp) (fun h=>h) (fun m' hi=>?_)
  simp only [aj];exact ⟨_,hi,by simp⟩
def anY {o:yY} {t:yv} {r:Option xB} (hh:bg O m S w hp cq) (ho:o.op= .makeMap t r) (hr:r=none):D4 O m S w a ct o (.map ct) (.mp true [] []):=by
 subst hr;refine ⟨.map (some w.heap.size),.map #[] 0,⟨w.heap.size,0,0,0⟩,by simp [execOp,ho,Instr.makeMap],rfl,by simp [jL],fun m' _ hi=>⟨?_,?_⟩⟩
 ·refine ⟨_,#[],0,hi,heap_alloc_new w _,by simp [au],by simp [au],?_,by simp⟩;intro _ hS
  have:=hh.slt _ hS
  simp at this
 ·simp only [aj];exact ⟨_,hi,rfl⟩
def al4 {o:yY} {t:yv} {x:xB} {s:List Nat} (hh:bg O m S w hp cq) (ho:o.op= .range t x) (hu:O.P.underlying t=some .string) (hx:aj O.ai m S w (.str s) (a.eval x)):
  D4 O m S w a ct o (.it ct) (.si s 0):=by
 obtain ⟨b,e,rfl⟩:=hx;refine ⟨.pointer (some ⟨w.heap.size,0,none⟩),.stringIter b 0,⟨w.heap.size,0,0,0⟩,by simp [execOp,ho,Instr.range,run_underlying hu,e],rfl,by simp [jL],fun m' _ hi=>⟨?_,?_⟩⟩
 ·refine ⟨_,b,hi,heap_alloc_new w _,rfl,?_⟩;intro hS
  have:=hh.slt _ hS
  simp at this
 ·simp only [aj];exact ⟨_,hi,rfl⟩
end
def al5 (zero:Array yf):(xg zero.size).map (fun j=>zero[j]!)=zero.toList:=by
 apply List.ext_getElem
 ·simp
 ·grind
def Z5 (zero:Array yf):∀n:Nat,(xg (n*zero.size)).map (fun i=>zero[i%zero.size]!)=(yz n zero.toList).flatten
 | 0=>by simp
 | n+1=>by
  rw [wZ,Nat.one_mul,List.range_add,List.map_append,Z5 zero n,List.replicate_succ',yaa]
  congr 1
  simp only [List.map_map,vV,List.flatten_nil,List.append_nil];rw [<-al5 zero];apply List.map_congr_left;intro j hj;simp at hj;simp [Function.comp,xQ n,Nat.mod_eq_of_lt hj]
def S3 {ai:Nat->Nat} {m:Mp} {S:Nat->Prop} {w:yh} {cs:List AV} {us:List yf} (h:au ai m S w cs us):∀n,au ai m S w (yz n cs).flatten (yz n us).flatten
 | 0=>by simp [au]
 | n+1=>by rw [wb,wb,vV,vV];exact mW h (S3 h n)
section
variable {O:bD} {H:Hint} {m:Mp} {S:Nat->Prop} {w:yh} {tm:Env} {a:Act} {hp:Hp} {ct cq:Nat}
def aaS (zero:Array yf) (n:Nat):(Array.map (fun i=>zero[i%zero.size]!) (uv (n*zero.size))).toList=(yz n zero.toList).flatten:=by
 rw [<-Z5 zero n]
 simp
def abU (tm:Env):∀(ps:List (Nat×Nat×X)) (zero cs:List AV),fill tm zero ps=some cs->cs.length=zero.length
 | [],zero,cs,h=>by simp only [fill,yc] at h;rw [h]
 | (o,sz,x)::r,zero,cs,h=>by
  simp only [fill] at h
  cases hc:(yx (cellsOf (aC tm x)).length sz&&yE (o+sz) zero.length&&cf (cellsOf (aC tm x))) with
  | false=>rw [hc] at h;cases h
  | true=>
   rw [hc] at h;simp only [yg] at hc;have h1:=yo hc.1.1;have h2:=yC hc.1.2;rw [abU tm r _ _ h];simp only [over,List.length_append,List.length_take,List.length_drop];omega
def NE {α:Type} (l:List α):∀n,(yz n l).flatten.length=n*l.length
 | 0=>by simp
 | n+1=>by simp [wb,NE l n,wZ,Nat.add_comm]
def al6 {o:yY} {t e:yv} {n s:Nat} {z:AV} {parts:Array (Nat×xB)} {ps:List (Nat×Nat×X)} {v:AV} {b:Obj} (hH:gl O H) (ht:cF O m S w tm a.tmps) (hh:bg O m S w hp cq)
  (ho:o.op= .buildSlice t n parts) (hu:O.P.underlying t=some (.slice e)) (hs:da O.P e=some s) (hz:nY O.P e=some z) (hn:n*s<=16777216)
  (fH:partsOf H (fun i=>some (i*s,s)) parts.toList=some ps)
  (hv:dt tm hp ct (.dI n s (yz n (cellsOf z)).flatten ps)=some (v,b)):D4 O m S w a ct o v b:=by
 simp only [dt] at hv
 cases hf:fill tm (yz n (cellsOf z)).flatten ps with
 | none=>simp [hf] at hv
 | some cs=>
  simp only [hf] at hv
  cases hc:yx cs.length (n*s) with
  | false=>rw [hc] at hv;cases hv
  | true=>
   rw [hc] at hv;simp only [ym,yc,yk] at hv;obtain ⟨rfl,rfl⟩:=hv;have hlen:=yo hc;obtain ⟨zv,mN,rfl⟩:=FH (w:=w) hz;have Bf:au O.ai m S w (cellsOf (fe zv)) zv.cells.toList:=Fg zv;have Bg:=jo _ _ Bf;have Hh:=abU tm ps _ _ hf;rw [NE] at Hh;have Hi:n*s=n*zv.cells.size:=by
    rw [<-hlen,Hh,<-Bg];simp
   have key:∃zr:Array yf,(n*s=0->zr=#[])/\(n*s≠0->zr=zv.cells)/\au O.ai m S w (yz n (cellsOf (fe zv))).flatten ((uv (n*s)).map (fun x=>zr[x%zr.size]!)).toList:=by
    by_cases h0:n*s=0
    ·refine ⟨#[],fun _=>rfl,fun h=>(h h0).elim,?_⟩
     have:(yz n (cellsOf (fe zv))).flatten=[]:=by
      apply List.eq_nil_of_length_eq_zero;rw [NE,<-Bg];simp only [Array.length_toList];omega
     rw [this];simp [au,h0]
    ·refine ⟨zv.cells,fun h=>(h0 h).elim,fun _=>rfl,?_⟩;rw [Hi,aaS];exact S3 Bf n
   obtain ⟨zr,LK,om,Bh⟩:=key;obtain ⟨out,h1,h2⟩:=N3 hH ht (place:=fun i=>some (i*s,s)) parts.toList ps _ cs _ fH Bh hf;have zI:=jo _ _ h2
   refine Su (arr:=out) (t:=e) (us:=out.toList) hh ?_ h2 (fun j u hj=>by simpa using hj) (by rw [<-zI];simp) (fun _=>by rw [<-zI];simp) (fun h=>h) (u:= .slice (some ⟨w.heap.size,0,none⟩) n n) ?_
   ·have lE:¬(n*s>2^24):=by omega
    by_cases h0:n*s=0
    ·have:=LK h0
     subst this;simp only [h0] at h1;simp [execOp,ho,Instr.buildSlice,run_underlying hu,oC hs,h0,newRow] at h1 ⊢;simp [h1]
    ·have:=om h0
     subst this;simp [execOp,ho,Instr.buildSlice,run_underlying hu,oC hs,h0,lE,mN,newRow] at h1 ⊢;simp [h1]
   ·intro m' hi;simp only [aj];refine ⟨_,n,hi,by simp,Nat.le_refl _,?_⟩;simp only [Nat.zero_add];rw [<-hlen,<-zI];simp
def Fh:∀{a b:List AV},aK a=true->aK b=true->aK (a++b)=true
 | [],_,_,h=>h
 | c::r,b,h,k=>by
  simp only [aK,yg] at h;simp only [List.cons_append,aK,yg];exact ⟨h.1,Fh h.2 k⟩
def aaT {z:List AV} (h:aK z=true):∀n,aK (yz n z).flatten=true
 | 0=>by simp [aK]
 | n+1=>by rw [wb,vV];exact Fh h (aaT h n)
def anZ {o:yY} {t e:yv} {s by':Nat} {z:AV} {l c:xB} {v:AV} {b:Obj} (hH:gl O H) (ht:cF O m S w tm a.tmps) (hh:bg O m S w hp cq)
  (ho:o.op= .makeSlice t l c) (hu:O.P.underlying t=some (.slice e)) (hs:da O.P e=some s) (hb:CR O.P e=some by') (hz:nY O.P e=some z)
  (hv:dt tm hp ct (.iw s by' (cellsOf z) (aV H l) (aV H c))=some (v,b)):D4 O m S w a ct o v b:=by
 simp only [dt] at hv
 cases hl:eC (aC tm (aV H l)) with
 | none=>simp [hl] at hv
 | some ln=>
  cases hc:eC (aC tm (aV H c)) with
  | none=>simp [hl,hc] at hv
  | some cn=>
   simp only [hl,hc] at hv
   cases hk:(yE ln cn&&(yE cn room&&(yE (cn*by') room&&(yx (cellsOf z).length s&&cf (cellsOf z))))) with
   | false=>rw [hk] at hv;cases hv
   | true=>
    rw [hk] at hv;simp only [ym,yc,yk] at hv;obtain ⟨rfl,rfl⟩:=hv;simp only [yg] at hk;have h1:=yC hk.1;have h2:=yC hk.2.1;have h3:=yC hk.2.2.1;have h4:=yo hk.2.2.2.1;simp only [room] at h2 h3;obtain ⟨kl,el⟩:=Am (cQ hH ht l) hl;obtain ⟨kc,ec⟩:=Am (cQ hH ht c) hc;obtain ⟨zv,mN,rfl⟩:=FH (w:=w) hz;have Bf:au O.ai m S w (cellsOf (fe zv)) zv.cells.toList:=Fg zv;have Bg:=jo _ _ Bf;have LL:zv.cells.size=s:=by rw [<-h4,<-Bg];simp
    have wrapN:∀k:Nat,k<=1099511627776->IntKind.i64.wrap (k:Int)=k:=fun k hk=>IntWalk.i64_in _ (by omega)
    obtain ⟨ti,Bi,fk,WY⟩:∃ti,O.P.info? e=some ti/\ti.size=s/\ti.bytes=by':=by
     unfold da at hs;unfold CR at hb
     cases hi:O.P.info? e with
     | none=>simp [hi] at hs
     | some ti=>simp only [hi,yc] at hs hb;exact ⟨ti,rfl,hs,hb⟩
    have Ee:((uv (cn*s)).map (zv.cells[·%zv.cells.size]!)).toList=(yz ln zv.cells.toList).flatten++(yz (cn-ln) zv.cells.toList).flatten:=by
     rw [<-LL,aaS,<-yaa,List.replicate_append_replicate]
     grind
    have jg:(yz ln (cellsOf (fe zv))).flatten.length=ln*s:=by rw [NE,h4]
    have hmul:ln*s<=cn*s:=Nat.mul_le_mul_right _ h1
    refine Su (arr:=(uv (cn*s)).map (zv.cells[·%zv.cells.size]!)) (t:=e) (us:=(yz ln zv.cells.toList).flatten) hh (u:= .slice (some ⟨w.heap.size,0,none⟩) ln cn) ?_
     (S3 Bf ln) ?_ ?_ ?_ (fun h=>?_) ?_
    ·have aCm:by'*cn<=1099511627776:=by rw [xQ];exact h3
     have zL:((by'*cn:Nat):Int)<=1099511627776:=by omega
     rw [Int.natCast_mul] at zL;have hlc:(ln:Int)<=(cn:Int):=by omega
     have g1:¬(281474976710656<(by':Int)*(cn:Int)):=by omega
     have g2:¬(((ln:Int)<0)):=by omega
     have g3:¬(((cn:Int)<0)):=by omega
     have g4:¬((ln:Int)>(cn:Int)):=by omega
     by_cases h0:cn*s=0
     ·simp [execOp,ho,Instr.makeSlice,run_underlying hu,el,ec,asInt,asIntOf,typeInfo,Bi,WY,wrapN ln (by omega),wrapN cn h2,g1,g2,g3,g4,oC hs,h0,newRow,askRoom,roomBytes]
      grind
     ·simp [execOp,ho,Instr.makeSlice,run_underlying hu,el,ec,asInt,asIntOf,typeInfo,Bi,WY,wrapN ln (by omega),wrapN cn h2,g1,g2,g3,g4,oC hs,h0,newRow,askRoom,roomBytes,mN]
    ·intro j u hj
     have:((uv (cn*s)).map (zv.cells[·%zv.cells.size]!)).toList[j]? =some u:=by
      grind
     grind
    ·grind
    ·simp_all
    ·exact aaT h ln
    ·intro m' hi;simp only [aj];refine ⟨_,cn,hi,by simp,h1,?_⟩
     simp
def aqp {o:yY} {k:Nat} {v:AV} {b:Obj} (hH:gl O H) (ht:cF O m S w tm a.tmps) (hh:bg O m S w hp cq)
  (hv:dt tm hp ct (bw O.P H k o)=some (v,b)):D4 O m S w a ct o v b:=by
 cases ho:o.op with
 | call c=>
  obtain ⟨callee,args,ts⟩:=c;simp only [bw,ho] at hv
  repeat' split at hv
  all_goals first
   | (simp [dt,bad] at hv;done)
   | (revert hv;generalize yx _ _=bb;intro hv;cases bb<;>simp [dt,bad] at hv)
 | alloc t=>
  simp only [bw,ho] at hv
  split at hv
  ·rename_i s z hs hz;obtain ⟨zv,mN,rfl⟩:=FH (w:=w) hz
   exact abT (x:=zv) (t:=t) hh (by simp [execOp,ho,Instr.alloc,mN,newVar,newRow]) (Fg zv) (by simpa only [dt,aC] using hv)
  ·simp [dt,bad] at hv
 | box t x=>
  simp only [bw,ho] at hv
  split at hv
  ·rename_i s hs;simp only [dt] at hv
   cases hc:(yx (cellsOf (aC tm (aV H x))).length s&&cf (cellsOf (aC tm (aV H x)))) with
   | false=>rw [hc] at hv;cases hv
   | true=>
    have h1:=hc;simp only [yg] at h1
    exact abT (x:=a.eval x) (t:=t) hh (by simp [execOp,ho,Instr.box,newVar,newRow]) (Sr (cQ hH ht x) h1.2) hv
  ·simp [dt,bad] at hv
 | buildSlice t n parts=>
  simp only [bw,ho] at hv
  split at hv
  ·rename_i e hu
   split at hv
   ·rename_i s z hs hz
    cases hc:yE (n*s) 16777216 with
    | false=>rw [hc] at hv;simp [dt,bad] at hv
    | true=>
     rw [hc] at hv;simp only [ym] at hv
     split at hv
     ·rename_i ps fH;exact al6 hH ht hh ho hu hs hz (yC hc) fH hv
     ·simp [dt,bad] at hv
   ·simp [dt,bad] at hv
  ·simp [dt,bad] at hv
 | makeSlice t l c=>
  simp only [bw,ho] at hv
  split at hv
  ·rename_i e hu
   split at hv
   ·rename_i s by' z hs hb hz
    exact anZ hH ht hh ho hu hs hb hz hv
   ·simp [dt,bad] at hv
  ·simp [dt,bad] at hv
 | makeMap t r=>
  cases r with
  | some x=>simp [bw,ho,dt,bad] at hv
  | none=>
   simp only [bw,ho] at hv
   repeat' split at hv
   all_goals first
    | (simp [dt,bad] at hv;done)
    | (
      simp only [dt,yc,yk] at hv;obtain ⟨rfl,rfl⟩:=hv
      exact anY hh ho rfl)
 | range t x=>
  simp only [bw,ho] at hv
  split at hv
  ·rename_i hu;simp only [dt] at hv;have rx:=cQ hH ht x;cases hx:aC tm (aV H x)<;>rw [hx] at hv rx<;>simp only [reduceCtorEq] at hv
   simp only [yc,yk] at hv;obtain ⟨rfl,rfl⟩:=hv;exact al4 hh ho hu rx
  ·simp [dt,bad] at hv
 | next x b=>cases b<;>simp [bw,ho,dt,bad] at hv
 | binOp op t x y ty=>
  cases op<;>simp only [bw,ho,sS,Al] at hv
  case eql=>
        repeat' split at hv
        all_goals first
         | (simp [dt,bad] at hv;done)
         | (cases hb:(O.P.stoodInHeld t||O.P.eqGuardType O.P.depth t)<;>rw [hb] at hv<;>simp [dt,bad] at hv)
  case neq=>
        repeat' split at hv
        all_goals first
         | (simp [dt,bad] at hv;done)
         | (cases hb:(O.P.stoodInHeld t||O.P.eqGuardType O.P.depth t)<;>rw [hb] at hv<;>simp [dt,bad] at hv)
  all_goals simp [dt] at hv
 | _=>
  simp only [bw,ho] at hv
  (repeat' split at hv)
  all_goals first
   | contradiction
   | (simp [dt,bad] at hv;done)
end
end
section
open Go
def sJ {hp:Hp} {id i:Nat} {o:Obj}:ap (bf hp id o) i=if id=i then (if (ap hp id).isSome then some o else none) else ap hp i:=by
 induction hp with
 | nil=>simp [bf,ap]
 | cons x r ih=>
  obtain ⟨j,q⟩:=x;simp only [bf];by_cases hj:j=id
  ·subst hj;simp only [xq,ym,ap];by_cases hi:j=i
   ·simp_all
   ·have:yx j i=false:=by
     cases hq:yx j i with
     | false=>rfl
     | true=>exact absurd (yo hq) hi
    grind
  ·have hb:yx j id=false:=by
    cases hq:yx j id with
    | false=>rfl
    | true=>exact absurd (yo hq) hj
   simp only [hb,yD];rw [show ap ((j,q)::bf r id o) i=bif yx j i then some q else ap (bf r id o) i from rfl,ih];by_cases hi:j=i
   ·subst hi
    have:¬id=j:=fun h=>hj h.symm
    simp [xq,this,ap]
   ·have zL:yx j i=false:=by
     cases hq:yx j i with
     | false=>rfl
     | true=>exact absurd (yo hq) hi
    simp [zL,ap,hb]
def kT (hp ao:Hp):Prop:=∀id,(ap ao id).isSome=(ap hp id).isSome
def kT.refl {hp:Hp}:kT hp hp:=fun _=>rfl
def kT.trans {a b c:Hp} (h:kT a b) (k:kT b c):kT a c:=fun id=>(k id).trans (h id)
def TF {hp:Hp} {id:Nat} {o o':Obj} (h:ap hp id=some o) (hl:jX o o'):dN hp (bf hp id o')/\kT hp (bf hp id o'):=by
 constructor
 ·intro i q hq;rw [sJ];by_cases hi:id=i
  ·grind
  ·exact ⟨q,by simp [hi,hq],jX.refl q⟩
 ·intro i;rw [sJ]
  grind
def aaU {hp H:Hp} {id:Nat} {pu ex:Bool} {sz:Nat} {cs:List AV} (hl:dN hp H) (h:ap hp id=some (.cells false pu ex sz cs)):ap H id=some (.cells false pu ex sz cs):=by
 obtain ⟨o',h1,fm,rfl,h2⟩:=hl id _ h
 cases fm with
 | false=>exact h1
 | true=>exact absurd (h2 rfl) (by simp)
section
variable {O:bD}
def avv (O:bD) (m:Mp) (S:Nat->Prop) (w:yh) (p:Pl) (ex:Bool) (sz:Nat) (cs:List AV):Prop:=
 p.z=sz/\cs.length<=p.e/\(ex=true->cs.length=p.e)/\S p.b/\aK cs=true/\ck O.ai m S w cs p.b p.o
def Vn (O:bD) (ao:Hp) (v v':AV):Prop:=∀H m S w ct,dN ao H->bg O m S w H ct->(∀u,aj O.ai m S w v u->aj O.ai m S w v' u)/\aS v'=true
def ahq (O:bD) (ao:Hp) (vs eK:List AV):Prop:=∀H m S w ct,dN ao H->bg O m S w H ct->(∀us,au O.ai m S w vs us->au O.ai m S w eK us)/\aK eK=true
def aw0 (O:bD) (ao:Hp) (id:Nat) (ex:Bool) (sz:Nat) (cs:List AV):Prop:=∀H m S w ct,dN ao H->bg O m S w H ct->∀p,m id=some p->avv O m S w p ex sz cs
def FA {ai:Nat->Nat} {m:Mp} {S:Nat->Prop} {w:yh} {b:Nat}:∀(cs:List AV) (us:List yf) (o:Nat),au ai m S w cs us->
  (∀(j:Nat) (u:yf),us[j]? =some u->w.cell? ⟨b,o+j,none⟩=some u)->ck ai m S w cs b o
 | [],us,o,_,_=>by simp only [ck]
 | c::cs,us,o,h,hu=>by
  obtain ⟨u,r,rfl,h2,h3⟩:=h;refine ⟨⟨u,by simpa using hu 0 u (by simp),h2⟩,FA cs r (o+1) h3 (fun j v hv=>?_)⟩;rw [show o+1+j=o+(j+1) by omega]
  simp_all
def avw {m:Mp} {S:Nat->Prop} {w:yh} {cs dZ:List AV} (h:∀us,au O.ai m S w cs us->au O.ai m S w dZ us) {b o:Nat} (hr:ck O.ai m S w cs b o):ck O.ai m S w dZ b o:=by
 obtain ⟨us,h1,_,h3⟩:=Aa cs b o hr;exact FA dZ us o (h us h1) h3
def Du:∀(k:Nat) {cs:List AV},aK cs=true->aK (cs.take k)=true
 | 0,_,_=>by simp [aK]
 | k+1,[],_=>by simp [aK]
 | k+1,c::cs,h=>by
  simp only [aK,yg,List.take_succ_cons] at h ⊢;exact ⟨h.1,Du k h.2⟩
def an0 {ao:Hp} {vs eK:List AV}:∀{n:Nat} {hp:Hp},cW n hp vs=some (eK,ao)->eK.length=vs.length:=by
 intro n
 induction n generalizing vs eK ao with
 | zero=>intro hp h;simp [cW] at h
 | succ n ih=>
  intro hp h
  cases vs with
  | nil=>simp only [cW,yc,yk] at h;rw [<-h.1]
  | cons v r=>
   simp only [cW] at h
   cases h1:freeze n hp v with
   | none=>simp [h1] at h
   | some q=>
    obtain ⟨v',bI⟩:=q;simp only [h1] at h
    cases h2:cW n bI r with
    | none=>simp [h2] at h
    | some q2=>
     grind
def Z6:∀n:Nat,
  (∀hp v v' ao,freeze n hp v=some (v',ao)->dN hp ao/\kT hp ao/\Vn O ao v v')/\
  (∀hp id ex sz cs ao,sH n hp id=some (ex,sz,cs,ao)->dN hp ao/\kT hp ao/\aw0 O ao id ex sz cs)/\
  (∀hp vs eK ao,cW n hp vs=some (eK,ao)->dN hp ao/\kT hp ao/\ahq O ao vs eK):=by
 intro n
 induction n with
 | zero=>refine ⟨?_,?_,?_⟩<;>intros<;>simp_all [freeze,sH,cW]
 | succ n ih=>
  obtain ⟨ihV,ihB,Hj⟩:=ih;refine ⟨?_,?_,?_⟩
  ·intro hp v v' ao h;have plain:∀{v v':AV} {hp ao:Hp},(bif aS v then some (v,hp) else none)=some (v',ao)->dN hp ao/\kT hp ao/\Vn O ao v v':=by
    intro v v' hp ao h
    cases hc:aS v with
    | false=>rw [hc] at h;cases h
    | true=>
     rw [hc] at h;simp only [ym,yc,yk] at h;obtain ⟨rfl,rfl⟩:=h;exact ⟨dN.refl,kT.refl,fun _ _ _ _ _ _ _=>⟨fun _ h=>h,hc⟩⟩
   cases v<;>simp only [freeze] at h<;>first | exact plain h | skip
   case ak id o k=>
    cases hb:sH n hp id with
    | none=>simp [hb] at h
    | some q=>
     obtain ⟨ex,sz,cs,bI⟩:=q;simp only [hb] at h
     cases hc:yE (o+k*sz) cs.length with
     | false=>rw [hc] at h;cases h
     | true=>
      rw [hc] at h;simp only [ym,yc,yk] at h;obtain ⟨rfl,rfl⟩:=h;have hle:=yC hc;obtain ⟨h1,h2,h3⟩:=ihB _ _ _ _ _ _ hb;refine ⟨h1,h2,fun H m S w ct hl hh=>⟨fun u hu=>?_,by simp only [aS]⟩⟩;simp only [aj] at hu ⊢;obtain ⟨p,c,hm,rfl,Bj,Qn⟩:=hu;obtain ⟨g1,g2,g3,g4,g5,g6⟩:=h3 H m S w ct hl hh p hm;refine .inl ⟨p.b,p.o+o,c,rfl,Bj,?_,.inr g4,Du _ (BL _ _ g5),Dw _ _ _ _ (sG _ _ _ _ g6)⟩;intro hx;simp only [yg] at hx;have e1:=yo hx.2;have e2:0<sz:=by
       simp_all
      have e3:=g3 hx.1.1;rw [g1] at Qn
      have:c*sz=k*sz:=by omega
      exact Nat.eq_of_mul_eq_mul_right e2 this
   case ptr id o=>
    cases hb:sH n hp id with
    | none=>simp [hb] at h
    | some q=>
     obtain ⟨ex,sz,cs,bI⟩:=q;simp only [hb,yc,yk] at h;obtain ⟨rfl,rfl⟩:=h;obtain ⟨h1,h2,h3⟩:=ihB _ _ _ _ _ _ hb;refine ⟨h1,h2,fun H m S w ct hl hh=>⟨fun u hu=>?_,by simp only [aS]⟩⟩;simp only [aj] at hu ⊢;obtain ⟨p,hm,rfl⟩:=hu;obtain ⟨g1,g2,g3,g4,g5,g6⟩:=h3 H m S w ct hl hh p hm;exact ⟨p.b,p.o+o,rfl,.inr g4,BL _ _ g5,sG _ _ _ _ g6⟩
   case map id=>
    cases hg:ap hp id with
    | none=>simp [hg] at h
    | some ob=>
     cases ob<;>simp only [hg,reduceCtorEq] at h
     rename_i rw ks vs
     cases hc:(aK ks&&aK vs) with
     | false=>rw [hc] at h;cases h
     | true=>
      rw [hc] at h;simp only [ym,yc,yk] at h;obtain ⟨rfl,rfl⟩:=h;simp only [yg] at hc;obtain ⟨h1,h2⟩:=TF hg (o':= .mp false ks vs) ⟨false,rfl,by simp⟩;refine ⟨h1,h2,fun H m S w ct hl hh=>⟨fun u hu=>?_,by simp only [aS]⟩⟩;simp only [aj] at hu ⊢;obtain ⟨p,hm,rfl⟩:=hu;have hq:ap (bf hp id (.mp false ks vs)) id=some (.mp false ks vs):=by rw [sJ];simp [hg]
      obtain ⟨o',h3,fm,rfl,h4⟩:=hl id _ hq;have rS:fm=false:=by cases fm with | false=>rfl | true=>exact absurd (h4 rfl) (by simp)
      subst rS;obtain ⟨p',es,clock,g1,g2,g3,g4,g5,g6⟩:=hh.obj id _ _ h3 hm;rw [hm] at g1;injection g1 with g1
      subst g1;exact ⟨p.b,es,clock,rfl,g6 rfl,hc.1,hc.2,g2,g3,g4⟩
   case fn f first cap=>
    cases f with
    | y l=>simp only [aS,yD,reduceCtorEq] at h
    | f g=>
     simp only at h
     cases h1:cW n hp first with
     | none=>simp [h1] at h
     | some q=>
      obtain ⟨aer,bI⟩:=q;simp only [h1] at h
      cases h2:cW n bI cap with
      | none=>simp [h2] at h
      | some q2=>
       obtain ⟨Pf,jV⟩:=q2;simp only [h2,yc,yk] at h;obtain ⟨rfl,rfl⟩:=h;obtain ⟨a1,a2,a3⟩:=Hj _ _ _ _ h1;obtain ⟨b1,b2,b3⟩:=Hj _ _ _ _ h2;refine ⟨a1.trans b1,a2.trans b2,fun H m S w ct hl hh=>?_⟩;obtain ⟨c1,c2⟩:=a3 H m S w ct (b1.trans hl) hh;obtain ⟨d1,d2⟩:=b3 H m S w ct hl hh;refine ⟨fun u hu=>?_,by simp [aS,c2,d2]⟩;simp only [aj] at hu ⊢;obtain ⟨fi,ca,rfl,e1,e2⟩:=hu;exact ⟨fi,ca,rfl,c1 _ e1,d1 _ e2⟩
   case agg cs=>
    cases h1:cW n hp cs with
    | none=>simp [h1] at h
    | some q=>
     obtain ⟨dZ,bI⟩:=q;simp only [h1,yc,yk] at h;obtain ⟨rfl,rfl⟩:=h;obtain ⟨a1,a2,a3⟩:=Hj _ _ _ _ h1;refine ⟨a1,a2,fun H m S w ct hl hh=>?_⟩;obtain ⟨c1,c2⟩:=a3 H m S w ct hl hh;refine ⟨fun u hu=>?_,by simpa [aS] using c2⟩;simp only [aj] at hu ⊢;obtain ⟨xs,rfl,e1⟩:=hu;exact ⟨xs,rfl,c1 _ e1⟩
   case aw cs=>
    cases h1:cW n hp cs with
    | none=>simp [h1] at h
    | some q=>
     obtain ⟨dZ,bI⟩:=q;simp only [h1,yc,yk] at h;obtain ⟨rfl,rfl⟩:=h;obtain ⟨a1,a2,a3⟩:=Hj _ _ _ _ h1;refine ⟨a1,a2,fun H m S w ct hl hh=>?_⟩;obtain ⟨c1,c2⟩:=a3 H m S w ct hl hh;refine ⟨fun u hu=>?_,by simpa [aS] using c2⟩;simp only [aj] at hu ⊢;obtain ⟨xs,rfl,e1⟩:=hu;exact ⟨xs,rfl,c1 _ e1⟩
  ·intro hp id ex sz dZ ao h;simp only [sH] at h
   cases hg:ap hp id with
   | none=>simp [hg] at h
   | some ob=>
    cases ob<;>simp only [hg,reduceCtorEq] at h
    rename_i rw pu zG CV cs
    cases pu with
    | true=>
     simp only [ym,yc,yk] at h;obtain ⟨rfl,rfl,rfl,rfl⟩:=h;have hq:dN hp (bif rw then bf hp id (.cells false true zG CV cs) else hp)/\kT hp (bif rw then bf hp id (.cells false true zG CV cs) else hp)/\ap (bif rw then bf hp id (.cells false true zG CV cs) else hp) id=some (.cells false true zG CV cs):=by
      cases rw with
      | true=>
       obtain ⟨h1,h2⟩:=TF hg (o':= .cells false true zG CV cs) ⟨false,rfl,by simp⟩;exact ⟨h1,h2,by simp [sJ,hg]⟩
      | false=>exact ⟨dN.refl,kT.refl,hg⟩
     refine ⟨hq.1,hq.2.1,fun H m S w ct hl hh p hm=>?_⟩;obtain ⟨p',arr,t,g1,g2,g3,g4,g5,g6,g7,g8,g9,g10⟩:=hh.obj id _ _ (aaU hl hq.2.2) hm;rw [hm] at g1;injection g1 with g1
     subst g1;exact ⟨g3,g4,g6,g10 rfl,g8 rfl,g7⟩
    | false=>
     simp only [yD] at h
     cases h1:cW n hp cs with
     | none=>simp [h1] at h
     | some q=>
      obtain ⟨zO,bI⟩:=q;simp only [h1,yc,yk] at h;obtain ⟨rfl,rfl,rfl,rfl⟩:=h;obtain ⟨a1,a2,a3⟩:=Hj _ _ _ _ h1;obtain ⟨o1,iM,rw1,rfl,_⟩:=a1 id _ hg;obtain ⟨b1,b2⟩:=TF iM (o':= .cells false false zG CV cs) ⟨false,rfl,by simp⟩;refine ⟨a1.trans b1,a2.trans b2,fun H m S w ct hl hh p hm=>?_⟩;have hq:ap (bf bI id (.cells false false zG CV cs)) id=some (.cells false false zG CV cs):=by simp [sJ,iM]
      obtain ⟨p',arr,t,g1,g2,g3,g4,g5,g6,g7,g8,g9,g10⟩:=hh.obj id _ _ (aaU hl hq) hm;rw [hm] at g1;injection g1 with g1
      subst g1;obtain ⟨c1,c2⟩:=a3 H m S w ct (b1.trans hl) hh;have hlen:=an0 h1
      exact ⟨g3,by omega,fun hx=>by have:=g6 hx;omega,g10 rfl,c2,avw c1 g7⟩
  ·intro hp vs eK ao h
   cases vs with
   | nil=>
    simp only [cW,yc,yk] at h;obtain ⟨rfl,rfl⟩:=h;exact ⟨dN.refl,kT.refl,fun _ _ _ _ _ _ _=>⟨fun _ h=>h,rfl⟩⟩
   | cons v r=>
    simp only [cW] at h
    cases h1:freeze n hp v with
    | none=>simp [h1] at h
    | some q=>
     obtain ⟨v1,bI⟩:=q;simp only [h1] at h
     cases h2:cW n bI r with
     | none=>simp [h2] at h
     | some q2=>
      obtain ⟨r1,jV⟩:=q2;simp only [h2,yc,yk] at h;obtain ⟨rfl,rfl⟩:=h;obtain ⟨a1,a2,a3⟩:=ihV _ _ _ _ h1;obtain ⟨b1,b2,b3⟩:=Hj _ _ _ _ h2;refine ⟨a1.trans b1,a2.trans b2,fun H m S w ct hl hh=>?_⟩;obtain ⟨c1,c2⟩:=a3 H m S w ct (b1.trans hl) hh;obtain ⟨d1,d2⟩:=b3 H m S w ct hl hh;refine ⟨fun us hu=>?_,by simp [aK,c2,d2]⟩;simp only [au] at hu ⊢;obtain ⟨u,t,rfl,e1,e2⟩:=hu;exact ⟨u,t,rfl,c1 _ e1,d1 _ e2⟩
def R8 {n:Nat} {hp ao:Hp} {vs eK:List AV} (h:cW n hp vs=some (eK,ao)):dN hp ao/\kT hp ao/\ahq O ao vs eK:=(Z6 n).2.2 _ _ _ _ h
def Sv {n:Nat} {hp ao:Hp} {v v':AV} (h:freeze n hp v=some (v',ao)):dN hp ao/\kT hp ao/\Vn O ao v v':=(Z6 n).1 _ _ _ _ h
end
end
end VE
