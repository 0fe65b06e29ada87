import Derived.Laws.Tables
import Derived.IntWalk
import Derived.Test.YtflgmingejdfnaaGreatDoorXab
set_option linter.all false
set_option maxRecDepth 100000
open Array renaming range→vo
open Bool renaming and_eq_true→yf
open Go renaming Oper→yL,Operand→xh,TypeId→yp,Value→ye,World→yg
open List renaming flatten_append→uX,flatten_cons→wX,range→yR,replicate→yx,replicate_succ→xH
open Nat renaming add_mul→vd,beq→yq,beq_refl→y7,ble→yA,eq_of_beq_eq_true→yk,le_of_ble_eq_true→yr,mul_comm→uR
open Option.some renaming injEq→yb
open Prod.mk renaming injEq→yi
namespace VE
section
open Go
section
variable {O:aZ} {H:Hint} {m:Mp} {S:Nat->Prop} {w:yg} {tm:Env} {a:Act} {hp:Hp} {ct:Nat}
def AA {o:yL} {b:Builtin} {args:Array xh} {ts:Array yp} (ho:o.op= .call {callee:= .builtin b,args:=args,argTypes:=ts}):
  ∃cs,(execOp a.eval o).run O.P w=(builtin b ts o.type cs (args.map a.eval)).run O.P w:=by
 exact ⟨_,by simp only [execOp,ho,resolve,Sem.run_bind,Sem.run_pure,Result.andThen_ok,invoke];rfl⟩
def Yu {o:yL} {c:Call} {k:Nat} {v:AV} (hH:dW O H) (ht:bJ O m S w tm a.tmps) (hh:aH O m S w hp ct) (ho:o.op= .call c)
  (hv:bc tm hp (aV O.P H k o)=some v):Reads O m S w a o v:=by
 obtain ⟨callee,args,ts⟩:=c;simp only [aV,ho] at hv
 split at hv
 ·cases J5:H.mode k<;>simp [J5,bc] at hv
 ·rename_i _ b
  split at hv
  ·have key:∀{bb:Bool} {sz by':Nat} {x y:X},bc tm hp (bif bb then .cC sz by' x y else bad)=some v->False:=by
    intro bb sz by' x y h
    cases bb
    ·exact cL h
    ·simp [bc] at h
   split at hv
   ·split at hv
    ·exact (key hv).elim
    ·simp_all
   ·split at hv
    ·exact (key hv).elim
    ·simp_all
   ·simp_all
  ·rename_i x t fC pP;obtain ⟨al⟩:=args;obtain ⟨tl⟩:=ts;simp only at fC pP;subst fC;subst pP;obtain ⟨cs,dR⟩:=AA (O:=O) (w:=w) (a:=a) ho;have fin:(∃u,(Builtin.len_ #[t] o.type #[a.eval x]).run O.P w= .ok u w/\af O.ae m S w v u)->Reads O m S w a o v:=by
    rintro ⟨u,h1,h2⟩;refine ⟨u,?_,h2⟩;rw [dR];simp [builtin,h1]
   split at hv
   ·rename_i n e hu;simp only [bc,ao,yb] at hv;subst hv;exact fin ⟨_,by simp [Builtin.len_,run_underlying hu];rfl,by simp [af,goInt]⟩
   ·rename_i hu;simp only [bc] at hv;exact fin (IN hh (bN hH ht x) (.inl ⟨rfl,hu⟩) hv)
   ·rename_i e hu;simp only [bc] at hv;exact fin (IN hh (bN hH ht x) (.inr (.inl ⟨rfl,e,hu⟩)) hv)
   ·rename_i kt e hu;simp only [bc] at hv;exact fin (IN hh (bN hH ht x) (.inr (.inr ⟨rfl,kt,e,hu⟩)) hv)
   ·exact (cL hv).elim
  ·split at hv
   ·split at hv
    ·simp [bc] at hv
    ·exact (cL hv).elim
   ·exact (cL hv).elim
  ·simp only [bc] at hv;obtain ⟨cs,dR⟩:=AA (O:=O) (w:=w) (a:=a) ho;have hl:=qP hH ht args.toList
   cases hx:cx tm (eQ H args.toList) with
   | nil=>simp [hx] at hv
   | cons c r=>
    simp only [hx] at hv;rw [hx] at hl;simp only [ak] at hl;obtain ⟨u,us,h1,h2,h3⟩:=hl;obtain ⟨q,h4,h5⟩:=It (O:=O) (g:=Builtin.min2) (fun va vb v x y hx hy h=>acb hx hy h) r us c v u h2 h3 hv;refine ⟨q,?_,h5⟩;rw [dR];simp [builtin,Builtin.min_,h1,h4]
  ·simp only [bc] at hv;obtain ⟨cs,dR⟩:=AA (O:=O) (w:=w) (a:=a) ho;have hl:=qP hH ht args.toList
   cases hx:cx tm (eQ H args.toList) with
   | nil=>simp [hx] at hv
   | cons c r=>
    simp only [hx] at hv;rw [hx] at hl;simp only [ak] at hl;obtain ⟨u,us,h1,h2,h3⟩:=hl;obtain ⟨q,h4,h5⟩:=It (O:=O) (g:=Builtin.max2) (fun va vb v x y hx hy h=>acd hx hy h) r us c v u h2 h3 hv;refine ⟨q,?_,h5⟩;rw [dR];simp [builtin,Builtin.max_,h1,h4]
  ·exact (cL hv).elim
 ·exact (cL hv).elim
def L4 {kt:yp} {kk:Nat} {vk:AV} (hk:keyOf O.P kt=some kk) (h:nk kk vk=true):∃d,O.P.underlying kt=some d/\E8 d=true/\fits d vk=true:=by
 unfold keyOf at hk
 split at hk
 ·rename_i hu;simp only [yb] at hk;subst hk;refine ⟨_,hu,rfl,?_⟩;cases vk<;>simp_all [nk,fits]
 ·rename_i hu;simp only [yb] at hk;subst hk;refine ⟨_,hu,rfl,?_⟩;cases vk<;>simp_all [nk,fits]
 ·rename_i hu;simp only [yb] at hk;subst hk;refine ⟨_,hu,rfl,?_⟩;cases vk<;>simp_all [nk,fits]
 ·cases hk
def OQ {o:yL} {k:Nat} {v:AV} (hH:dW O H) (ht:bJ O m S w tm a.tmps) (hh:aH O m S w hp ct)
  (hv:bc tm hp (aV O.P H k o)=some v):Reads O m S w a o v:=by
 cases ho:o.op with
 | call c=>exact Yu hH ht hh ho hv
 | binOp op t x y ty=>exact Z8 hH ht ho hv
 | move x=>
  simp only [aV,ho,bc,yb] at hv;subst hv;exact ⟨_,by simp only [execOp,ho,Sem.run_pure],bN hH ht x⟩
 | assign x=>
  simp only [aV,ho,bc,yb] at hv;subst hv;exact ⟨_,by simp only [execOp,ho,Sem.run_pure],bN hH ht x⟩
 | pick c x y=>
  simp only [aV,ho,bc] at hv;have rc:=bN hH ht c;cases hc:ao tm (aF H c)<;>rw [hc] at hv<;>simp only [reduceCtorEq] at hv
  rename_i b;rw [hc] at rc;simp only [af] at rc;simp only [yb] at hv;subst hv
  cases b with
  | true=>exact ⟨a.eval x,by simp [execOp,ho,rc,asBool],bN hH ht x⟩
  | false=>exact ⟨a.eval y,by simp [execOp,ho,rc,asBool],bN hH ht y⟩
 | load t x=>
  simp only [aV,ho] at hv
  split at hv
  ·rename_i s ag hz ha;simp only [bc] at hv;exact gG (by simp only [execOp,ho]) (agX hh hz ha (bN hH ht x) hv)
  ·exact (cL hv).elim
 | fieldAddr t x i=>
  simp only [aV,ho] at hv
  split at hv
  ·rename_i fs hu
   split at hv
   ·rename_i f hf
    split at hv
    ·rename_i s hz;simp only [bc] at hv;exact gG (by simp only [execOp,ho]) (ael hu hf hz (bN hH ht x) hv)
    ·exact (cL hv).elim
   ·exact (cL hv).elim
  ·exact (cL hv).elim
 | field t x i=>
  simp only [aV,ho] at hv
  split at hv
  ·rename_i fs hu
   split at hv
   ·rename_i f hf
    split at hv
    ·rename_i s ag hz ha;simp only [bc] at hv;exact gG (by simp only [execOp,ho]) (aem hu hf hz ha (bN hH ht x) hv)
    ·exact (cL hv).elim
   ·exact (cL hv).elim
  ·exact (cL hv).elim
 | nilCheck x=>
  simp only [aV,ho,bc] at hv;have rx:=bN hH ht x;cases hx:ao tm (aF H x)<;>rw [hx] at hv rx<;>simp only [reduceCtorEq,yb] at hv
  ·subst hv;have r':=rx;simp only [af] at r';obtain ⟨p,_,e⟩:=r';exact ⟨a.eval x,by simp only [execOp,ho,e,Sem.run_pure],rx⟩
  ·subst hv;have r':=rx;simp only [af] at r';obtain ⟨b,o',e,_⟩:=r';exact ⟨a.eval x,by simp only [execOp,ho,e,Sem.run_pure],rx⟩
  ·subst hv;rename_i f _ _
   cases f with
   | f g=>
    have r':=rx;simp only [af] at r';obtain ⟨fi,ca,e,_⟩:=r';exact ⟨a.eval x,by simp only [execOp,ho,e,Sem.run_pure],rx⟩
   | y l=>
    have r':=rx;simp only [af] at r';obtain ⟨p,_,e⟩:=r';exact ⟨a.eval x,by simp only [execOp,ho,e,Sem.run_pure],rx⟩
 | unOp op t x=>
  simp only [aV,ho,bc] at hv;exact gG (by simp only [execOp,ho]) (aca (bN hH ht x) hv)
 | convert s d x=>
  simp only [aV,ho] at hv
  split at hv
  ·rename_i k1 k2 hs hd;simp only [bc] at hv;exact gG (by simp only [execOp,ho]) (NK hd (.inl ⟨_,hs⟩) (bN hH ht x) hv)
  ·rename_i k1 k2 hs hd;simp only [bc] at hv;exact gG (by simp only [execOp,ho]) (NK hd (.inr ⟨_,hs⟩) (bN hH ht x) hv)
  ·rename_i k1 k2 hs hd;simp only [bc] at hv;exact gG (by simp only [execOp,ho]) (NL hd (.inl ⟨_,hs⟩) (bN hH ht x) hv)
  ·rename_i k1 k2 hs hd;simp only [bc] at hv;exact gG (by simp only [execOp,ho]) (NL hd (.inr ⟨_,hs⟩) (bN hH ht x) hv)
  ·rename_i hs hd;simp only [bc] at hv;exact gG (by simp only [execOp,ho]) (Z5 hd hs (bN hH ht x) hv)
  ·exact (cL hv).elim
 | makeFunc fn first cap=>
  cases fn with
  | func f=>
   simp only [aV,ho] at hv
   split at hv
   ·rename_i g hg;simp only [bc,yb] at hv;subst hv;refine ⟨.func (.func f) (first.map a.eval) (cap.map a.eval),by simp [execOp,ho,Instr.makeFunc],?_⟩;simp only [af];exact ⟨_,_,by rw [hH f g hg],by simpa using qP hH ht first.toList,by simpa using qP hH ht cap.toList⟩
   ·exact (cL hv).elim
  | _=>simp only [aV,ho] at hv;exact (cL hv).elim
 | slice t x lo hi mx=>
  cases mx with
  | some q=>simp only [aV,ho] at hv;exact (cL hv).elim
  | none=>
   simp only [aV,ho] at hv
   split at hv
   ·rename_i hu;simp only [bc] at hv;exact gG (by simp only [execOp,ho];rfl) (Ys hH ht hu (bN hH ht x) hv)
   ·rename_i e hu
    split at hv
    ·rename_i s hz;simp only [bc] at hv;exact gG (by simp only [execOp,ho];rfl) (Z6 hH ht hu hz hh (bN hH ht x) hv)
    ·exact (cL hv).elim
   ·split at hv
    ·simp only [bc] at hv;cases hx:ao tm (aF H x)<;>rw [hx] at hv<;>simp [fg] at hv
    ·exact (cL hv).elim
   ·exact (cL hv).elim
 | indexAddr t x i=>
  simp only [aV,ho] at hv
  split at hv
  ·rename_i e hu
   split at hv
   ·rename_i s hz;simp only [bc] at hv
    cases hk:cP (ao tm (aF H i)) with
    | none=>simp [hk] at hv
    | some j=>
     simp only [hk] at hv;exact gG (by simp only [execOp,ho]) (aen hu hz (bN hH ht x) (bN hH ht i) hk hv)
   ·exact (cL hv).elim
  ·rename_i n e hu
   split at hv
   ·rename_i s hz;simp only [bc] at hv
    cases hk:cP (ao tm (aF H i)) with
    | none=>simp [hk] at hv
    | some j=>
     simp only [hk] at hv;exact gG (by simp only [execOp,ho]) (aeo hu hz (bN hH ht x) (bN hH ht i) hk hv)
   ·exact (cL hv).elim
  ·exact (cL hv).elim
 | index t x i=>
  simp only [aV,ho] at hv
  split at hv
  ·rename_i hu;simp only [bc] at hv
   cases hk:cP (ao tm (aF H i)) with
   | none=>simp [hk] at hv
   | some j=>
    simp only [hk] at hv;exact gG (by simp only [execOp,ho]) (aeq hu (bN hH ht x) (bN hH ht i) hk hv)
  ·rename_i n e hu
   split at hv
   ·rename_i s ag hz ha;simp only [bc] at hv
    cases hk:cP (ao tm (aF H i)) with
    | none=>simp [hk] at hv
    | some j=>
     simp only [hk] at hv;exact gG (by simp only [execOp,ho]) (aep hu hz ha (bN hH ht x) (bN hH ht i) hk hv)
   ·exact (cL hv).elim
  ·exact (cL hv).elim
 | lookup t x i ok=>
  simp only [aV,ho] at hv
  split at hv
  ·rename_i kt e hu
   split at hv
   ·rename_i kk z rW hz;simp only [bc] at hv
    cases hf:nk kk (ao tm (aF H i)) with
    | false=>simp [hf] at hv
    | true=>
     simp only [hf,ym] at hv;obtain ⟨d,jP,eH,Cw⟩:=L4 rW hf;obtain ⟨zv,kW,rfl⟩:=sT (w:=w) hz
     cases hr:o7 hp (ao tm (aF H i)) (ao tm (aF H x)) with
     | none=>simp [hr] at hv
     | some r=>
      refine gG (by simp only [execOp,ho]) (aer (ok:=ok) (r:=r) (z:=dl zv) hh hu jP eH Cw kW (bN hH ht x) (bN hH ht i) (Ea zv) hr ?_);cases r<;>simpa [hr] using hv
   ·exact (cL hv).elim
  ·exact (cL hv).elim
 | extract x i=>
  simp only [aV,ho,bc] at hv;have rx:=bN hH ht x;cases hx:ao tm (aF H x)<;>rw [hx] at hv rx<;>simp only [reduceCtorEq] at hv
  simp only [af] at rx;obtain ⟨xs,e,hr⟩:=rx;obtain ⟨u,h1,h2⟩:=HT hr hv;refine ⟨u,?_,h2⟩;have zW:xs[i]? =some u:=by simpa using h1
  simp [execOp,ho,e,Instr.extract,zW]
 | build t parts=>
  simp only [aV,ho] at hv
  split at hv
  ·rename_i fs z hu hz
   split at hv
   ·rename_i pl aiv;have mR:=run_places (P:=O.P) w fs.toList pl aiv
    split at hv
    case h_2=>exact (cL hv).elim
    rename_i ps lU;simp only [bc] at hv
    cases hf:fill tm z ps with
    | none=>simp [hf] at hv
    | some cs=>
     simp only [hf,yb] at hv;subst hv;obtain ⟨zv,kW,iW⟩:=sT (w:=w) hz;have n7:ak O.ae m S w z zv.cells.toList:=by
      have:=sE (ae:=O.ae) (m:=m) (S:=S) (w:=w) zv
      rw [<-iW] at this;exact this
     obtain ⟨out,h1,h2⟩:=Ec hH ht (place:=fun i=>pl[i]?) parts.toList ps z cs zv.cells lU n7 hf;refine ⟨.agg out,?_,by simp only [af];exact ⟨out,rfl,h2⟩⟩
     have hm:(Array.mapM (fun f=>Functor.map (Prod.mk f.offset) (Go.sizeOf f.type)) fs:Sem (Array (Nat×Nat))).run O.P w= .ok pl.toArray w:=by
      rw [Array.mapM_eq_mapM_toList];simp [mR]
     simp [execOp,ho,Instr.build,kW,run_underlying hu,hm,h1]
   ·exact (cL hv).elim
  ·rename_i n e z hu hz
   split at hv
   ·rename_i s hs
    split at hv
    ·rename_i ps lU;simp only [bc] at hv
     cases hf:fill tm z ps with
     | none=>simp [hf] at hv
     | some cs=>
      simp only [hf,yb] at hv;subst hv;obtain ⟨zv,kW,iW⟩:=sT (w:=w) hz;have n7:ak O.ae m S w z zv.cells.toList:=by
       have:=sE (ae:=O.ae) (m:=m) (S:=S) (w:=w) zv
       rw [<-iW] at this;exact this
      obtain ⟨out,h1,h2⟩:=Ec hH ht (place:=fun i=>some (i*s,s)) parts.toList ps z cs zv.cells lU n7 hf;refine ⟨.agg out,?_,by simp only [af];exact ⟨out,rfl,h2⟩⟩
      simp [execOp,ho,Instr.build,kW,run_underlying hu,jw hs,h1]
    ·exact (cL hv).elim
   ·exact (cL hv).elim
  ·exact (cL hv).elim
 | alloc t=>simp only [aV,ho] at hv;split at hv<;>simp [bc,bad] at hv
 | box t x=>simp only [aV,ho] at hv;split at hv<;>simp [bc,bad] at hv
 | buildSlice t n parts=>
  simp only [aV,ho] at hv
  split at hv
  ·split at hv
   ·rename_i s z _ _
    cases hc:yA (n*s) 16777216 with
    | false=>rw [hc] at hv;exact (cL hv).elim
    | true=>
     rw [hc] at hv;simp only [ym] at hv
     split at hv
     ·simp [bc] at hv
     ·exact (cL hv).elim
   ·exact (cL hv).elim
  ·exact (cL hv).elim
 | makeMap t r=>
  cases r<;>simp only [aV,ho] at hv
  ·repeat' split at hv
   all_goals simp [bc,bad] at hv
  ·exact (cL hv).elim
 | makeSlice t l c=>
  simp only [aV,ho] at hv
  repeat' split at hv
  all_goals simp [bc,bad] at hv
 | insert t x k y=>
  simp only [aV,ho] at hv
  repeat' split at hv
  all_goals simp [bc,bad] at hv
 | mapUpdate t x k y=>
  simp only [aV,ho] at hv
  repeat' split at hv
  all_goals simp [bc,bad] at hv
 | store t x y=>simp only [aV,ho] at hv;split at hv<;>simp [bc,bad] at hv
 | range t x=>simp only [aV,ho] at hv;split at hv<;>simp [bc,bad] at hv
 | next x b=>cases b<;>simp [aV,ho,bc,bad] at hv
 | _=>simp [aV,ho,bc,bad] at hv
end
end
section
open Go
def dS (m:Mp) (id:Nat) (p:Pl):Mp:=fun i=>if i=id then some p else m i
def dc {m:Mp} {id:Nat} {p:Pl}:dS m id p id=some p:=by simp [dS]
def da {m:Mp} {id i:Nat} {p:Pl} (h:i≠id):dS m id p i=m i:=by simp [dS,h]
section
variable {O:aZ} {m:Mp} {S:Nat->Prop} {w:yg} {hp:Hp} {ct:Nat}
def cE (m m':Mp):Prop:=∀id p,m id=some p->m' id=some p
def cE.refl {m:Mp}:cE m m:=fun _ _ h=>h
def cE.trans {m m' Cs:Mp} (h:cE m m') (k:cE m' Cs):cE m Cs:=fun id p hp=>k id p (h id p hp)
def gX {i:Nat} (h:m i=none) {p:Pl}:cE m (dS m i p):=by
 intro id q hq;rw [da]
 ·grind
 ·grind
def oJ {tm:Env} {tmps:Array ye} {m':Mp} {S':Nat->Prop} {w':yg} (hm:∀id p,m id=some p->m' id=some p) (hS:∀b,S b->S' b) (hw:eh S w w')
  (h:bJ O m S w tm tmps):bJ O m' S' w' tm tmps:=fun i=>iN hm hS hw _ _ (h i)
def alloc_old {o:Go.Obj} {b:Nat} (hb:b<w.heap.size):(w.alloc o).heap[b]? =w.heap[b]? :=RowKit.Below.heap_alloc w o b hb
def ml {m':Mp} {S':Nat->Prop} {w':yg} {id:Nat} {o:Obj} (hm:∀id p,m id=some p->m' id=some p) (hS:∀b,S b->S' b) (hw:eh S w w') (hb:∀p,m id=some p->w'.heap[p.b]? =w.heap[p.b]?)
  (hn:∀p,m id=some p->S' p.b->S p.b) (h:dQ O m S w id o):dQ O m' S' w' id o:=by
 have rowAt:∀(cs:List AV) (b k:Nat),w'.heap[b]? =w.heap[b]? ->bt O.ae m S w cs b k->bt O.ae m' S' w' cs b k:=by
  intro cs
  induction cs with
  | nil=>intro b k _ _;simp only [bt]
  | cons c cs ih=>
   intro b k pQ hr;obtain ⟨⟨u,h1,h2⟩,h3⟩:=hr;exact ⟨⟨u,(Dk pQ).trans h1,iN hm hS hw _ _ h2⟩,ih b (k+1) pQ h3⟩
 cases o with
 | cells rw pu ex sz cs=>
  obtain ⟨p,arr,t,h1,h2,h3,h4,h5,h6,h7,h8,h9,n8⟩:=h;exact ⟨p,arr,t,hm _ _ h1,(hb p h1).trans h2,h3,h4,h5,h6,rowAt cs p.b p.o (hb p h1) h7,h8,fun hr hs=>h9 hr (hn p h1 hs),fun hr=>hS _ (n8 hr)⟩
 | mp rw ks vs=>
  obtain ⟨p,es,clock,h1,h2,h3,h4,h5,h6⟩:=h;exact ⟨p,es,clock,hm _ _ h1,(hb p h1).trans h2,eV hm hS hw _ _ h3,eV hm hS hw _ _ h4,fun hr hs=>h5 hr (hn p h1 hs),fun hr=>hS _ (h6 hr)⟩
 | si s pos=>
  obtain ⟨p,t,h1,h2,h3,h4⟩:=h;exact ⟨p,t,hm _ _ h1,(hb p h1).trans h2,h3,fun hs=>h4 (hn p h1 hs)⟩
 | lp tm ps as_ body st pe=>
  obtain ⟨p,l,hi,h1,h2,h3,h4,h5,h6,h7,h8⟩:=h;exact ⟨p,l,hi,hm _ _ h1,(hb p h1).trans h2,fun hs=>h3 (hn p h1 hs),h4,h5,h6,oJ hm hS hw h7,h8⟩
def eW {id i:Nat} {o:Obj}:aj ((id,o)::hp) i=if id=i then some o else aj hp i:=by
 simp only [aj]
 simp_all
def AF (hh:aH O m S w hp ct) (g:Go.Obj):eh S w (w.alloc g):=fun b hb=>alloc_old (hh.slt b hb)
def fY:Obj->Obj->Prop
 | .cells rw pu ex sz cs,o'=>∃dJ,o'= .cells dJ pu ex sz cs/\(dJ=true->rw=true)
 | .mp rw ks vs,o'=>∃dJ,o'= .mp dJ ks vs/\(dJ=true->rw=true)
 | .si s pos,o'=>o'= .si s pos
 | .lp tm ps as_ body st pe,o'=>o'= .lp tm ps as_ body st pe
def fY.refl:∀o,fY o o
 | .cells rw _ _ _ _=>⟨rw,rfl,fun h=>h⟩
 | .mp rw _ _=>⟨rw,rfl,fun h=>h⟩
 | .si _ _=>rfl
 | .lp _ _ _ _ _ _=>rfl
def fY.trans {a b c:Obj} (h:fY a b) (k:fY b c):fY a c:=by
 cases a with
 | cells rw pu ex sz cs=>
  obtain ⟨r1,rfl,h1⟩:=h;obtain ⟨r2,rfl,h2⟩:=k;exact ⟨r2,rfl,fun h=>h1 (h2 h)⟩
 | mp rw ks vs=>
  obtain ⟨r1,rfl,h1⟩:=h;obtain ⟨r2,rfl,h2⟩:=k;exact ⟨r2,rfl,fun h=>h1 (h2 h)⟩
 | si s pos=>simp only [fY] at h;subst h;exact k
 | lp tm ps as_ body st pe=>simp only [fY] at h;subst h;exact k
def cr (hp ai:Hp):Prop:=∀id o,aj hp id=some o->∃o',aj ai id=some o'/\fY o o'
def cr.refl {hp:Hp}:cr hp hp:=fun _ o h=>⟨o,h,fY.refl o⟩
def cr.trans {a b c:Hp} (h:cr a b) (k:cr b c):cr a c:=fun id o ho=>
 let ⟨o1,h1,l1⟩:=h id o ho
 let ⟨o2,h2,l2⟩:=k id o1 h1
 ⟨o2,h2,l1.trans l2⟩
def fK:Obj->Prop
 | .cells rw _ _ _ _=>rw=false
 | .mp rw _ _=>rw=false
 | _=>False
def OR {ai:Hp} {aK:Nat} (hh:aH O m S w hp ct) (hl:cr hp ai) (hd:∀id o p,aj ai id=some o->m id=some p->∃o',aj hp id=some o') (dU:ct<=aK) (aiw:∀id o,aj ai id=some o->id<aK):
  ∃S',aH O m S' w ai aK/\(∀b,S b->S' b)/\∀b,S' b->S b\/cX m hp b:=by
 refine ⟨fun b=>S b\/∃id p o,m id=some p/\p.b=b/\aj ai id=some o/\fK o,?_,fun b h=> .inl h,?_⟩
 ·refine ⟨?_,fun id p h=>Nat.lt_of_lt_of_le (hh.lt id p h) dU,?_,?_,hh.blt,hh.low,hh.iB,hh.eG,aiw⟩
  ·intro id o' p js hm;obtain ⟨o,ho⟩:=hd id o' p js hm;obtain ⟨U3,h1,h2⟩:=hl id o ho;rw [js] at h1;injection h1 with h1
   subst h1;have h3:=hh.obj id o p ho hm;have hS:∀b,S b->(S b\/∃id p o,m id=some p/\p.b=b/\aj ai id=some o/\fK o):=fun b h=> .inl h
   have jQ:∀q,m id=some q->(∃id p o,m id=some p/\p.b=q.b/\aj ai id=some o/\fK o)->fK o':=by
    rintro q hq ⟨j,pj,oj,J6,hj2,hj3,hj4⟩;obtain ⟨Cx,hj5⟩:=hd j oj pj hj3 J6
    have:=hh.inj id j o Cx q pj ho hj5 hq J6 hj2.symm
    grind
   have aQ:eh S w w:=fun _ _=>rfl
   cases o with
   | cells rw pu ex sz cs=>
    obtain ⟨dJ,rfl,pR⟩:=h2;obtain ⟨q,arr,t,h1,h2,h3,h4,h5,h6,h7,h8,h9,n8⟩:=h3;refine ⟨q,arr,t,h1,h2,h3,h4,h5,h6,?_,h8,?_,?_⟩
    ·clear h4 h6 h8;revert h7;generalize q.o=k
     induction cs generalizing k with
     | nil=>intro _;simp only [bt]
     | cons c cs ih=>
      intro hr;simp only [bt] at hr ⊢;obtain ⟨⟨u,g1,g2⟩,g3⟩:=hr
      exact ⟨⟨u,g1,iN (fun _ _ h=>h) hS aQ _ _ g2⟩,by
       have Cv:∀(cs:List AV) (b k:Nat),bt O.ae m S w cs b k->bt O.ae m (fun b=>S b\/∃id p o,m id=some p/\p.b=b/\aj ai id=some o/\fK o) w cs b k:=by
        intro cs
        induction cs with
        | nil=>intro b k _;simp only [bt]
        | cons c cs ih=>
         intro b k hr;simp only [bt] at hr ⊢;obtain ⟨⟨u,g1,g2⟩,g3⟩:=hr;exact ⟨⟨u,g1,iN (fun _ _ h=>h) hS aQ _ _ g2⟩,ih b (k+1) g3⟩
       exact Cv _ _ _ g3⟩
    ·rintro hr (hs | hs)
     ·grind
     ·have:=jQ q h1 hs
      simp only [fK] at this
      grind
    ·intro hr;exact .inr ⟨id,q,_,h1,rfl,js,hr⟩
   | mp rw ks vs=>
    obtain ⟨dJ,rfl,pR⟩:=h2;obtain ⟨q,es,clock,h1,h2,h3,h4,h5,h6⟩:=h3;refine ⟨q,es,clock,h1,h2,eV (fun _ _ h=>h) hS aQ _ _ h3,eV (fun _ _ h=>h) hS aQ _ _ h4,?_,?_⟩
    ·rintro hr (hs | hs)
     ·grind
     ·have:=jQ q h1 hs
      simp only [fK] at this
      grind
    ·intro hr;exact .inr ⟨id,q,_,h1,rfl,js,hr⟩
   | si s pos=>
    simp only [fY] at h2;subst h2;refine ml (fun _ _ h=>h) hS aQ (fun _ _=>rfl) (fun q hq hs=>?_) h3;rcases hs with hs | hs
    ·grind
    ·exact (jQ q hq hs).elim
   | lp tm ps as_ body st pe=>
    simp only [fY] at h2;subst h2;refine ml (fun _ _ h=>h) hS aQ (fun _ _=>rfl) (fun q hq hs=>?_) h3;rcases hs with hs | hs
    ·grind
    ·exact (jQ q hq hs).elim
  ·intro i j oi oj pi pj hi hj bn eA e;obtain ⟨Cy,bP⟩:=hd i oi pi hi bn;obtain ⟨Cx,jt⟩:=hd j oj pj hj eA;exact hh.inj i j Cy Cx pi pj bP jt bn eA e
  ·rintro b (hb | ⟨id,p,o,h1,rfl,_,_⟩)
   ·exact hh.slt b hb
   ·exact hh.blt id p h1
 ·rintro b (hb | ⟨id,p,o,h1,rfl,h3,_⟩)
  ·exact .inl hb
  ·obtain ⟨o',js⟩:=hd id o p h3 h1;exact .inr ⟨id,o',p,js,h1,rfl⟩
def NN {i:Nat} (hh:aH O m S w hp ct) (hi:m i=none) (Cz:i<ct) {g:Go.Obj} {p:Pl} (hb:p.b=w.heap.size)
  (hf:∀o,aj hp i=some o->(dQ O (dS m i p) S (w.alloc g) i o/\¬fK o)\/
   (fK o/\dQ O (dS m i p) (fun b=>S b\/b=w.heap.size) (w.alloc g) i o)):
  ∃S',aH O (dS m i p) S' (w.alloc g) hp ct/\(∀b,S b->S' b)/\∀b,S' b->S b\/b=w.heap.size:=by
 have eU:(w.alloc g).heap.size=w.heap.size+1:=by simp
 have b5:O.w0.heap.size<=w.heap.size:=hh.eG;have gen:∀S':Nat->Prop,(∀b,S b->S' b)->(∀b,S' b->S b\/b=w.heap.size)->(∀o,aj hp i=some o->dQ O (dS m i p) S' (w.alloc g) i o)->aH O (dS m i p) S' (w.alloc g) hp ct:=by
  intro S' h1 h2 h3;have CA:∀id q,m id=some q->¬q.b=w.heap.size:=fun id q hq=>by have:=hh.blt id q hq;omega
  refine ⟨?_,?_,?_,?_,?_,?_,?_,?_,hh.aU⟩
  ·intro id o q ho hm;by_cases hc:id=i
   ·grind
   ·rw [da hc] at hm;refine ml (gX hi) h1 (AF hh g) (fun q' bI=>alloc_old (hh.blt id q' bI)) (fun q' bI hs=>?_) (hh.obj id o q ho hm)
    grind
  ·intro id q hm;by_cases hc:id=i
   ·grind
   ·rw [da hc] at hm;exact hh.lt id q hm
  ·intro a b oa ob pa pb ha dn rX nO e;by_cases ca:a=i
   ·by_cases cb:b=i
    ·grind
    ·subst ca;rw [dc] at rX;rw [da cb] at nO
     grind
   ·rw [da ca] at rX;by_cases cb:b=i
    ·subst cb;rw [dc] at nO
     grind
    ·rw [da cb] at nO;exact hh.inj a b oa ob pa pb ha dn rX nO e
  ·intro b hs;rcases h2 b hs with h | h
   ·have:=hh.slt b h;omega
   ·omega
  ·intro id q hm;by_cases hc:id=i
   ·subst hc;rw [dc] at hm
    grind
   ·rw [da hc] at hm
    have:=hh.blt id q hm
    omega
  ·intro id q hm;by_cases hc:id=i
   ·subst hc;rw [dc] at hm
    grind
   ·rw [da hc] at hm;exact hh.low id q hm
  ·intro b pQ;exact (alloc_old (by omega)).trans (hh.iB b pQ)
  ·omega
 cases ho:aj hp i with
 | none=>exact ⟨S,gen S (fun _ h=>h) (fun _ h=> .inl h) (fun o h=>by rw [ho] at h;cases h),fun _ h=>h,fun _ h=> .inl h⟩
 | some o=>
  rcases hf o ho with ⟨h1,_⟩ | ⟨_,h1⟩
  ·exact ⟨S,gen S (fun _ h=>h) (fun _ h=> .inl h) (fun o' h=>by rw [ho] at h;injection h with h;subst h;exact h1),fun _ h=>h,fun _ h=> .inl h⟩
  ·exact ⟨_,gen (fun b=>S b\/b=w.heap.size) (fun _ h=> .inl h) (fun _ h=>h) (fun o' h=>by rw [ho] at h;injection h with h;subst h;exact h1),fun _ h=> .inl h,fun _ h=>h⟩
def LG {id:Nat} {o o':Obj} {p:Pl} (hl:fY o o') (hm:m id=some p) (h:dQ O m S w id o) (hn:¬fK o):
  (dQ O m S w id o'/\¬fK o')\/(fK o'/\dQ O m (fun b=>S b\/b=p.b) w id o'):=by
 have hS:∀b,S b->(S b\/b=p.b):=fun _ h=> .inl h
 have aQ:eh S w w:=fun _ _=>rfl
 cases o with
 | cells rw pu ex sz cs=>
  obtain ⟨dJ,rfl,pR⟩:=hl
  cases dJ with
  | true=>
   grind
  | false=>
   refine .inr ⟨rfl,?_⟩;obtain ⟨q,arr,t,h1,h2,h3,h4,h5,h6,h7,h8,h9,n8⟩:=h;rw [hm] at h1;injection h1 with h1
   subst h1;have Cv:∀(cs:List AV) (b k:Nat),bt O.ae m S w cs b k->bt O.ae m (fun b=>S b\/b=p.b) w cs b k:=by
    intro cs
    induction cs with
    | nil=>intro b k _;simp only [bt]
    | cons c cs ih=>
     intro b k hr;obtain ⟨⟨u,g1,g2⟩,g3⟩:=hr;exact ⟨⟨u,g1,iN (fun _ _ h=>h) hS aQ _ _ g2⟩,ih b (k+1) g3⟩
   exact ⟨p,arr,t,hm,h2,h3,h4,h5,h6,Cv _ _ _ h7,h8,by simp,fun _=> .inr rfl⟩
 | mp rw ks vs=>
  obtain ⟨dJ,rfl,pR⟩:=hl
  cases dJ with
  | true=>
   grind
  | false=>
   refine .inr ⟨rfl,?_⟩;obtain ⟨q,es,clock,h1,h2,h3,h4,h5,h6⟩:=h;rw [hm] at h1;injection h1 with h1
   subst h1;exact ⟨p,es,clock,hm,h2,eV (fun _ _ h=>h) hS aQ _ _ h3,eV (fun _ _ h=>h) hS aQ _ _ h4,by simp,fun _=> .inr rfl⟩
 | si s pos=>simp only [fY] at hl;subst hl;exact .inl ⟨h,hn⟩
 | lp tm ps as_ body st pe=>simp only [fY] at hl;subst hl;exact .inl ⟨h,hn⟩
end
end
section
open Go
section
variable {O:aZ} {H:Hint} {m:Mp} {S:Nat->Prop} {w:yg} {tm:Env} {a:Act} {hp:Hp} {ct cq:Nat}
def Hn {ae:Nat->Nat} {b:Nat} {arr:Array ye} {t:yp} {fr:Nat×Nat} (hb:w.heap[b]? =some (.cells arr t fr)):∀(cs:List AV) (us:List ye) (o:Nat),
  ak ae m S w cs us->(∀(j:Nat) (u:ye),us[j]? =some u->arr[o+j]? =some u)->bt ae m S w cs b o
 | [],us,o,_,_=>by simp only [bt]
 | c::cs,us,o,h,hu=>by
  simp only [ak] at h;obtain ⟨u,r,rfl,h2,h3⟩:=h;simp only [bt];refine ⟨⟨u,?_,h2⟩,Hn hb cs r (o+1) h3 (fun j v hv=>?_)⟩
  ·have:=hu 0 u (by simp)
   simpa [World.cell?,hb] using this
  ·have:=hu (j+1) v (by simpa using hv)
   rw [show o+1+j=o+(j+1) by omega];exact this
def ace (hh:aH O m S w hp cq) {i:Nat} {arr:Array ye} {t:yp} {cs:List AV} {us:List ye} {pu ex:Bool} {sz:Nat} (hr:ak O.ae m S w cs us)
  (hu:∀(j:Nat) (u:ye),us[j]? =some u->arr[j]? =some u) (hl:cs.length<=arr.size) (hex:ex=true->cs.length=arr.size) (Cu:pu=true->ax cs=true)
  (m':Mp) (hm:cE m m') (hi:m' i=some ⟨w.heap.size,0,arr.size,sz⟩):dQ O m' S (w.alloc (.cells arr t)) i (.cells true pu ex sz cs):=by
 refine ⟨⟨w.heap.size,0,arr.size,sz⟩,arr,t,hi,heap_alloc_new w _,rfl,hl,by simp,hex,?_,Cu,?_,by simp⟩
 ·exact Hn (heap_alloc_new w _) cs us 0 (eV hm (fun _ h=>h) (AF hh _) _ _ hr) (by simpa using hu)
 ·intro _ hS
  have:=hh.slt _ hS
  simp at this
def ri (O:aZ) (m:Mp) (S:Nat->Prop) (w:yg) (a:Act) (ct:Nat) (o:yL) (v:AV) (b:Obj):Prop:=
 ∃u g p,(execOp a.eval o).run O.P w= .ok (.value u) (w.alloc g)/\p.b=w.heap.size/\¬fK b/\
  ∀m',cE m m'->m' ct=some p->dQ O m' S (w.alloc g) ct b/\af O.ae m' S (w.alloc g) v u
def Ho {o:yL} {arr:Array ye} {t:yp} {cs:List AV} {us:List ye} {pu ex:Bool} {sz:Nat} {v:AV} {u:ye} (hh:aH O m S w hp cq)
  (he:(execOp a.eval o).run O.P w= .ok (.value u) (w.alloc (.cells arr t))) (hr:ak O.ae m S w cs us)
  (hu:∀(j:Nat) (u:ye),us[j]? =some u->arr[j]? =some u) (hl:cs.length<=arr.size) (hex:ex=true->cs.length=arr.size) (Cu:pu=true->ax cs=true)
  (hv:∀m':Mp,m' ct=some ⟨w.heap.size,0,arr.size,sz⟩->af O.ae m' S (w.alloc (.cells arr t)) v u):ri O m S w a ct o v (.cells true pu ex sz cs):=
 ⟨u,_,⟨w.heap.size,0,arr.size,sz⟩,he,rfl,by simp [fK],fun m' hm hi=>⟨ace hh hr hu hl hex Cu m' hm hi,hv m' hi⟩⟩
def NO {o:yL} {t:yp} {x:ye} {vx v:AV} {b:Obj} {sz:Nat} (hh:aH O m S w hp cq) (he:(execOp a.eval o).run O.P w= .ok (.value (.pointer (some ⟨w.heap.size,0,none⟩))) (w.alloc (.cells x.cells t))) (hx:ak O.ae m S w (cellsOf vx) x.cells.toList)
  (hv:(bif yq (cellsOf vx).length sz&&bT (cellsOf vx) then some (AV.ptr ct 0,Obj.cells true (ax (cellsOf vx)) true sz (cellsOf vx)) else none)=some (v,b)):ri O m S w a ct o v b:=by
 cases hc:(yq (cellsOf vx).length sz&&bT (cellsOf vx)) with
 | false=>rw [hc] at hv;cases hv
 | true=>
  rw [hc] at hv;obtain ⟨rfl,rfl⟩:=hv;have hlen:=fI _ _ hx;refine Ho hh he hx (fun j u hj=>by simpa using hj) (by rw [<-hlen];simp) (fun _=>by rw [<-hlen];simp) (fun h=>h) (fun m' hi=>?_)
  simp only [af];exact ⟨_,hi,by simp⟩
def Z9 {o:yL} {t:yp} {r:Option xh} (hh:aH O m S w hp cq) (ho:o.op= .makeMap t r) (hr:r=none):ri O m S w a ct o (.map ct) (.mp true [] []):=by
 subst hr;refine ⟨.map (some w.heap.size),.map #[] 0,⟨w.heap.size,0,0,0⟩,by simp [execOp,ho,Instr.makeMap],rfl,by simp [fK],fun m' _ hi=>⟨?_,?_⟩⟩
 ·refine ⟨_,#[],0,hi,heap_alloc_new w _,by simp [ak],by simp [ak],?_,by simp⟩;intro _ hS
  have:=hh.slt _ hS
  simp at this
 ·simp only [af];exact ⟨_,hi,rfl⟩
def Yv {o:yL} {t:yp} {x:xh} {s:List Nat} (hh:aH O m S w hp cq) (ho:o.op= .range t x) (hu:O.P.underlying t=some .string) (hx:af O.ae m S w (.str s) (a.eval x)):
  ri O m S w a ct o (.it ct) (.si s 0):=by
 obtain ⟨b,e,rfl⟩:=hx;refine ⟨.pointer (some ⟨w.heap.size,0,none⟩),.stringIter b 0,⟨w.heap.size,0,0,0⟩,by simp [execOp,ho,Instr.range,run_underlying hu,e],rfl,by simp [fK],fun m' _ hi=>⟨?_,?_⟩⟩
 ·refine ⟨_,b,hi,heap_alloc_new w _,rfl,?_⟩;intro hS
  have:=hh.slt _ hS
  simp at this
 ·simp only [af];exact ⟨_,hi,rfl⟩
end
def Yw (zero:Array ye):(yR zero.size).map (fun j=>zero[j]!)=zero.toList:=by
 apply List.ext_getElem
 ·simp
 ·grind
def L5 (zero:Array ye):∀n:Nat,(yR (n*zero.size)).map (fun i=>zero[i%zero.size]!)=(yx n zero.toList).flatten
 | 0=>by simp
 | n+1=>by
  rw [vd,Nat.one_mul,List.range_add,List.map_append,L5 zero n,List.replicate_succ',uX]
  congr 1
  simp only [List.map_map,wX,List.flatten_nil,List.append_nil];rw [<-Yw zero];apply List.map_congr_left;intro j hj;simp at hj;simp [Function.comp,uR n,Nat.mod_eq_of_lt hj]
def HV {ae:Nat->Nat} {m:Mp} {S:Nat->Prop} {w:yg} {cs:List AV} {us:List ye} (h:ak ae m S w cs us):∀n,ak ae m S w (yx n cs).flatten (yx n us).flatten
 | 0=>by simp [ak]
 | n+1=>by rw [xH,xH,wX,wX];exact iM h (HV h n)
section
variable {O:aZ} {H:Hint} {m:Mp} {S:Nat->Prop} {w:yg} {tm:Env} {a:Act} {hp:Hp} {ct cq:Nat}
def MR (zero:Array ye) (n:Nat):(Array.map (fun i=>zero[i%zero.size]!) (vo (n*zero.size))).toList=(yx n zero.toList).flatten:=by
 rw [<-L5 zero n]
 simp
def NP (tm:Env):∀(ps:List (Nat×Nat×X)) (zero cs:List AV),fill tm zero ps=some cs->cs.length=zero.length
 | [],zero,cs,h=>by simp only [fill,yb] at h;rw [h]
 | (o,sz,x)::r,zero,cs,h=>by
  simp only [fill] at h
  cases hc:(yq (cellsOf (ao tm x)).length sz&&yA (o+sz) zero.length&&bT (cellsOf (ao tm x))) with
  | false=>rw [hc] at h;cases h
  | true=>
   rw [hc] at h;simp only [yf] at hc;have h1:=yk hc.1.1;have h2:=yr hc.1.2;rw [NP tm r _ _ h];simp only [over,List.length_append,List.length_take,List.length_drop];omega
def DV {α:Type} (l:List α):∀n,(yx n l).flatten.length=n*l.length
 | 0=>by simp
 | n+1=>by simp [xH,DV l n,vd,Nat.add_comm]
def Yx {o:yL} {t e:yp} {n s:Nat} {z:AV} {parts:Array (Nat×xh)} {ps:List (Nat×Nat×X)} {v:AV} {b:Obj} (hH:dW O H) (ht:bJ O m S w tm a.tmps) (hh:aH O m S w hp cq)
  (ho:o.op= .buildSlice t n parts) (hu:O.P.underlying t=some (.slice e)) (hs:bQ O.P e=some s) (hz:jh O.P e=some z) (hn:n*s<=16777216)
  (lU:partsOf H (fun i=>some (i*s,s)) parts.toList=some ps)
  (hv:bV tm hp ct (.cd n s (yx n (cellsOf z)).flatten ps)=some (v,b)):ri O m S w a ct o v b:=by
 simp only [bV] at hv
 cases hf:fill tm (yx n (cellsOf z)).flatten ps with
 | none=>simp [hf] at hv
 | some cs=>
  simp only [hf] at hv
  cases hc:yq cs.length (n*s) with
  | false=>rw [hc] at hv;cases hv
  | true=>
   rw [hc] at hv;simp only [ym,yb,yi] at hv;obtain ⟨rfl,rfl⟩:=hv;have hlen:=yk hc;obtain ⟨zv,kW,rfl⟩:=sT (w:=w) hz;have n7:ak O.ae m S w (cellsOf (dl zv)) zv.cells.toList:=sE zv;have zX:=fI _ _ n7;have zY:=NP tm ps _ _ hf;rw [DV] at zY;have J7:n*s=n*zv.cells.size:=by
    rw [<-hlen,zY,<-zX];simp
   have key:∃zr:Array ye,(n*s=0->zr=#[])/\(n*s≠0->zr=zv.cells)/\ak O.ae m S w (yx n (cellsOf (dl zv))).flatten ((vo (n*s)).map (fun x=>zr[x%zr.size]!)).toList:=by
    by_cases h0:n*s=0
    ·refine ⟨#[],fun _=>rfl,fun h=>(h h0).elim,?_⟩
     have:(yx n (cellsOf (dl zv))).flatten=[]:=by
      apply List.eq_nil_of_length_eq_zero;rw [DV,<-zX];simp only [Array.length_toList];omega
     rw [this];simp [ak,h0]
    ·refine ⟨zv.cells,fun h=>(h0 h).elim,fun _=>rfl,?_⟩;rw [J7,MR];exact HV n7 n
   obtain ⟨zr,J8,jR,n9⟩:=key;obtain ⟨out,h1,h2⟩:=Ec hH ht (place:=fun i=>some (i*s,s)) parts.toList ps _ cs _ lU n9 hf;have mS:=fI _ _ h2
   refine Ho (arr:=out) (t:=e) (us:=out.toList) hh ?_ h2 (fun j u hj=>by simpa using hj) (by rw [<-mS];simp) (fun _=>by rw [<-mS];simp) (fun h=>h) (u:= .slice (some ⟨w.heap.size,0,none⟩) n n) ?_
   ·have J9:¬(n*s>2^24):=by omega
    by_cases h0:n*s=0
    ·have:=J8 h0
     subst this;simp only [h0] at h1;simp [execOp,ho,Instr.buildSlice,run_underlying hu,jw hs,h0,newRow] at h1 ⊢;simp [h1]
    ·have:=jR h0
     subst this;simp [execOp,ho,Instr.buildSlice,run_underlying hu,jw hs,h0,J9,kW,newRow] at h1 ⊢;simp [h1]
   ·intro m' hi;simp only [af];refine ⟨_,n,hi,by simp,Nat.le_refl _,?_⟩;simp only [Nat.zero_add];rw [<-hlen,<-mS];simp
def sF:∀{a b:List AV},ax a=true->ax b=true->ax (a++b)=true
 | [],_,_,h=>h
 | c::r,b,h,k=>by
  simp only [ax,yf] at h;simp only [List.cons_append,ax,yf];exact ⟨h.1,sF h.2 k⟩
def MS {z:List AV} (h:ax z=true):∀n,ax (yx n z).flatten=true
 | 0=>by simp [ax]
 | n+1=>by rw [xH,wX];exact sF h (MS h n)
def aaa {o:yL} {t e:yp} {s by':Nat} {z:AV} {l c:xh} {v:AV} {b:Obj} (hH:dW O H) (ht:bJ O m S w tm a.tmps) (hh:aH O m S w hp cq)
  (ho:o.op= .makeSlice t l c) (hu:O.P.underlying t=some (.slice e)) (hs:bQ O.P e=some s) (hb:pI O.P e=some by') (hz:jh O.P e=some z)
  (hv:bV tm hp ct (.eT s by' (cellsOf z) (aF H l) (aF H c))=some (v,b)):ri O m S w a ct o v b:=by
 simp only [bV] at hv
 cases hl:cP (ao tm (aF H l)) with
 | none=>simp [hl] at hv
 | some ln=>
  cases hc:cP (ao tm (aF H c)) with
  | none=>simp [hl,hc] at hv
  | some cn=>
   simp only [hl,hc] at hv
   cases hk:(yA ln cn&&(yA cn room&&(yA (cn*by') room&&(yq (cellsOf z).length s&&bT (cellsOf z))))) with
   | false=>rw [hk] at hv;cases hv
   | true=>
    rw [hk] at hv;simp only [ym,yb,yi] at hv;obtain ⟨rfl,rfl⟩:=hv;simp only [yf] at hk;have h1:=yr hk.1;have h2:=yr hk.2.1;have h3:=yr hk.2.2.1;have h4:=yk hk.2.2.2.1;simp only [room] at h2 h3;obtain ⟨kl,el⟩:=nm (bN hH ht l) hl;obtain ⟨kc,ec⟩:=nm (bN hH ht c) hc;obtain ⟨zv,kW,rfl⟩:=sT (w:=w) hz;have n7:ak O.ae m S w (cellsOf (dl zv)) zv.cells.toList:=sE zv;have zX:=fI _ _ n7;have CB:zv.cells.size=s:=by rw [<-h4,<-zX];simp
    have wrapN:∀k:Nat,k<=1099511627776->IntKind.i64.wrap (k:Int)=k:=fun k hk=>IntWalk.i64_in _ (by omega)
    obtain ⟨ti,oc,eU,Ka⟩:∃ti,O.P.info? e=some ti/\ti.size=s/\ti.bytes=by':=by
     unfold bQ at hs;unfold pI at hb
     cases hi:O.P.info? e with
     | none=>simp [hi] at hs
     | some ti=>simp only [hi,yb] at hs hb;exact ⟨ti,rfl,hs,hb⟩
    have rB:((vo (cn*s)).map (zv.cells[·%zv.cells.size]!)).toList=(yx ln zv.cells.toList).flatten++(yx (cn-ln) zv.cells.toList).flatten:=by
     rw [<-CB,MR,<-uX,List.replicate_append_replicate]
     grind
    have fX:(yx ln (cellsOf (dl zv))).flatten.length=ln*s:=by rw [DV,h4]
    have hmul:ln*s<=cn*s:=Nat.mul_le_mul_right _ h1
    refine Ho (arr:=(vo (cn*s)).map (zv.cells[·%zv.cells.size]!)) (t:=e) (us:=(yx ln zv.cells.toList).flatten) hh (u:= .slice (some ⟨w.heap.size,0,none⟩) ln cn) ?_
     (HV n7 ln) ?_ ?_ ?_ (fun h=>?_) ?_
    ·have amN:by'*cn<=1099511627776:=by rw [uR];exact h3
     have mT:((by'*cn:Nat):Int)<=1099511627776:=by omega
     rw [Int.natCast_mul] at mT;have hlc:(ln:Int)<=(cn:Int):=by omega
     have g1:¬(281474976710656<(by':Int)*(cn:Int)):=by omega
     have g2:¬(((ln:Int)<0)):=by omega
     have g3:¬(((cn:Int)<0)):=by omega
     have g4:¬((ln:Int)>(cn:Int)):=by omega
     by_cases h0:cn*s=0
     ·simp [execOp,ho,Instr.makeSlice,run_underlying hu,el,ec,asInt,asIntOf,typeInfo,oc,Ka,wrapN ln (by omega),wrapN cn h2,g1,g2,g3,g4,jw hs,h0,newRow,askRoom,roomBytes]
      grind
     ·simp [execOp,ho,Instr.makeSlice,run_underlying hu,el,ec,asInt,asIntOf,typeInfo,oc,Ka,wrapN ln (by omega),wrapN cn h2,g1,g2,g3,g4,jw hs,h0,newRow,askRoom,roomBytes,kW]
    ·intro j u hj
     have:((vo (cn*s)).map (zv.cells[·%zv.cells.size]!)).toList[j]? =some u:=by
      grind
     grind
    ·grind
    ·simp_all
    ·exact MS h ln
    ·intro m' hi;simp only [af];refine ⟨_,cn,hi,by simp,h1,?_⟩
     simp
def acf {o:yL} {k:Nat} {v:AV} {b:Obj} (hH:dW O H) (ht:bJ O m S w tm a.tmps) (hh:aH O m S w hp cq)
  (hv:bV tm hp ct (aV O.P H k o)=some (v,b)):ri O m S w a ct o v b:=by
 cases ho:o.op with
 | call c=>
  obtain ⟨callee,args,ts⟩:=c;simp only [aV,ho] at hv
  repeat' split at hv
  all_goals first
   | (simp [bV,bad] at hv;done)
   | (revert hv;generalize yq _ _=bb;intro hv;cases bb<;>simp [bV,bad] at hv)
 | alloc t=>
  simp only [aV,ho] at hv
  split at hv
  ·rename_i s z hs hz;obtain ⟨zv,kW,rfl⟩:=sT (w:=w) hz
   exact NO (x:=zv) (t:=t) hh (by simp [execOp,ho,Instr.alloc,kW,newVar,newRow]) (sE zv) (by simpa only [bV,ao] using hv)
  ·simp [bV,bad] at hv
 | box t x=>
  simp only [aV,ho] at hv
  split at hv
  ·rename_i s hs;simp only [bV] at hv
   cases hc:(yq (cellsOf (ao tm (aF H x))).length s&&bT (cellsOf (ao tm (aF H x)))) with
   | false=>rw [hc] at hv;cases hv
   | true=>
    have h1:=hc;simp only [yf] at h1
    exact NO (x:=a.eval x) (t:=t) hh (by simp [execOp,ho,Instr.box,newVar,newRow]) (Hm (bN hH ht x) h1.2) hv
  ·simp [bV,bad] at hv
 | buildSlice t n parts=>
  simp only [aV,ho] at hv
  split at hv
  ·rename_i e hu
   split at hv
   ·rename_i s z hs hz
    cases hc:yA (n*s) 16777216 with
    | false=>rw [hc] at hv;simp [bV,bad] at hv
    | true=>
     rw [hc] at hv;simp only [ym] at hv
     split at hv
     ·rename_i ps lU;exact Yx hH ht hh ho hu hs hz (yr hc) lU hv
     ·simp [bV,bad] at hv
   ·simp [bV,bad] at hv
  ·simp [bV,bad] at hv
 | makeSlice t l c=>
  simp only [aV,ho] at hv
  split at hv
  ·rename_i e hu
   split at hv
   ·rename_i s by' z hs hb hz
    exact aaa hH ht hh ho hu hs hb hz hv
   ·simp [bV,bad] at hv
  ·simp [bV,bad] at hv
 | makeMap t r=>
  cases r with
  | some x=>simp [aV,ho,bV,bad] at hv
  | none=>
   simp only [aV,ho] at hv
   repeat' split at hv
   all_goals first
    | (simp [bV,bad] at hv;done)
    | (
      simp only [bV,yb,yi] at hv;obtain ⟨rfl,rfl⟩:=hv
      exact Z9 hh ho rfl)
 | range t x=>
  simp only [aV,ho] at hv
  split at hv
  ·rename_i hu;simp only [bV] at hv;have rx:=bN hH ht x;cases hx:ao tm (aF H x)<;>rw [hx] at hv rx<;>simp only [reduceCtorEq] at hv
   simp only [yb,yi] at hv;obtain ⟨rfl,rfl⟩:=hv;exact Yv hh ho hu rx
  ·simp [bV,bad] at hv
 | next x b=>cases b<;>simp [aV,ho,bV,bad] at hv
 | binOp op t x y ty=>
  cases op<;>simp only [aV,ho,mv,nl] at hv
  case eql=>
        repeat' split at hv
        all_goals first
         | (simp [bV,bad] at hv;done)
         | (cases hb:(O.P.stoodInHeld t||O.P.eqGuardType O.P.depth t)<;>rw [hb] at hv<;>simp [bV,bad] at hv)
  case neq=>
        repeat' split at hv
        all_goals first
         | (simp [bV,bad] at hv;done)
         | (cases hb:(O.P.stoodInHeld t||O.P.eqGuardType O.P.depth t)<;>rw [hb] at hv<;>simp [bV,bad] at hv)
  all_goals simp [bV] at hv
 | _=>
  simp only [aV,ho] at hv
  (repeat' split at hv)
  all_goals first
   | contradiction
   | (simp [bV,bad] at hv;done)
end
end
section
open Go
def mo {hp:Hp} {id i:Nat} {o:Obj}:aj (aW hp id o) i=if id=i then (if (aj hp id).isSome then some o else none) else aj hp i:=by
 induction hp with
 | nil=>simp [aW,aj]
 | cons x r ih=>
  obtain ⟨j,q⟩:=x;simp only [aW];by_cases hj:j=id
  ·subst hj;simp only [y7,ym,aj];by_cases hi:j=i
   ·simp_all
   ·have:yq j i=false:=by
     cases hq:yq j i with
     | false=>rfl
     | true=>exact absurd (yk hq) hi
    grind
  ·have hb:yq j id=false:=by
    cases hq:yq j id with
    | false=>rfl
    | true=>exact absurd (yk hq) hj
   simp only [hb,yu];rw [show aj ((j,q)::aW r id o) i=bif yq j i then some q else aj (aW r id o) i from rfl,ih];by_cases hi:j=i
   ·subst hi
    have:¬id=j:=fun h=>hj h.symm
    simp [y7,this,aj]
   ·have mT:yq j i=false:=by
     cases hq:yq j i with
     | false=>rfl
     | true=>exact absurd (yk hq) hi
    simp [mT,aj,hb]
def gH (hp ai:Hp):Prop:=∀id,(aj ai id).isSome=(aj hp id).isSome
def gH.refl {hp:Hp}:gH hp hp:=fun _=>rfl
def gH.trans {a b c:Hp} (h:gH a b) (k:gH b c):gH a c:=fun id=>(k id).trans (h id)
def Iu {hp:Hp} {id:Nat} {o o':Obj} (h:aj hp id=some o) (hl:fY o o'):cr hp (aW hp id o')/\gH hp (aW hp id o'):=by
 constructor
 ·intro i q hq;rw [mo];by_cases hi:id=i
  ·grind
  ·exact ⟨q,by simp [hi,hq],fY.refl q⟩
 ·intro i;rw [mo]
  grind
def MT {hp H:Hp} {id:Nat} {pu ex:Bool} {sz:Nat} {cs:List AV} (hl:cr hp H) (h:aj hp id=some (.cells false pu ex sz cs)):aj H id=some (.cells false pu ex sz cs):=by
 obtain ⟨o',h1,dJ,rfl,h2⟩:=hl id _ h
 cases dJ with
 | false=>exact h1
 | true=>exact absurd (h2 rfl) (by simp)
section
variable {O:aZ}
def agZ (O:aZ) (m:Mp) (S:Nat->Prop) (w:yg) (p:Pl) (ex:Bool) (sz:Nat) (cs:List AV):Prop:=
 p.z=sz/\cs.length<=p.e/\(ex=true->cs.length=p.e)/\S p.b/\ax cs=true/\bt O.ae m S w cs p.b p.o
def Jq (O:aZ) (ai:Hp) (v v':AV):Prop:=∀H m S w ct,cr ai H->aH O m S w H ct->(∀u,af O.ae m S w v u->af O.ae m S w v' u)/\aG v'=true
def SV (O:aZ) (ai:Hp) (vs cW:List AV):Prop:=∀H m S w ct,cr ai H->aH O m S w H ct->(∀us,ak O.ae m S w vs us->ak O.ae m S w cW us)/\ax cW=true
def aix (O:aZ) (ai:Hp) (id:Nat) (ex:Bool) (sz:Nat) (cs:List AV):Prop:=∀H m S w ct,cr ai H->aH O m S w H ct->∀p,m id=some p->agZ O m S w p ex sz cs
def sP {ae:Nat->Nat} {m:Mp} {S:Nat->Prop} {w:yg} {b:Nat}:∀(cs:List AV) (us:List ye) (o:Nat),ak ae m S w cs us->
  (∀(j:Nat) (u:ye),us[j]? =some u->w.cell? ⟨b,o+j,none⟩=some u)->bt ae m S w cs b o
 | [],us,o,_,_=>by simp only [bt]
 | c::cs,us,o,h,hu=>by
  obtain ⟨u,r,rfl,h2,h3⟩:=h;refine ⟨⟨u,by simpa using hu 0 u (by simp),h2⟩,sP cs r (o+1) h3 (fun j v hv=>?_)⟩;rw [show o+1+j=o+(j+1) by omega]
  simp_all
def ag0 {m:Mp} {S:Nat->Prop} {w:yg} {cs cK:List AV} (h:∀us,ak O.ae m S w cs us->ak O.ae m S w cK us) {b o:Nat} (hr:bt O.ae m S w cs b o):bt O.ae m S w cK b o:=by
 obtain ⟨us,h1,_,h3⟩:=nf cs b o hr;exact sP cK us o (h us h1) h3
def qh:∀(k:Nat) {cs:List AV},ax cs=true->ax (cs.take k)=true
 | 0,_,_=>by simp [ax]
 | k+1,[],_=>by simp [ax]
 | k+1,c::cs,h=>by
  simp only [ax,yf,List.take_succ_cons] at h ⊢;exact ⟨h.1,qh k h.2⟩
def aab {ai:Hp} {vs cW:List AV}:∀{n:Nat} {hp:Hp},bO n hp vs=some (cW,ai)->cW.length=vs.length:=by
 intro n
 induction n generalizing vs cW ai with
 | zero=>intro hp h;simp [bO] at h
 | succ n ih=>
  intro hp h
  cases vs with
  | nil=>simp only [bO,yb,yi] at h;rw [<-h.1]
  | cons v r=>
   simp only [bO] at h
   cases h1:freeze n hp v with
   | none=>simp [h1] at h
   | some q=>
    obtain ⟨v',bl⟩:=q;simp only [h1] at h
    cases h2:bO n bl r with
    | none=>simp [h2] at h
    | some q2=>
     grind
def L6:∀n:Nat,
  (∀hp v v' ai,freeze n hp v=some (v',ai)->cr hp ai/\gH hp ai/\Jq O ai v v')/\
  (∀hp id ex sz cs ai,mj n hp id=some (ex,sz,cs,ai)->cr hp ai/\gH hp ai/\aix O ai id ex sz cs)/\
  (∀hp vs cW ai,bO n hp vs=some (cW,ai)->cr hp ai/\gH hp ai/\SV O ai vs cW):=by
 intro n
 induction n with
 | zero=>refine ⟨?_,?_,?_⟩<;>intros<;>simp_all [freeze,mj,bO]
 | succ n ih=>
  obtain ⟨ihV,U4,zZ⟩:=ih;refine ⟨?_,?_,?_⟩
  ·intro hp v v' ai h;have plain:∀{v v':AV} {hp ai:Hp},(bif aG v then some (v,hp) else none)=some (v',ai)->cr hp ai/\gH hp ai/\Jq O ai v v':=by
    intro v v' hp ai h
    cases hc:aG v with
    | false=>rw [hc] at h;cases h
    | true=>
     rw [hc] at h;simp only [ym,yb,yi] at h;obtain ⟨rfl,rfl⟩:=h;exact ⟨cr.refl,gH.refl,fun _ _ _ _ _ _ _=>⟨fun _ h=>h,hc⟩⟩
   cases v<;>simp only [freeze] at h<;>first | exact plain h | skip
   case aq id o k=>
    cases hb:mj n hp id with
    | none=>simp [hb] at h
    | some q=>
     obtain ⟨ex,sz,cs,bl⟩:=q;simp only [hb] at h
     cases hc:yA (o+k*sz) cs.length with
     | false=>rw [hc] at h;cases h
     | true=>
      rw [hc] at h;simp only [ym,yb,yi] at h;obtain ⟨rfl,rfl⟩:=h;have hle:=yr hc;obtain ⟨h1,h2,h3⟩:=U4 _ _ _ _ _ _ hb;refine ⟨h1,h2,fun H m S w ct hl hh=>⟨fun u hu=>?_,by simp only [aG]⟩⟩;simp only [af] at hu ⊢;obtain ⟨p,c,hm,rfl,od,FK⟩:=hu;obtain ⟨g1,g2,g3,g4,g5,g6⟩:=h3 H m S w ct hl hh p hm;refine .inl ⟨p.b,p.o+o,c,rfl,od,?_,.inr g4,qh _ (oH _ _ g5),qt _ _ _ _ (mh _ _ _ _ g6)⟩;intro hx;simp only [yf] at hx;have e1:=yk hx.2;have e2:0<sz:=by
       simp_all
      have e3:=g3 hx.1.1;rw [g1] at FK
      have:c*sz=k*sz:=by omega
      exact Nat.eq_of_mul_eq_mul_right e2 this
   case ptr id o=>
    cases hb:mj n hp id with
    | none=>simp [hb] at h
    | some q=>
     obtain ⟨ex,sz,cs,bl⟩:=q;simp only [hb,yb,yi] at h;obtain ⟨rfl,rfl⟩:=h;obtain ⟨h1,h2,h3⟩:=U4 _ _ _ _ _ _ hb;refine ⟨h1,h2,fun H m S w ct hl hh=>⟨fun u hu=>?_,by simp only [aG]⟩⟩;simp only [af] at hu ⊢;obtain ⟨p,hm,rfl⟩:=hu;obtain ⟨g1,g2,g3,g4,g5,g6⟩:=h3 H m S w ct hl hh p hm;exact ⟨p.b,p.o+o,rfl,.inr g4,oH _ _ g5,mh _ _ _ _ g6⟩
   case map id=>
    cases hg:aj hp id with
    | none=>simp [hg] at h
    | some ob=>
     cases ob<;>simp only [hg,reduceCtorEq] at h
     rename_i rw ks vs
     cases hc:(ax ks&&ax vs) with
     | false=>rw [hc] at h;cases h
     | true=>
      rw [hc] at h;simp only [ym,yb,yi] at h;obtain ⟨rfl,rfl⟩:=h;simp only [yf] at hc;obtain ⟨h1,h2⟩:=Iu hg (o':= .mp false ks vs) ⟨false,rfl,by simp⟩;refine ⟨h1,h2,fun H m S w ct hl hh=>⟨fun u hu=>?_,by simp only [aG]⟩⟩;simp only [af] at hu ⊢;obtain ⟨p,hm,rfl⟩:=hu;have hq:aj (aW hp id (.mp false ks vs)) id=some (.mp false ks vs):=by rw [mo];simp [hg]
      obtain ⟨o',h3,dJ,rfl,h4⟩:=hl id _ hq;have pR:dJ=false:=by cases dJ with | false=>rfl | true=>exact absurd (h4 rfl) (by simp)
      subst pR;obtain ⟨p',es,clock,g1,g2,g3,g4,g5,g6⟩:=hh.obj id _ _ h3 hm;rw [hm] at g1;injection g1 with g1
      subst g1;exact ⟨p.b,es,clock,rfl,g6 rfl,hc.1,hc.2,g2,g3,g4⟩
   case fn f first cap=>
    cases f with
    | y l=>simp only [aG,yu,reduceCtorEq] at h
    | f g=>
     simp only at h
     cases h1:bO n hp first with
     | none=>simp [h1] at h
     | some q=>
      obtain ⟨P3,bl⟩:=q;simp only [h1] at h
      cases h2:bO n bl cap with
      | none=>simp [h2] at h
      | some q2=>
       obtain ⟨E5,lR⟩:=q2;simp only [h2,yb,yi] at h;obtain ⟨rfl,rfl⟩:=h;obtain ⟨a1,a2,a3⟩:=zZ _ _ _ _ h1;obtain ⟨b1,b2,b3⟩:=zZ _ _ _ _ h2;refine ⟨a1.trans b1,a2.trans b2,fun H m S w ct hl hh=>?_⟩;obtain ⟨c1,c2⟩:=a3 H m S w ct (b1.trans hl) hh;obtain ⟨d1,d2⟩:=b3 H m S w ct hl hh;refine ⟨fun u hu=>?_,by simp [aG,c2,d2]⟩;simp only [af] at hu ⊢;obtain ⟨fi,ca,rfl,e1,e2⟩:=hu;exact ⟨fi,ca,rfl,c1 _ e1,d1 _ e2⟩
   case agg cs=>
    cases h1:bO n hp cs with
    | none=>simp [h1] at h
    | some q=>
     obtain ⟨cK,bl⟩:=q;simp only [h1,yb,yi] at h;obtain ⟨rfl,rfl⟩:=h;obtain ⟨a1,a2,a3⟩:=zZ _ _ _ _ h1;refine ⟨a1,a2,fun H m S w ct hl hh=>?_⟩;obtain ⟨c1,c2⟩:=a3 H m S w ct hl hh;refine ⟨fun u hu=>?_,by simpa [aG] using c2⟩;simp only [af] at hu ⊢;obtain ⟨xs,rfl,e1⟩:=hu;exact ⟨xs,rfl,c1 _ e1⟩
   case ay cs=>
    cases h1:bO n hp cs with
    | none=>simp [h1] at h
    | some q=>
     obtain ⟨cK,bl⟩:=q;simp only [h1,yb,yi] at h;obtain ⟨rfl,rfl⟩:=h;obtain ⟨a1,a2,a3⟩:=zZ _ _ _ _ h1;refine ⟨a1,a2,fun H m S w ct hl hh=>?_⟩;obtain ⟨c1,c2⟩:=a3 H m S w ct hl hh;refine ⟨fun u hu=>?_,by simpa [aG] using c2⟩;simp only [af] at hu ⊢;obtain ⟨xs,rfl,e1⟩:=hu;exact ⟨xs,rfl,c1 _ e1⟩
  ·intro hp id ex sz cK ai h;simp only [mj] at h
   cases hg:aj hp id with
   | none=>simp [hg] at h
   | some ob=>
    cases ob<;>simp only [hg,reduceCtorEq] at h
    rename_i rw pu mP pT cs
    cases pu with
    | true=>
     simp only [ym,yb,yi] at h;obtain ⟨rfl,rfl,rfl,rfl⟩:=h;have hq:cr hp (bif rw then aW hp id (.cells false true mP pT cs) else hp)/\gH hp (bif rw then aW hp id (.cells false true mP pT cs) else hp)/\aj (bif rw then aW hp id (.cells false true mP pT cs) else hp) id=some (.cells false true mP pT cs):=by
      cases rw with
      | true=>
       obtain ⟨h1,h2⟩:=Iu hg (o':= .cells false true mP pT cs) ⟨false,rfl,by simp⟩;exact ⟨h1,h2,by simp [mo,hg]⟩
      | false=>exact ⟨cr.refl,gH.refl,hg⟩
     refine ⟨hq.1,hq.2.1,fun H m S w ct hl hh p hm=>?_⟩;obtain ⟨p',arr,t,g1,g2,g3,g4,g5,g6,g7,g8,g9,g10⟩:=hh.obj id _ _ (MT hl hq.2.2) hm;rw [hm] at g1;injection g1 with g1
     subst g1;exact ⟨g3,g4,g6,g10 rfl,g8 rfl,g7⟩
    | false=>
     simp only [yu] at h
     cases h1:bO n hp cs with
     | none=>simp [h1] at h
     | some q=>
      obtain ⟨mU,bl⟩:=q;simp only [h1,yb,yi] at h;obtain ⟨rfl,rfl,rfl,rfl⟩:=h;obtain ⟨a1,a2,a3⟩:=zZ _ _ _ _ h1;obtain ⟨o1,gR,rw1,rfl,_⟩:=a1 id _ hg;obtain ⟨b1,b2⟩:=Iu gR (o':= .cells false false mP pT cs) ⟨false,rfl,by simp⟩;refine ⟨a1.trans b1,a2.trans b2,fun H m S w ct hl hh p hm=>?_⟩;have hq:aj (aW bl id (.cells false false mP pT cs)) id=some (.cells false false mP pT cs):=by simp [mo,gR]
      obtain ⟨p',arr,t,g1,g2,g3,g4,g5,g6,g7,g8,g9,g10⟩:=hh.obj id _ _ (MT hl hq) hm;rw [hm] at g1;injection g1 with g1
      subst g1;obtain ⟨c1,c2⟩:=a3 H m S w ct (b1.trans hl) hh;have hlen:=aab h1
      exact ⟨g3,by omega,fun hx=>by have:=g6 hx;omega,g10 rfl,c2,ag0 c1 g7⟩
  ·intro hp vs cW ai h
   cases vs with
   | nil=>
    simp only [bO,yb,yi] at h;obtain ⟨rfl,rfl⟩:=h;exact ⟨cr.refl,gH.refl,fun _ _ _ _ _ _ _=>⟨fun _ h=>h,rfl⟩⟩
   | cons v r=>
    simp only [bO] at h
    cases h1:freeze n hp v with
    | none=>simp [h1] at h
    | some q=>
     obtain ⟨v1,bl⟩:=q;simp only [h1] at h
     cases h2:bO n bl r with
     | none=>simp [h2] at h
     | some q2=>
      obtain ⟨r1,lR⟩:=q2;simp only [h2,yb,yi] at h;obtain ⟨rfl,rfl⟩:=h;obtain ⟨a1,a2,a3⟩:=ihV _ _ _ _ h1;obtain ⟨b1,b2,b3⟩:=zZ _ _ _ _ h2;refine ⟨a1.trans b1,a2.trans b2,fun H m S w ct hl hh=>?_⟩;obtain ⟨c1,c2⟩:=a3 H m S w ct (b1.trans hl) hh;obtain ⟨d1,d2⟩:=b3 H m S w ct hl hh;refine ⟨fun us hu=>?_,by simp [ax,c2,d2]⟩;simp only [ak] at hu ⊢;obtain ⟨u,t,rfl,e1,e2⟩:=hu;exact ⟨u,t,rfl,c1 _ e1,d1 _ e2⟩
def G6 {n:Nat} {hp ai:Hp} {vs cW:List AV} (h:bO n hp vs=some (cW,ai)):cr hp ai/\gH hp ai/\SV O ai vs cW:=(L6 n).2.2 _ _ _ _ h
def Hr {n:Nat} {hp ai:Hp} {v v':AV} (h:freeze n hp v=some (v',ai)):cr hp ai/\gH hp ai/\Jq O ai v v':=(L6 n).1 _ _ _ _ h
end
end
end VE
