import Derived.Laws.Tables
import Derived.IntWalk
import Derived.Laws.CopyOwn
import Derived.Test.YtpdlhopnhojpjaaGreatDoorTaa
set_option linter.all false
set_option maxRecDepth 100000
open Array renaming getElem?_eq_some_iff→xF,length_toList→vI,range→uV
open Bool renaming and_eq_true→yi,false_eq_true→yN
open Go renaming Ending→ybj,Loop→td,MapEntry→tf,Next→yaO,Obj→tH,Oper→yZ,Operand→xC,Program→xa,TypeDesc→vO,TypeId→yH,TypeInfo→yck,Value→yj,World→ym,sizeOf→vR
open List renaming append_assoc→xm,cons_append→xr,eq_nil_of_length_eq_zero→yF,ext_getElem?→yaQ,flatten_append→yaz,flatten_cons→vH,getElem?_append_left→wC,getElem?_append_right→xS,getElem?_drop→yaH,getElem?_take_of_lt→uA,getElem?_toArray→yap,length_append→yG,length_drop→we,length_take→yI,map_cons→xd,mem_append→xL,range→y5,replicate→yf,replicate_succ→xP,size_toArray→uO,take_of_length_le→yC,take_succ_cons→wI
open Nat renaming add_mul→wS,add_zero→y7,beq→yz,beq_refl→ve,ble→yK,blt→yQ,eq_of_beq_eq_true→yt,eq_zero_or_pos→xB,le_of_ble_eq_true→yB,le_refl→yq,lt_of_lt_of_le→yV,min_le_left→ybi,mul_comm→xO,mul_le_mul_right→yS,zero_add→yg
open Option renaming isSome_none→yau
open Option.some renaming injEq→ye
open Prod.mk renaming injEq→yr
open UInt8 renaming toNat→xf
namespace VE
section
open Go
section
variable {O:bl} {H:Hint} {m:Mp} {S:Nat->Prop} {w:ym} {tm:Env} {a:Act} {hp:Hp} {ct:Nat}
def Fk {o:yZ} {b:Builtin} {args:Array xC} {ts:Array yH} (ho:o.op= .call {callee:= .builtin b,args:=args,argTypes:=ts}):
  ∃cs,(execOp a.eval o).run O.P w=(builtin b ts o.type cs (args.map a.eval)).run O.P w:=by
 exact ⟨_,by simp only [execOp,ho,resolve,Sem.run_bind,Sem.run_pure,Result.andThen_ok,invoke];rfl⟩
def am7 {o:yZ} {c:Call} {k:Nat} {v:AV} (hH:fO O H) (ht:cf O m S w tm a.tmps) (hh:aV O m S w hp ct) (ho:o.op= .call c)
  (hv:bB tm hp (aX O.P H k o)=some v):Reads O m S w a o v:=by
 obtain ⟨callee,args,ts⟩:=c;simp only [aX,ho] at hv
 split at hv
 ·cases LZ:H.mode k<;>simp [LZ,bB] at hv
 ·rename_i _ b
  split at hv
  ·have key:∀{bb:Bool} {sz bX:Nat} {x y:X},bB tm hp (bif bb then .cX sz bX x y else bad)=some v->False:=by
    intro bb sz bX x y h
    cases bb
    ·exact dR h
    ·simp [bB] at h
   split at hv
   ·split at hv
    ·exact (key hv).elim
    ·simp_all
   ·split at hv
    ·exact (key hv).elim
    ·simp_all
   ·simp_all
  ·rename_i x t gI nG;obtain ⟨al⟩:=args;obtain ⟨tl⟩:=ts;simp only at gI nG;subst gI;subst nG;obtain ⟨cs,fR⟩:=Fk (O:=O) (w:=w) (a:=a) ho;have fin:(∃u,(Builtin.len_ #[t] o.type #[a.eval x]).run O.P w= .ok u w/\ai O.ae m S w v u)->Reads O m S w a o v:=by
    rintro ⟨u,h1,h2⟩;refine ⟨u,?_,h2⟩;rw [fR];simp [builtin,h1]
   split at hv
   ·rename_i n e hu;simp only [bB,aC,ye] at hv;subst hv;exact fin ⟨_,by simp [Builtin.len_,run_underlying hu];rfl,by simp [ai,goInt]⟩
   ·rename_i hu;simp only [bB] at hv;exact fin (Ug hh (cE hH ht x) (.inl ⟨rfl,hu⟩) hv)
   ·rename_i e hu;simp only [bB] at hv;exact fin (Ug hh (cE hH ht x) (.inr (.inl ⟨rfl,e,hu⟩)) hv)
   ·rename_i kt e hu;simp only [bB] at hv;exact fin (Ug hh (cE hH ht x) (.inr (.inr ⟨rfl,kt,e,hu⟩)) hv)
   ·exact (dR hv).elim
  ·split at hv
   ·split at hv
    ·simp [bB] at hv
    ·exact (dR hv).elim
   ·exact (dR hv).elim
  ·simp only [bB] at hv;obtain ⟨cs,fR⟩:=Fk (O:=O) (w:=w) (a:=a) ho;have hl:=DD hH ht args.toList
   cases hx:dH tm (iB H args.toList) with
   | nil=>simp [hx] at hv
   | cons c r=>
    simp only [hx] at hv;rw [hx] at hl;simp only [aA] at hl;obtain ⟨u,us,h1,h2,h3⟩:=hl;obtain ⟨q,h4,h5⟩:=Tw (O:=O) (g:=Builtin.min2) (fun va vb v x y hx hy h=>aq7 hx hy h) r us c v u h2 h3 hv;refine ⟨q,?_,h5⟩;rw [fR];simp [builtin,Builtin.min_,h1,h4]
  ·simp only [bB] at hv;obtain ⟨cs,fR⟩:=Fk (O:=O) (w:=w) (a:=a) ho;have hl:=DD hH ht args.toList
   cases hx:dH tm (iB H args.toList) with
   | nil=>simp [hx] at hv
   | cons c r=>
    simp only [hx] at hv;rw [hx] at hl;simp only [aA] at hl;obtain ⟨u,us,h1,h2,h3⟩:=hl;obtain ⟨q,h4,h5⟩:=Tw (O:=O) (g:=Builtin.max2) (fun va vb v x y hx hy h=>aq8 hx hy h) r us c v u h2 h3 hv;refine ⟨q,?_,h5⟩;rw [fR];simp [builtin,Builtin.max_,h1,h4]
  ·exact (dR hv).elim
 ·exact (dR hv).elim
def Y8 {kt:yH} {kk:Nat} {vk:AV} (hk:keyOf O.P kt=some kk) (h:Ab kk vk=true):∃d,O.P.underlying kt=some d/\PG d=true/\fits d vk=true:=by
 unfold keyOf at hk
 split at hk
 ·rename_i hu;simp only [ye] at hk;subst hk;refine ⟨_,hu,rfl,?_⟩;cases vk<;>simp_all [Ab,fits]
 ·rename_i hu;simp only [ye] at hk;subst hk;refine ⟨_,hu,rfl,?_⟩;cases vk<;>simp_all [Ab,fits]
 ·rename_i hu;simp only [ye] at hk;subst hk;refine ⟨_,hu,rfl,?_⟩;cases vk<;>simp_all [Ab,fits]
 ·cases hk
def ab2 {o:yZ} {k:Nat} {v:AV} (hH:fO O H) (ht:cf O m S w tm a.tmps) (hh:aV O m S w hp ct)
  (hv:bB tm hp (aX O.P H k o)=some v):Reads O m S w a o v:=by
 cases ho:o.op with
 | call c=>exact am7 hH ht hh ho hv
 | binOp op t x y ty=>exact aoT hH ht ho hv
 | move x=>
  simp only [aX,ho,bB,ye] at hv;subst hv;exact ⟨_,by simp only [execOp,ho,Sem.run_pure],cE hH ht x⟩
 | assign x=>
  simp only [aX,ho,bB,ye] at hv;subst hv;exact ⟨_,by simp only [execOp,ho,Sem.run_pure],cE hH ht x⟩
 | pick c x y=>
  simp only [aX,ho,bB] at hv;have rc:=cE hH ht c;cases hc:aC tm (aP H c)<;>rw [hc] at hv<;>simp only [reduceCtorEq] at hv
  rename_i b;rw [hc] at rc;simp only [ai] at rc;simp only [ye] at hv;subst hv
  cases b with
  | true=>exact ⟨a.eval x,by simp [execOp,ho,rc,asBool],cE hH ht x⟩
  | false=>exact ⟨a.eval y,by simp [execOp,ho,rc,asBool],cE hH ht y⟩
 | load t x=>
  simp only [aX,ho] at hv
  split at hv
  ·rename_i s ag hz ha;simp only [bB] at hv;exact kM (by simp only [execOp,ho]) (awy hh hz ha (cE hH ht x) hv)
  ·exact (dR hv).elim
 | fieldAddr t x i=>
  simp only [aX,ho] at hv
  split at hv
  ·rename_i fs hu
   split at hv
   ·rename_i f hf
    split at hv
    ·rename_i s hz;simp only [bB] at hv;exact kM (by simp only [execOp,ho]) (atA hu hf hz (cE hH ht x) hv)
    ·exact (dR hv).elim
   ·exact (dR hv).elim
  ·exact (dR hv).elim
 | field t x i=>
  simp only [aX,ho] at hv
  split at hv
  ·rename_i fs hu
   split at hv
   ·rename_i f hf
    split at hv
    ·rename_i s ag hz ha;simp only [bB] at hv;exact kM (by simp only [execOp,ho]) (atB hu hf hz ha (cE hH ht x) hv)
    ·exact (dR hv).elim
   ·exact (dR hv).elim
  ·exact (dR hv).elim
 | nilCheck x=>
  simp only [aX,ho,bB] at hv;have rx:=cE hH ht x;cases hx:aC tm (aP H x)<;>rw [hx] at hv rx<;>simp only [reduceCtorEq,ye] at hv
  ·subst hv;have r':=rx;simp only [ai] at r';obtain ⟨p,_,e⟩:=r';exact ⟨a.eval x,by simp only [execOp,ho,e,Sem.run_pure],rx⟩
  ·subst hv;have r':=rx;simp only [ai] at r';obtain ⟨b,o',e,_⟩:=r';exact ⟨a.eval x,by simp only [execOp,ho,e,Sem.run_pure],rx⟩
  ·subst hv;rename_i f _ _
   cases f with
   | f g=>
    have r':=rx;simp only [ai] at r';obtain ⟨fi,ca,e,_⟩:=r';exact ⟨a.eval x,by simp only [execOp,ho,e,Sem.run_pure],rx⟩
   | y l=>
    have r':=rx;simp only [ai] at r';obtain ⟨p,_,e⟩:=r';exact ⟨a.eval x,by simp only [execOp,ho,e,Sem.run_pure],rx⟩
 | unOp op t x=>
  simp only [aX,ho,bB] at hv;exact kM (by simp only [execOp,ho]) (aq6 (cE hH ht x) hv)
 | convert s d x=>
  simp only [aX,ho] at hv
  split at hv
  ·rename_i k1 k2 hs hd;simp only [bB] at hv;exact kM (by simp only [execOp,ho]) (aaM hd (.inl ⟨_,hs⟩) (cE hH ht x) hv)
  ·rename_i k1 k2 hs hd;simp only [bB] at hv;exact kM (by simp only [execOp,ho]) (aaM hd (.inr ⟨_,hs⟩) (cE hH ht x) hv)
  ·rename_i k1 k2 hs hd;simp only [bB] at hv;exact kM (by simp only [execOp,ho]) (aaN hd (.inl ⟨_,hs⟩) (cE hH ht x) hv)
  ·rename_i k1 k2 hs hd;simp only [bB] at hv;exact kM (by simp only [execOp,ho]) (aaN hd (.inr ⟨_,hs⟩) (cE hH ht x) hv)
  ·rename_i hs hd;simp only [bB] at hv;exact kM (by simp only [execOp,ho]) (aoQ hd hs (cE hH ht x) hv)
  ·exact (dR hv).elim
 | makeFunc fn first cap=>
  cases fn with
  | func f=>
   simp only [aX,ho] at hv
   split at hv
   ·rename_i g hg;simp only [bB,ye] at hv;subst hv;refine ⟨.func (.func f) (first.map a.eval) (cap.map a.eval),by simp [execOp,ho,Instr.makeFunc],?_⟩;simp only [ai];exact ⟨_,_,by rw [hH f g hg],by simpa using DD hH ht first.toList,by simpa using DD hH ht cap.toList⟩
   ·exact (dR hv).elim
  | _=>simp only [aX,ho] at hv;exact (dR hv).elim
 | slice t x lo hi mx=>
  cases mx with
  | some q=>simp only [aX,ho] at hv;exact (dR hv).elim
  | none=>
   simp only [aX,ho] at hv
   split at hv
   ·rename_i hu;simp only [bB] at hv;exact kM (by simp only [execOp,ho];rfl) (am5 hH ht hu (cE hH ht x) hv)
   ·rename_i e hu
    split at hv
    ·rename_i s hz;simp only [bB] at hv;exact kM (by simp only [execOp,ho];rfl) (aoR hH ht hu hz hh (cE hH ht x) hv)
    ·exact (dR hv).elim
   ·split at hv
    ·simp only [bB] at hv;cases hx:aC tm (aP H x)<;>rw [hx] at hv<;>simp [fG] at hv
    ·exact (dR hv).elim
   ·exact (dR hv).elim
 | indexAddr t x i=>
  simp only [aX,ho] at hv
  split at hv
  ·rename_i e hu
   split at hv
   ·rename_i s hz;simp only [bB] at hv
    cases hk:dI (aC tm (aP H i)) with
    | none=>simp [hk] at hv
    | some j=>
     simp only [hk] at hv;exact kM (by simp only [execOp,ho]) (atD hu hz (cE hH ht x) (cE hH ht i) hk hv)
   ·exact (dR hv).elim
  ·rename_i n e hu
   split at hv
   ·rename_i s hz;simp only [bB] at hv
    cases hk:dI (aC tm (aP H i)) with
    | none=>simp [hk] at hv
    | some j=>
     simp only [hk] at hv;exact kM (by simp only [execOp,ho]) (atE hu hz (cE hH ht x) (cE hH ht i) hk hv)
   ·exact (dR hv).elim
  ·exact (dR hv).elim
 | index t x i=>
  simp only [aX,ho] at hv
  split at hv
  ·rename_i hu;simp only [bB] at hv
   cases hk:dI (aC tm (aP H i)) with
   | none=>simp [hk] at hv
   | some j=>
    simp only [hk] at hv;exact kM (by simp only [execOp,ho]) (atG hu (cE hH ht x) (cE hH ht i) hk hv)
  ·rename_i n e hu
   split at hv
   ·rename_i s ag hz ha;simp only [bB] at hv
    cases hk:dI (aC tm (aP H i)) with
    | none=>simp [hk] at hv
    | some j=>
     simp only [hk] at hv;exact kM (by simp only [execOp,ho]) (atF hu hz ha (cE hH ht x) (cE hH ht i) hk hv)
   ·exact (dR hv).elim
  ·exact (dR hv).elim
 | lookup t x i ok=>
  simp only [aX,ho] at hv
  split at hv
  ·rename_i kt e hu
   split at hv
   ·rename_i kk z rZ hz;simp only [bB] at hv
    cases hf:Ab kk (aC tm (aP H i)) with
    | false=>simp [hf] at hv
    | true=>
     simp only [hf,yD] at hv;obtain ⟨d,gW,gE,WY⟩:=Y8 rZ hf;obtain ⟨zv,jE,rfl⟩:=FF (w:=w) hz
     cases hr:B6 hp (aC tm (aP H i)) (aC tm (aP H x)) with
     | none=>simp [hr] at hv
     | some r=>
      refine kM (by simp only [execOp,ho]) (atH (ok:=ok) (r:=r) (z:=eV zv) hh hu gW gE WY jE (cE hH ht x) (cE hH ht i) (Om zv) hr ?_);cases r<;>simpa [hr] using hv
   ·exact (dR hv).elim
  ·exact (dR hv).elim
 | extract x i=>
  simp only [aX,ho,bB] at hv;have rx:=cE hH ht x;cases hx:aC tm (aP H x)<;>rw [hx] at hv rx<;>simp only [reduceCtorEq] at hv
  simp only [ai] at rx;obtain ⟨xs,e,hr⟩:=rx;obtain ⟨u,h1,h2⟩:=SS hr hv;refine ⟨u,?_,h2⟩;have WZ:xs[i]? =some u:=by simpa using h1
  simp [execOp,ho,e,Instr.extract,WZ]
 | build t parts=>
  simp only [aX,ho] at hv
  split at hv
  ·rename_i fs z hu hz
   split at hv
   ·rename_i pl ayt;have eJ:=run_places (P:=O.P) w fs.toList pl ayt
    split at hv
    case h_2=>exact (dR hv).elim
    rename_i ps iY;simp only [bB] at hv
    cases hf:fill tm z ps with
    | none=>simp [hf] at hv
    | some cs=>
     simp only [hf,ye] at hv;subst hv;obtain ⟨zv,jE,fU⟩:=FF (w:=w) hz;have A7:aA O.ae m S w z zv.cells.toList:=by
      have:=Df (ae:=O.ae) (m:=m) (S:=S) (w:=w) zv
      rw [<-fU] at this;exact this
     obtain ⟨out,h1,h2⟩:=Oo hH ht (place:=fun i=>pl[i]?) parts.toList ps z cs zv.cells iY A7 hf;refine ⟨.agg out,?_,by simp only [ai];exact ⟨out,rfl,h2⟩⟩
     have hm:(Array.mapM (fun f=>Functor.map (Prod.mk f.offset) (vR f.type)) fs:Sem (Array (Nat×Nat))).run O.P w= .ok pl.toArray w:=by
      rw [Array.mapM_eq_mapM_toList];simp [eJ]
     simp [execOp,ho,Instr.build,jE,run_underlying hu,hm,h1]
   ·exact (dR hv).elim
  ·rename_i n e z hu hz
   split at hv
   ·rename_i s hs
    split at hv
    ·rename_i ps iY;simp only [bB] at hv
     cases hf:fill tm z ps with
     | none=>simp [hf] at hv
     | some cs=>
      simp only [hf,ye] at hv;subst hv;obtain ⟨zv,jE,fU⟩:=FF (w:=w) hz;have A7:aA O.ae m S w z zv.cells.toList:=by
       have:=Df (ae:=O.ae) (m:=m) (S:=S) (w:=w) zv
       rw [<-fU] at this;exact this
      obtain ⟨out,h1,h2⟩:=Oo hH ht (place:=fun i=>some (i*s,s)) parts.toList ps z cs zv.cells iY A7 hf;refine ⟨.agg out,?_,by simp only [ai];exact ⟨out,rfl,h2⟩⟩
      simp [execOp,ho,Instr.build,jE,run_underlying hu,oR hs,h1]
    ·exact (dR hv).elim
   ·exact (dR hv).elim
  ·exact (dR hv).elim
 | alloc t=>simp only [aX,ho] at hv;split at hv<;>simp [bB,bad] at hv
 | box t x=>simp only [aX,ho] at hv;split at hv<;>simp [bB,bad] at hv
 | buildSlice t n parts=>
  simp only [aX,ho] at hv
  split at hv
  ·split at hv
   ·rename_i s z _ _
    cases hc:yK (n*s) 16777216 with
    | false=>rw [hc] at hv;exact (dR hv).elim
    | true=>
     rw [hc] at hv;simp only [yD] at hv
     split at hv
     ·simp [bB] at hv
     ·exact (dR hv).elim
   ·exact (dR hv).elim
  ·exact (dR hv).elim
 | makeMap t r=>
  cases r<;>simp only [aX,ho] at hv
  ·repeat' split at hv
   all_goals simp [bB,bad] at hv
  ·exact (dR hv).elim
 | makeSlice t l c=>
  simp only [aX,ho] at hv
  repeat' split at hv
  all_goals simp [bB,bad] at hv
 | insert t x k y=>
  simp only [aX,ho] at hv
  repeat' split at hv
  all_goals simp [bB,bad] at hv
 | mapUpdate t x k y=>
  simp only [aX,ho] at hv
  repeat' split at hv
  all_goals simp [bB,bad] at hv
 | store t x y=>simp only [aX,ho] at hv;split at hv<;>simp [bB,bad] at hv
 | range t x=>simp only [aX,ho] at hv;split at hv<;>simp [bB,bad] at hv
 | next x b=>cases b<;>simp [aX,ho,bB,bad] at hv
 | _=>simp [aX,ho,bB,bad] at hv
end
end
section
open Go
def fS (m:Mp) (id:Nat) (p:Pl):Mp:=fun i=>if i=id then some p else m i
def dW {m:Mp} {id:Nat} {p:Pl}:fS m id p id=some p:=by simp [fS]
def eG {m:Mp} {id i:Nat} {p:Pl} (h:i≠id):fS m id p i=m i:=by simp [fS,h]
section
variable {O:bl} {m:Mp} {S:Nat->Prop} {w:ym} {hp:Hp} {ct:Nat}
def dz (m m':Mp):Prop:=∀id p,m id=some p->m' id=some p
def dz.refl {m:Mp}:dz m m:=fun _ _ h=>h
def dz.trans {m m' LX:Mp} (h:dz m m') (k:dz m' LX):dz m LX:=fun id p hp=>k id p (h id p hp)
def jO {i:Nat} (h:m i=none) {p:Pl}:dz m (fS m i p):=by
 intro id q hq;rw [eG]
 ·grind
 ·grind
def BC {tm:Env} {tmps:Array yj} {m':Mp} {S':Nat->Prop} {w':ym} (hm:∀id p,m id=some p->m' id=some p) (hS:∀b,S b->S' b) (hw:fZ S w w')
  (h:cf O m S w tm tmps):cf O m' S' w' tm tmps:=fun i=>mv hm hS hw _ _ (h i)
def alloc_old {o:tH} {b:Nat} (hb:b<w.heap.size):(w.alloc o).heap[b]? =w.heap[b]? :=RowKit.Below.heap_alloc w o b hb
def sD {m':Mp} {S':Nat->Prop} {w':ym} {id:Nat} {o:Obj} (hm:∀id p,m id=some p->m' id=some p) (hS:∀b,S b->S' b) (hw:fZ S w w') (hb:∀p,m id=some p->w'.heap[p.b]? =w.heap[p.b]?)
  (hn:∀p,m id=some p->S' p.b->S p.b) (h:fH O m S w id o):fH O m' S' w' id o:=by
 have rowAt:∀(cs:List AV) (b k:Nat),w'.heap[b]? =w.heap[b]? ->bR O.ae m S w cs b k->bR O.ae m' S' w' cs b k:=by
  intro cs
  induction cs with
  | nil=>intro b k _ _;simp only [bR]
  | cons c cs ih=>
   intro b k zA hr;obtain ⟨⟨u,h1,h2⟩,h3⟩:=hr;exact ⟨⟨u,(Nk zA).trans h1,mv hm hS hw _ _ h2⟩,ih b (k+1) zA h3⟩
 cases o with
 | cells rw pu ex sz cs=>
  obtain ⟨p,arr,t,h1,h2,h3,h4,h5,h6,h7,h8,h9,jl⟩:=h;exact ⟨p,arr,t,hm _ _ h1,(hb p h1).trans h2,h3,h4,h5,h6,rowAt cs p.b p.o (hb p h1) h7,h8,fun hr hs=>h9 hr (hn p h1 hs),fun hr=>hS _ (jl hr)⟩
 | mp rw ks vs=>
  obtain ⟨p,es,clock,h1,h2,h3,h4,h5,h6⟩:=h;exact ⟨p,es,clock,hm _ _ h1,(hb p h1).trans h2,iv hm hS hw _ _ h3,iv hm hS hw _ _ h4,fun hr hs=>h5 hr (hn p h1 hs),fun hr=>hS _ (h6 hr)⟩
 | si s pos=>
  obtain ⟨p,t,h1,h2,h3,h4⟩:=h;exact ⟨p,t,hm _ _ h1,(hb p h1).trans h2,h3,fun hs=>h4 (hn p h1 hs)⟩
 | lp tm ps cT body st pe=>
  obtain ⟨p,l,hi,h1,h2,h3,h4,h5,h6,h7,h8⟩:=h;exact ⟨p,l,hi,hm _ _ h1,(hb p h1).trans h2,fun hs=>h3 (hn p h1 hs),h4,h5,h6,BC hm hS hw h7,h8⟩
def fX {id i:Nat} {o:Obj}:ao ((id,o)::hp) i=if id=i then some o else ao hp i:=by
 simp only [ao]
 simp_all
def IY (hh:aV O m S w hp ct) (g:tH):fZ S w (w.alloc g):=fun b hb=>alloc_old (hh.slt b hb)
def jF:Obj->Obj->Prop
 | .cells rw pu ex sz cs,o'=>∃bS,o'= .cells bS pu ex sz cs/\(bS=true->rw=true)
 | .mp rw ks vs,o'=>∃bS,o'= .mp bS ks vs/\(bS=true->rw=true)
 | .si s pos,o'=>o'= .si s pos
 | .lp tm ps cT body st pe,o'=>o'= .lp tm ps cT body st pe
def jF.refl:∀o,jF o o
 | .cells rw _ _ _ _=>⟨rw,rfl,fun h=>h⟩
 | .mp rw _ _=>⟨rw,rfl,fun h=>h⟩
 | .si _ _=>rfl
 | .lp _ _ _ _ _ _=>rfl
def jF.trans {a b c:Obj} (h:jF a b) (k:jF b c):jF a c:=by
 cases a with
 | cells rw pu ex sz cs=>
  obtain ⟨r1,rfl,h1⟩:=h;obtain ⟨r2,rfl,h2⟩:=k;exact ⟨r2,rfl,fun h=>h1 (h2 h)⟩
 | mp rw ks vs=>
  obtain ⟨r1,rfl,h1⟩:=h;obtain ⟨r2,rfl,h2⟩:=k;exact ⟨r2,rfl,fun h=>h1 (h2 h)⟩
 | si s pos=>simp only [jF] at h;subst h;exact k
 | lp tm ps cT body st pe=>simp only [jF] at h;subst h;exact k
def df (hp ah:Hp):Prop:=∀id o,ao hp id=some o->∃o',ao ah id=some o'/\jF o o'
def df.refl {hp:Hp}:df hp hp:=fun _ o h=>⟨o,h,jF.refl o⟩
def df.trans {a b c:Hp} (h:df a b) (k:df b c):df a c:=fun id o ho=>
 let ⟨o1,h1,l1⟩:=h id o ho
 let ⟨o2,h2,l2⟩:=k id o1 h1
 ⟨o2,h2,l1.trans l2⟩
def je:Obj->Prop
 | .cells rw _ _ _ _=>rw=false
 | .mp rw _ _=>rw=false
 | _=>False
def ab3 {ah:Hp} {aK:Nat} (hh:aV O m S w hp ct) (hl:df hp ah) (hd:∀id o p,ao ah id=some o->m id=some p->∃o',ao hp id=some o') (eZ:ct<=aK) (ayu:∀id o,ao ah id=some o->id<aK):
  ∃S',aV O m S' w ah aK/\(∀b,S b->S' b)/\∀b,S' b->S b\/eE m hp b:=by
 refine ⟨fun b=>S b\/∃id p o,m id=some p/\p.b=b/\ao ah id=some o/\je o,?_,fun b h=> .inl h,?_⟩
 ·refine ⟨?_,fun id p h=>yV (hh.lt id p h) eZ,?_,?_,hh.blt,hh.low,hh.lj,hh.gH,ayu⟩
  ·intro id o' p kz hm;obtain ⟨o,ho⟩:=hd id o' p kz hm;obtain ⟨W0,h1,h2⟩:=hl id o ho;rw [kz] at h1;injection h1 with h1
   subst h1;have h3:=hh.obj id o p ho hm;have hS:∀b,S b->(S b\/∃id p o,m id=some p/\p.b=b/\ao ah id=some o/\je o):=fun b h=> .inl h
   have jm:∀q,m id=some q->(∃id p o,m id=some p/\p.b=q.b/\ao ah id=some o/\je o)->je o':=by
    rintro q hq ⟨j,pj,oj,W1,hj2,hj3,hj4⟩;obtain ⟨L2,hj5⟩:=hd j oj pj hj3 W1
    have:=hh.inj id j o L2 q pj ho hj5 hq W1 hj2.symm
    grind
   have aJ:fZ S w w:=fun _ _=>rfl
   cases o with
   | cells rw pu ex sz cs=>
    obtain ⟨bS,rfl,r7⟩:=h2;obtain ⟨q,arr,t,h1,h2,h3,h4,h5,h6,h7,h8,h9,jl⟩:=h3;refine ⟨q,arr,t,h1,h2,h3,h4,h5,h6,?_,h8,?_,?_⟩
    ·clear h4 h6 h8;revert h7;generalize q.o=k
     induction cs generalizing k with
     | nil=>intro _;simp only [bR]
     | cons c cs ih=>
      intro hr;simp only [bR] at hr ⊢;obtain ⟨⟨u,g1,g2⟩,g3⟩:=hr
      exact ⟨⟨u,g1,mv (fun _ _ h=>h) hS aJ _ _ g2⟩,by
       have gN:∀(cs:List AV) (b k:Nat),bR O.ae m S w cs b k->bR O.ae m (fun b=>S b\/∃id p o,m id=some p/\p.b=b/\ao ah id=some o/\je o) w cs b k:=by
        intro cs
        induction cs with
        | nil=>intro b k _;simp only [bR]
        | cons c cs ih=>
         intro b k hr;simp only [bR] at hr ⊢;obtain ⟨⟨u,g1,g2⟩,g3⟩:=hr;exact ⟨⟨u,g1,mv (fun _ _ h=>h) hS aJ _ _ g2⟩,ih b (k+1) g3⟩
       exact gN _ _ _ g3⟩
    ·rintro hr (hs | hs)
     ·grind
     ·have:=jm q h1 hs
      simp only [je] at this
      grind
    ·intro hr;exact .inr ⟨id,q,_,h1,rfl,kz,hr⟩
   | mp rw ks vs=>
    obtain ⟨bS,rfl,r7⟩:=h2;obtain ⟨q,es,clock,h1,h2,h3,h4,h5,h6⟩:=h3;refine ⟨q,es,clock,h1,h2,iv (fun _ _ h=>h) hS aJ _ _ h3,iv (fun _ _ h=>h) hS aJ _ _ h4,?_,?_⟩
    ·rintro hr (hs | hs)
     ·grind
     ·have:=jm q h1 hs
      simp only [je] at this
      grind
    ·intro hr;exact .inr ⟨id,q,_,h1,rfl,kz,hr⟩
   | si s pos=>
    simp only [jF] at h2;subst h2;refine sD (fun _ _ h=>h) hS aJ (fun _ _=>rfl) (fun q hq hs=>?_) h3;rcases hs with hs | hs
    ·grind
    ·exact (jm q hq hs).elim
   | lp tm ps cT body st pe=>
    simp only [jF] at h2;subst h2;refine sD (fun _ _ h=>h) hS aJ (fun _ _=>rfl) (fun q hq hs=>?_) h3;rcases hs with hs | hs
    ·grind
    ·exact (jm q hq hs).elim
  ·intro i j oi oj pi pj hi hj bL gX e;obtain ⟨L3,cB⟩:=hd i oi pi hi bL;obtain ⟨L2,He⟩:=hd j oj pj hj gX;exact hh.inj i j L3 L2 pi pj cB He bL gX e
  ·rintro b (hb | ⟨id,p,o,h1,rfl,_,_⟩)
   ·exact hh.slt b hb
   ·exact hh.blt id p h1
 ·rintro b (hb | ⟨id,p,o,h1,rfl,h3,_⟩)
  ·exact .inl hb
  ·obtain ⟨o',kz⟩:=hd id o p h3 h1;exact .inr ⟨id,o',p,kz,h1,rfl⟩
def SV {i:Nat} (hh:aV O m S w hp ct) (hi:m i=none) (zB:i<ct) {g:tH} {p:Pl} (hb:p.b=w.heap.size)
  (hf:∀o,ao hp i=some o->(fH O (fS m i p) S (w.alloc g) i o/\¬je o)\/
   (je o/\fH O (fS m i p) (fun b=>S b\/b=w.heap.size) (w.alloc g) i o)):
  ∃S',aV O (fS m i p) S' (w.alloc g) hp ct/\(∀b,S b->S' b)/\∀b,S' b->S b\/b=w.heap.size:=by
 have fg:(w.alloc g).heap.size=w.heap.size+1:=by simp
 have bj:O.w0.heap.size<=w.heap.size:=hh.gH;have gen:∀S':Nat->Prop,(∀b,S b->S' b)->(∀b,S' b->S b\/b=w.heap.size)->(∀o,ao hp i=some o->fH O (fS m i p) S' (w.alloc g) i o)->aV O (fS m i p) S' (w.alloc g) hp ct:=by
  intro S' h1 h2 h3;have L4:∀id q,m id=some q->¬q.b=w.heap.size:=fun id q hq=>by have:=hh.blt id q hq;omega
  refine ⟨?_,?_,?_,?_,?_,?_,?_,?_,hh.aU⟩
  ·intro id o q ho hm;by_cases hc:id=i
   ·grind
   ·rw [eG hc] at hm;refine sD (jO hi) h1 (IY hh g) (fun q' bI=>alloc_old (hh.blt id q' bI)) (fun q' bI hs=>?_) (hh.obj id o q ho hm)
    grind
  ·intro id q hm;by_cases hc:id=i
   ·grind
   ·rw [eG hc] at hm;exact hh.lt id q hm
  ·intro a b oa ob pa pb ha cA Ey AJ e;by_cases ca:a=i
   ·by_cases cb:b=i
    ·grind
    ·subst ca;rw [dW] at Ey;rw [eG cb] at AJ
     grind
   ·rw [eG ca] at Ey;by_cases cb:b=i
    ·subst cb;rw [dW] at AJ
     grind
    ·rw [eG cb] at AJ;exact hh.inj a b oa ob pa pb ha cA Ey AJ e
  ·intro b hs;rcases h2 b hs with h | h
   ·have:=hh.slt b h;omega
   ·omega
  ·intro id q hm;by_cases hc:id=i
   ·subst hc;rw [dW] at hm
    grind
   ·rw [eG hc] at hm
    have:=hh.blt id q hm
    omega
  ·intro id q hm;by_cases hc:id=i
   ·subst hc;rw [dW] at hm
    grind
   ·rw [eG hc] at hm;exact hh.low id q hm
  ·intro b zA;exact (alloc_old (by omega)).trans (hh.lj b zA)
  ·omega
 cases ho:ao hp i with
 | none=>exact ⟨S,gen S (fun _ h=>h) (fun _ h=> .inl h) (fun o h=>by rw [ho] at h;cases h),fun _ h=>h,fun _ h=> .inl h⟩
 | some o=>
  rcases hf o ho with ⟨h1,_⟩ | ⟨_,h1⟩
  ·exact ⟨S,gen S (fun _ h=>h) (fun _ h=> .inl h) (fun o' h=>by rw [ho] at h;injection h with h;subst h;exact h1),fun _ h=>h,fun _ h=> .inl h⟩
  ·exact ⟨_,gen (fun b=>S b\/b=w.heap.size) (fun _ h=> .inl h) (fun _ h=>h) (fun o' h=>by rw [ho] at h;injection h with h;subst h;exact h1),fun _ h=> .inl h,fun _ h=>h⟩
def R4 {id:Nat} {o o':Obj} {p:Pl} (hl:jF o o') (hm:m id=some p) (h:fH O m S w id o) (hn:¬je o):
  (fH O m S w id o'/\¬je o')\/(je o'/\fH O m (fun b=>S b\/b=p.b) w id o'):=by
 have hS:∀b,S b->(S b\/b=p.b):=fun _ h=> .inl h
 have aJ:fZ S w w:=fun _ _=>rfl
 cases o with
 | cells rw pu ex sz cs=>
  obtain ⟨bS,rfl,r7⟩:=hl
  cases bS with
  | true=>
   grind
  | false=>
   refine .inr ⟨rfl,?_⟩;obtain ⟨q,arr,t,h1,h2,h3,h4,h5,h6,h7,h8,h9,jl⟩:=h;rw [hm] at h1;injection h1 with h1
   subst h1;have gN:∀(cs:List AV) (b k:Nat),bR O.ae m S w cs b k->bR O.ae m (fun b=>S b\/b=p.b) w cs b k:=by
    intro cs
    induction cs with
    | nil=>intro b k _;simp only [bR]
    | cons c cs ih=>
     intro b k hr;obtain ⟨⟨u,g1,g2⟩,g3⟩:=hr;exact ⟨⟨u,g1,mv (fun _ _ h=>h) hS aJ _ _ g2⟩,ih b (k+1) g3⟩
   exact ⟨p,arr,t,hm,h2,h3,h4,h5,h6,gN _ _ _ h7,h8,by simp,fun _=> .inr rfl⟩
 | mp rw ks vs=>
  obtain ⟨bS,rfl,r7⟩:=hl
  cases bS with
  | true=>
   grind
  | false=>
   refine .inr ⟨rfl,?_⟩;obtain ⟨q,es,clock,h1,h2,h3,h4,h5,h6⟩:=h;rw [hm] at h1;injection h1 with h1
   subst h1;exact ⟨p,es,clock,hm,h2,iv (fun _ _ h=>h) hS aJ _ _ h3,iv (fun _ _ h=>h) hS aJ _ _ h4,by simp,fun _=> .inr rfl⟩
 | si s pos=>simp only [jF] at hl;subst hl;exact .inl ⟨h,hn⟩
 | lp tm ps cT body st pe=>simp only [jF] at hl;subst hl;exact .inl ⟨h,hn⟩
end
end
section
open Go
section
variable {O:bl} {H:Hint} {m:Mp} {S:Nat->Prop} {w:ym} {tm:Env} {a:Act} {hp:Hp} {ct cq:Nat}
def NI {ae:Nat->Nat} {b:Nat} {arr:Array yj} {t:yH} {fr:Nat×Nat} (hb:w.heap[b]? =some (.cells arr t fr)):∀(cs:List AV) (us:List yj) (o:Nat),
  aA ae m S w cs us->(∀(j:Nat) (u:yj),us[j]? =some u->arr[o+j]? =some u)->bR ae m S w cs b o
 | [],us,o,_,_=>by simp only [bR]
 | c::cs,us,o,h,hu=>by
  simp only [aA] at h;obtain ⟨u,r,rfl,h2,h3⟩:=h;simp only [bR];refine ⟨⟨u,?_,h2⟩,NI hb cs r (o+1) h3 (fun j v hv=>?_)⟩
  ·have:=hu 0 u (by simp)
   simpa [World.cell?,hb] using this
  ·have:=hu (j+1) v (by simpa using hv)
   rw [show o+1+j=o+(j+1) by omega];exact this
def aq9 (hh:aV O m S w hp cq) {i:Nat} {arr:Array yj} {t:yH} {cs:List AV} {us:List yj} {pu ex:Bool} {sz:Nat} (hr:aA O.ae m S w cs us)
  (hu:∀(j:Nat) (u:yj),us[j]? =some u->arr[j]? =some u) (hl:cs.length<=arr.size) (hex:ex=true->cs.length=arr.size) (iF:pu=true->aH cs=true)
  (m':Mp) (hm:dz m m') (hi:m' i=some ⟨w.heap.size,0,arr.size,sz⟩):fH O m' S (w.alloc (.cells arr t)) i (.cells true pu ex sz cs):=by
 refine ⟨⟨w.heap.size,0,arr.size,sz⟩,arr,t,hi,heap_alloc_new w _,rfl,hl,by simp,hex,?_,iF,?_,by simp⟩
 ·exact NI (heap_alloc_new w _) cs us 0 (iv hm (fun _ h=>h) (IY hh _) _ _ hr) (by simpa using hu)
 ·intro _ hS
  have:=hh.slt _ hS
  simp at this
def D2 (O:bl) (m:Mp) (S:Nat->Prop) (w:ym) (a:Act) (ct:Nat) (o:yZ) (v:AV) (b:Obj):Prop:=
 ∃u g p,(execOp a.eval o).run O.P w= .ok (.value u) (w.alloc g)/\p.b=w.heap.size/\¬je b/\
  ∀m',dz m m'->m' ct=some p->fH O m' S (w.alloc g) ct b/\ai O.ae m' S (w.alloc g) v u
def Su {o:yZ} {arr:Array yj} {t:yH} {cs:List AV} {us:List yj} {pu ex:Bool} {sz:Nat} {v:AV} {u:yj} (hh:aV O m S w hp cq)
  (he:(execOp a.eval o).run O.P w= .ok (.value u) (w.alloc (.cells arr t))) (hr:aA O.ae m S w cs us)
  (hu:∀(j:Nat) (u:yj),us[j]? =some u->arr[j]? =some u) (hl:cs.length<=arr.size) (hex:ex=true->cs.length=arr.size) (iF:pu=true->aH cs=true)
  (hv:∀m':Mp,m' ct=some ⟨w.heap.size,0,arr.size,sz⟩->ai O.ae m' S (w.alloc (.cells arr t)) v u):D2 O m S w a ct o v (.cells true pu ex sz cs):=
 ⟨u,_,⟨w.heap.size,0,arr.size,sz⟩,he,rfl,by simp [je],fun m' hm hi=>⟨aq9 hh hr hu hl hex iF m' hm hi,hv m' hi⟩⟩
def aaP {o:yZ} {t:yH} {x:yj} {vx v:AV} {b:Obj} {sz:Nat} (hh:aV O m S w hp cq) (he:(execOp a.eval o).run O.P w= .ok (.value (.pointer (some ⟨w.heap.size,0,none⟩))) (w.alloc (.cells x.cells t))) (hx:aA O.ae m S w (cellsOf vx) x.cells.toList)
  (hv:(bif yz (cellsOf vx).length sz&&cw (cellsOf vx) then some (AV.ptr ct 0,Obj.cells true (aH (cellsOf vx)) true sz (cellsOf vx)) else none)=some (v,b)):D2 O m S w a ct o v b:=by
 cases hc:(yz (cellsOf vx).length sz&&cw (cellsOf vx)) with
 | false=>rw [hc] at hv;cases hv
 | true=>
  rw [hc] at hv;obtain ⟨rfl,rfl⟩:=hv;have hlen:=iw _ _ hx;refine Su hh he hx (fun j u hj=>by simpa using hj) (by rw [<-hlen];simp) (fun _=>by rw [<-hlen];simp) (fun h=>h) (fun m' hi=>?_)
  simp only [ai];exact ⟨_,hi,by simp⟩
def aoU {o:yZ} {t:yH} {r:Option xC} (hh:aV O m S w hp cq) (ho:o.op= .makeMap t r) (hr:r=none):D2 O m S w a ct o (.map ct) (.mp true [] []):=by
 subst hr;refine ⟨.map (some w.heap.size),.map #[] 0,⟨w.heap.size,0,0,0⟩,by simp [execOp,ho,Instr.makeMap],rfl,by simp [je],fun m' _ hi=>⟨?_,?_⟩⟩
 ·refine ⟨_,#[],0,hi,heap_alloc_new w _,by simp [aA],by simp [aA],?_,by simp⟩;intro _ hS
  have:=hh.slt _ hS
  simp at this
 ·simp only [ai];exact ⟨_,hi,rfl⟩
def am8 {o:yZ} {t:yH} {x:xC} {s:List Nat} (hh:aV O m S w hp cq) (ho:o.op= .range t x) (hu:O.P.underlying t=some .string) (hx:ai O.ae m S w (.str s) (a.eval x)):
  D2 O m S w a ct o (.it ct) (.si s 0):=by
 obtain ⟨b,e,rfl⟩:=hx;refine ⟨.pointer (some ⟨w.heap.size,0,none⟩),.stringIter b 0,⟨w.heap.size,0,0,0⟩,by simp [execOp,ho,Instr.range,run_underlying hu,e],rfl,by simp [je],fun m' _ hi=>⟨?_,?_⟩⟩
 ·refine ⟨_,b,hi,heap_alloc_new w _,rfl,?_⟩;intro hS
  have:=hh.slt _ hS
  simp at this
 ·simp only [ai];exact ⟨_,hi,rfl⟩
end
def am9 (zero:Array yj):(y5 zero.size).map (fun j=>zero[j]!)=zero.toList:=by
 apply List.ext_getElem
 ·simp
 ·grind
def Y9 (zero:Array yj):∀n:Nat,(y5 (n*zero.size)).map (fun i=>zero[i%zero.size]!)=(yf n zero.toList).flatten
 | 0=>by simp
 | n+1=>by
  rw [wS,Nat.one_mul,List.range_add,List.map_append,Y9 zero n,List.replicate_succ',yaz]
  congr 1
  simp only [List.map_map,vH,List.flatten_nil,List.append_nil];rw [<-am9 zero];apply List.map_congr_left;intro j hj;simp at hj;simp [Function.comp,xO n,Nat.mod_eq_of_lt hj]
def SW {ae:Nat->Nat} {m:Mp} {S:Nat->Prop} {w:ym} {cs:List AV} {us:List yj} (h:aA ae m S w cs us):∀n,aA ae m S w (yf n cs).flatten (yf n us).flatten
 | 0=>by simp [aA]
 | n+1=>by rw [xP,xP,vH,vH];exact mr h (SW h n)
section
variable {O:bl} {H:Hint} {m:Mp} {S:Nat->Prop} {w:ym} {tm:Env} {a:Act} {hp:Hp} {ct cq:Nat}
def ZT (zero:Array yj) (n:Nat):(Array.map (fun i=>zero[i%zero.size]!) (uV (n*zero.size))).toList=(yf n zero.toList).flatten:=by
 rw [<-Y9 zero n]
 simp
def aaQ (tm:Env):∀(ps:List (Nat×Nat×X)) (zero cs:List AV),fill tm zero ps=some cs->cs.length=zero.length
 | [],zero,cs,h=>by simp only [fill,ye] at h;rw [h]
 | (o,sz,x)::r,zero,cs,h=>by
  simp only [fill] at h
  cases hc:(yz (cellsOf (aC tm x)).length sz&&yK (o+sz) zero.length&&cw (cellsOf (aC tm x))) with
  | false=>rw [hc] at h;cases h
  | true=>
   rw [hc] at h;simp only [yi] at hc;have h1:=yt hc.1.1;have h2:=yB hc.1.2;rw [aaQ tm r _ _ h];simp only [over,yG,yI,we];omega
def NZ {α:Type} (l:List α):∀n,(yf n l).flatten.length=n*l.length
 | 0=>by simp
 | n+1=>by simp [xP,NZ l n,wS,Nat.add_comm]
def ana {o:yZ} {t e:yH} {n s:Nat} {z:AV} {parts:Array (Nat×xC)} {ps:List (Nat×Nat×X)} {v:AV} {b:Obj} (hH:fO O H) (ht:cf O m S w tm a.tmps) (hh:aV O m S w hp cq)
  (ho:o.op= .buildSlice t n parts) (hu:O.P.underlying t=some (.slice e)) (hs:cN O.P e=some s) (hz:mC O.P e=some z) (hn:n*s<=16777216)
  (iY:partsOf H (fun i=>some (i*s,s)) parts.toList=some ps)
  (hv:cW tm hp ct (.nl n s (yf n (cellsOf z)).flatten ps)=some (v,b)):D2 O m S w a ct o v b:=by
 simp only [cW] at hv
 cases hf:fill tm (yf n (cellsOf z)).flatten ps with
 | none=>simp [hf] at hv
 | some cs=>
  simp only [hf] at hv
  cases hc:yz cs.length (n*s) with
  | false=>rw [hc] at hv;cases hv
  | true=>
   rw [hc] at hv;simp only [yD,ye,yr] at hv;obtain ⟨rfl,rfl⟩:=hv;have hlen:=yt hc;obtain ⟨zv,jE,rfl⟩:=FF (w:=w) hz;have A7:aA O.ae m S w (cellsOf (eV zv)) zv.cells.toList:=Df zv;have r8:=iw _ _ A7;have CJ:=aaQ tm ps _ _ hf;rw [NZ] at CJ;have Hf:n*s=n*zv.cells.size:=by
    rw [<-hlen,CJ,<-r8];simp
   have key:∃zr:Array yj,(n*s=0->zr=#[])/\(n*s≠0->zr=zv.cells)/\aA O.ae m S w (yf n (cellsOf (eV zv))).flatten ((uV (n*s)).map (fun x=>zr[x%zr.size]!)).toList:=by
    by_cases h0:n*s=0
    ·refine ⟨#[],fun _=>rfl,fun h=>(h h0).elim,?_⟩
     have:(yf n (cellsOf (eV zv))).flatten=[]:=by
      apply yF;rw [NZ,<-r8];simp only [vI];omega
     rw [this];simp [aA,h0]
    ·refine ⟨zv.cells,fun h=>(h0 h).elim,fun _=>rfl,?_⟩;rw [Hf,ZT];exact SW A7 n
   obtain ⟨zr,QD,oE,gY⟩:=key;obtain ⟨out,h1,h2⟩:=Oo hH ht (place:=fun i=>some (i*s,s)) parts.toList ps _ cs _ iY gY hf;have pJ:=iw _ _ h2
   refine Su (arr:=out) (t:=e) (us:=out.toList) hh ?_ h2 (fun j u hj=>by simpa using hj) (by rw [<-pJ];simp) (fun _=>by rw [<-pJ];simp) (fun h=>h) (u:= .slice (some ⟨w.heap.size,0,none⟩) n n) ?_
   ·have gZ:¬(n*s>2^24):=by omega
    by_cases h0:n*s=0
    ·have:=QD h0
     subst this;simp only [h0] at h1;simp [execOp,ho,Instr.buildSlice,run_underlying hu,oR hs,h0,newRow] at h1 ⊢;simp [h1]
    ·have:=oE h0
     subst this;simp [execOp,ho,Instr.buildSlice,run_underlying hu,oR hs,h0,gZ,jE,newRow] at h1 ⊢;simp [h1]
   ·intro m' hi;simp only [ai];refine ⟨_,n,hi,by simp,yq _,?_⟩;simp only [yg];rw [<-hlen,<-pJ];simp
def Dg:∀{a b:List AV},aH a=true->aH b=true->aH (a++b)=true
 | [],_,_,h=>h
 | c::r,b,h,k=>by
  simp only [aH,yi] at h;simp only [xr,aH,yi];exact ⟨h.1,Dg h.2 k⟩
def ZU {z:List AV} (h:aH z=true):∀n,aH (yf n z).flatten=true
 | 0=>by simp [aH]
 | n+1=>by rw [xP,vH];exact Dg h (ZU h n)
def aoV {o:yZ} {t e:yH} {s bX:Nat} {z:AV} {l c:xC} {v:AV} {b:Obj} (hH:fO O H) (ht:cf O m S w tm a.tmps) (hh:aV O m S w hp cq)
  (ho:o.op= .makeSlice t l c) (hu:O.P.underlying t=some (.slice e)) (hs:cN O.P e=some s) (hb:zx O.P e=some bX) (hz:mC O.P e=some z)
  (hv:cW tm hp ct (.pE s bX (cellsOf z) (aP H l) (aP H c))=some (v,b)):D2 O m S w a ct o v b:=by
 simp only [cW] at hv
 cases hl:dI (aC tm (aP H l)) with
 | none=>simp [hl] at hv
 | some ln=>
  cases hc:dI (aC tm (aP H c)) with
  | none=>simp [hl,hc] at hv
  | some cn=>
   simp only [hl,hc] at hv
   cases hk:(yK ln cn&&(yK cn room&&(yK (cn*bX) room&&(yz (cellsOf z).length s&&cw (cellsOf z))))) with
   | false=>rw [hk] at hv;cases hv
   | true=>
    rw [hk] at hv;simp only [yD,ye,yr] at hv;obtain ⟨rfl,rfl⟩:=hv;simp only [yi] at hk;have h1:=yB hk.1;have h2:=yB hk.2.1;have h3:=yB hk.2.2.1;have h4:=yt hk.2.2.2.1;simp only [room] at h2 h3;obtain ⟨kl,el⟩:=Ad (cE hH ht l) hl;obtain ⟨kc,ec⟩:=Ad (cE hH ht c) hc;obtain ⟨zv,jE,rfl⟩:=FF (w:=w) hz;have A7:aA O.ae m S w (cellsOf (eV zv)) zv.cells.toList:=Df zv;have r8:=iw _ _ A7;have Ez:zv.cells.size=s:=by rw [<-h4,<-r8];simp
    have wrapN:∀k:Nat,k<=1099511627776->IntKind.i64.wrap (k:Int)=k:=fun k hk=>IntWalk.i64_in _ (by omega)
    obtain ⟨ti,r9,fg,W2⟩:∃ti,O.P.info? e=some ti/\ti.size=s/\ti.bytes=bX:=by
     unfold cN at hs;unfold zx at hb
     cases hi:O.P.info? e with
     | none=>simp [hi] at hs
     | some ti=>simp only [hi,ye] at hs hb;exact ⟨ti,rfl,hs,hb⟩
    have D8:((uV (cn*s)).map (zv.cells[·%zv.cells.size]!)).toList=(yf ln zv.cells.toList).flatten++(yf (cn-ln) zv.cells.toList).flatten:=by
     rw [<-Ez,ZT,<-yaz,List.replicate_append_replicate]
     grind
    have jk:(yf ln (cellsOf (eV zv))).flatten.length=ln*s:=by rw [NZ,h4]
    have hmul:ln*s<=cn*s:=yS _ h1
    refine Su (arr:=(uV (cn*s)).map (zv.cells[·%zv.cells.size]!)) (t:=e) (us:=(yf ln zv.cells.toList).flatten) hh (u:= .slice (some ⟨w.heap.size,0,none⟩) ln cn) ?_
     (SW A7 ln) ?_ ?_ ?_ (fun h=>?_) ?_
    ·have aEn:bX*cn<=1099511627776:=by rw [xO];exact h3
     have zC:((bX*cn:Nat):Int)<=1099511627776:=by omega
     rw [Int.natCast_mul] at zC;have hlc:(ln:Int)<=(cn:Int):=by omega
     have g1:¬(281474976710656<(bX:Int)*(cn:Int)):=by omega
     have g2:¬(((ln:Int)<0)):=by omega
     have g3:¬(((cn:Int)<0)):=by omega
     have g4:¬((ln:Int)>(cn:Int)):=by omega
     by_cases h0:cn*s=0
     ·simp [execOp,ho,Instr.makeSlice,run_underlying hu,el,ec,asInt,asIntOf,typeInfo,r9,W2,wrapN ln (by omega),wrapN cn h2,g1,g2,g3,g4,oR hs,h0,newRow,askRoom,roomBytes]
      grind
     ·simp [execOp,ho,Instr.makeSlice,run_underlying hu,el,ec,asInt,asIntOf,typeInfo,r9,W2,wrapN ln (by omega),wrapN cn h2,g1,g2,g3,g4,oR hs,h0,newRow,askRoom,roomBytes,jE]
    ·intro j u hj
     have:((uV (cn*s)).map (zv.cells[·%zv.cells.size]!)).toList[j]? =some u:=by
      grind
     grind
    ·grind
    ·simp_all
    ·exact ZU h ln
    ·intro m' hi;simp only [ai];refine ⟨_,cn,hi,by simp,h1,?_⟩
     simp
def ara {o:yZ} {k:Nat} {v:AV} {b:Obj} (hH:fO O H) (ht:cf O m S w tm a.tmps) (hh:aV O m S w hp cq)
  (hv:cW tm hp ct (aX O.P H k o)=some (v,b)):D2 O m S w a ct o v b:=by
 cases ho:o.op with
 | call c=>
  obtain ⟨callee,args,ts⟩:=c;simp only [aX,ho] at hv
  repeat' split at hv
  all_goals first
   | (simp [cW,bad] at hv;done)
   | (revert hv;generalize yz _ _=bb;intro hv;cases bb<;>simp [cW,bad] at hv)
 | alloc t=>
  simp only [aX,ho] at hv
  split at hv
  ·rename_i s z hs hz;obtain ⟨zv,jE,rfl⟩:=FF (w:=w) hz
   exact aaP (x:=zv) (t:=t) hh (by simp [execOp,ho,Instr.alloc,jE,newVar,newRow]) (Df zv) (by simpa only [cW,aC] using hv)
  ·simp [cW,bad] at hv
 | box t x=>
  simp only [aX,ho] at hv
  split at hv
  ·rename_i s hs;simp only [cW] at hv
   cases hc:(yz (cellsOf (aC tm (aP H x))).length s&&cw (cellsOf (aC tm (aP H x)))) with
   | false=>rw [hc] at hv;cases hv
   | true=>
    have h1:=hc;simp only [yi] at h1
    exact aaP (x:=a.eval x) (t:=t) hh (by simp [execOp,ho,Instr.box,newVar,newRow]) (Ss (cE hH ht x) h1.2) hv
  ·simp [cW,bad] at hv
 | buildSlice t n parts=>
  simp only [aX,ho] at hv
  split at hv
  ·rename_i e hu
   split at hv
   ·rename_i s z hs hz
    cases hc:yK (n*s) 16777216 with
    | false=>rw [hc] at hv;simp [cW,bad] at hv
    | true=>
     rw [hc] at hv;simp only [yD] at hv
     split at hv
     ·rename_i ps iY;exact ana hH ht hh ho hu hs hz (yB hc) iY hv
     ·simp [cW,bad] at hv
   ·simp [cW,bad] at hv
  ·simp [cW,bad] at hv
 | makeSlice t l c=>
  simp only [aX,ho] at hv
  split at hv
  ·rename_i e hu
   split at hv
   ·rename_i s bX z hs hb hz
    exact aoV hH ht hh ho hu hs hb hz hv
   ·simp [cW,bad] at hv
  ·simp [cW,bad] at hv
 | makeMap t r=>
  cases r with
  | some x=>simp [aX,ho,cW,bad] at hv
  | none=>
   simp only [aX,ho] at hv
   repeat' split at hv
   all_goals first
    | (simp [cW,bad] at hv;done)
    | (
      simp only [cW,ye,yr] at hv;obtain ⟨rfl,rfl⟩:=hv
      exact aoU hh ho rfl)
 | range t x=>
  simp only [aX,ho] at hv
  split at hv
  ·rename_i hu;simp only [cW] at hv;have rx:=cE hH ht x;cases hx:aC tm (aP H x)<;>rw [hx] at hv rx<;>simp only [reduceCtorEq] at hv
   simp only [ye,yr] at hv;obtain ⟨rfl,rfl⟩:=hv;exact am8 hh ho hu rx
  ·simp [cW,bad] at hv
 | next x b=>cases b<;>simp [aX,ho,cW,bad] at hv
 | binOp op t x y ty=>
  cases op<;>simp only [aX,ho,oY,qj] at hv
  case eql=>
        repeat' split at hv
        all_goals first
         | (simp [cW,bad] at hv;done)
         | (cases hb:(O.P.stoodInHeld t||O.P.eqGuardType O.P.depth t)<;>rw [hb] at hv<;>simp [cW,bad] at hv)
  case neq=>
        repeat' split at hv
        all_goals first
         | (simp [cW,bad] at hv;done)
         | (cases hb:(O.P.stoodInHeld t||O.P.eqGuardType O.P.depth t)<;>rw [hb] at hv<;>simp [cW,bad] at hv)
  all_goals simp [cW] at hv
 | _=>
  simp only [aX,ho] at hv
  (repeat' split at hv)
  all_goals first
   | contradiction
   | (simp [cW,bad] at hv;done)
end
end
section
open Go
def sE {hp:Hp} {id i:Nat} {o:Obj}:ao (aT hp id o) i=if id=i then (if (ao hp id).isSome then some o else none) else ao hp i:=by
 induction hp with
 | nil=>simp [aT,ao]
 | cons x r ih=>
  obtain ⟨j,q⟩:=x;simp only [aT];by_cases hj:j=id
  ·subst hj;simp only [ve,yD,ao];by_cases hi:j=i
   ·simp_all
   ·have:yz j i=false:=by
     cases hq:yz j i with
     | false=>rfl
     | true=>exact absurd (yt hq) hi
    grind
  ·have hb:yz j id=false:=by
    cases hq:yz j id with
    | false=>rfl
    | true=>exact absurd (yt hq) hj
   simp only [hb,yW];rw [show ao ((j,q)::aT r id o) i=bif yz j i then some q else ao (aT r id o) i from rfl,ih];by_cases hi:j=i
   ·subst hi
    have:¬id=j:=fun h=>hj h.symm
    simp [ve,this,ao]
   ·have zC:yz j i=false:=by
     cases hq:yz j i with
     | false=>rfl
     | true=>exact absurd (yt hq) hi
    simp [zC,ao,hb]
def kO (hp ah:Hp):Prop:=∀id,(ao ah id).isSome=(ao hp id).isSome
def kO.refl {hp:Hp}:kO hp hp:=fun _=>rfl
def kO.trans {a b c:Hp} (h:kO a b) (k:kO b c):kO a c:=fun id=>(k id).trans (h id)
def Tz {hp:Hp} {id:Nat} {o o':Obj} (h:ao hp id=some o) (hl:jF o o'):df hp (aT hp id o')/\kO hp (aT hp id o'):=by
 constructor
 ·intro i q hq;rw [sE];by_cases hi:id=i
  ·grind
  ·exact ⟨q,by simp [hi,hq],jF.refl q⟩
 ·intro i;rw [sE]
  grind
def ZV {hp H:Hp} {id:Nat} {pu ex:Bool} {sz:Nat} {cs:List AV} (hl:df hp H) (h:ao hp id=some (.cells false pu ex sz cs)):ao H id=some (.cells false pu ex sz cs):=by
 obtain ⟨o',h1,bS,rfl,h2⟩:=hl id _ h
 cases bS with
 | false=>exact h1
 | true=>exact absurd (h2 rfl) (by simp)
section
variable {O:bl}
def awA (O:bl) (m:Mp) (S:Nat->Prop) (w:ym) (p:Pl) (ex:Bool) (sz:Nat) (cs:List AV):Prop:=
 p.z=sz/\cs.length<=p.e/\(ex=true->cs.length=p.e)/\S p.b/\aH cs=true/\bR O.ae m S w cs p.b p.o
def Vo (O:bl) (ah:Hp) (v v':AV):Prop:=∀H m S w ct,df ah H->aV O m S w H ct->(∀u,ai O.ae m S w v u->ai O.ae m S w v' u)/\a7 v'=true
def ahp (O:bl) (ah:Hp) (vs eD:List AV):Prop:=∀H m S w ct,df ah H->aV O m S w H ct->(∀us,aA O.ae m S w vs us->aA O.ae m S w eD us)/\aH eD=true
def ayv (O:bl) (ah:Hp) (id:Nat) (ex:Bool) (sz:Nat) (cs:List AV):Prop:=∀H m S w ct,df ah H->aV O m S w H ct->∀p,m id=some p->awA O m S w p ex sz cs
def Fy {ae:Nat->Nat} {m:Mp} {S:Nat->Prop} {w:ym} {b:Nat}:∀(cs:List AV) (us:List yj) (o:Nat),aA ae m S w cs us->
  (∀(j:Nat) (u:yj),us[j]? =some u->w.cell? ⟨b,o+j,none⟩=some u)->bR ae m S w cs b o
 | [],us,o,_,_=>by simp only [bR]
 | c::cs,us,o,h,hu=>by
  obtain ⟨u,r,rfl,h2,h3⟩:=h;refine ⟨⟨u,by simpa using hu 0 u (by simp),h2⟩,Fy cs r (o+1) h3 (fun j v hv=>?_)⟩;rw [show o+1+j=o+(j+1) by omega]
  simp_all
def awB {m:Mp} {S:Nat->Prop} {w:ym} {cs dL:List AV} (h:∀us,aA O.ae m S w cs us->aA O.ae m S w dL us) {b o:Nat} (hr:bR O.ae m S w cs b o):bR O.ae m S w dL b o:=by
 obtain ⟨us,h1,_,h3⟩:=sC cs b o hr;exact Fy dL us o (h us h1) h3
def Bv:∀(k:Nat) {cs:List AV},aH cs=true->aH (cs.take k)=true
 | 0,_,_=>by simp [aH]
 | k+1,[],_=>by simp [aH]
 | k+1,c::cs,h=>by
  simp only [aH,yi,wI] at h ⊢;exact ⟨h.1,Bv k h.2⟩
def aoW {ah:Hp} {vs eD:List AV}:∀{n:Nat} {hp:Hp},cD n hp vs=some (eD,ah)->eD.length=vs.length:=by
 intro n
 induction n generalizing vs eD ah with
 | zero=>intro hp h;simp [cD] at h
 | succ n ih=>
  intro hp h
  cases vs with
  | nil=>simp only [cD,ye,yr] at h;rw [<-h.1]
  | cons v r=>
   simp only [cD] at h
   cases h1:freeze n hp v with
   | none=>simp [h1] at h
   | some q=>
    obtain ⟨v',a6⟩:=q;simp only [h1] at h
    cases h2:cD n a6 r with
    | none=>simp [h2] at h
    | some q2=>
     grind
def Za:∀n:Nat,
  (∀hp v v' ah,freeze n hp v=some (v',ah)->df hp ah/\kO hp ah/\Vo O ah v v')/\
  (∀hp id ex sz cs ah,nT n hp id=some (ex,sz,cs,ah)->df hp ah/\kO hp ah/\ayv O ah id ex sz cs)/\
  (∀hp vs eD ah,cD n hp vs=some (eD,ah)->df hp ah/\kO hp ah/\ahp O ah vs eD):=by
 intro n
 induction n with
 | zero=>refine ⟨?_,?_,?_⟩<;>intros<;>simp_all [freeze,nT,cD]
 | succ n ih=>
  obtain ⟨ihV,ihB,Hg⟩:=ih;refine ⟨?_,?_,?_⟩
  ·intro hp v v' ah h;have plain:∀{v v':AV} {hp ah:Hp},(bif a7 v then some (v,hp) else none)=some (v',ah)->df hp ah/\kO hp ah/\Vo O ah v v':=by
    intro v v' hp ah h
    cases hc:a7 v with
    | false=>rw [hc] at h;cases h
    | true=>
     rw [hc] at h;simp only [yD,ye,yr] at h;obtain ⟨rfl,rfl⟩:=h;exact ⟨df.refl,kO.refl,fun _ _ _ _ _ _ _=>⟨fun _ h=>h,hc⟩⟩
   cases v<;>simp only [freeze] at h<;>first | exact plain h | skip
   case ak id o k=>
    cases hb:nT n hp id with
    | none=>simp [hb] at h
    | some q=>
     obtain ⟨ex,sz,cs,a6⟩:=q;simp only [hb] at h
     cases hc:yK (o+k*sz) cs.length with
     | false=>rw [hc] at h;cases h
     | true=>
      rw [hc] at h;simp only [yD,ye,yr] at h;obtain ⟨rfl,rfl⟩:=h;have hle:=yB hc;obtain ⟨h1,h2,h3⟩:=ihB _ _ _ _ _ _ hb;refine ⟨h1,h2,fun H m S w ct hl hh=>⟨fun u hu=>?_,by simp only [a7]⟩⟩;simp only [ai] at hu ⊢;obtain ⟨p,c,hm,rfl,jT,QB⟩:=hu;obtain ⟨g1,g2,g3,g4,g5,g6⟩:=h3 H m S w ct hl hh p hm;refine .inl ⟨p.b,p.o+o,c,rfl,jT,?_,.inr g4,Bv _ (zW _ _ g5),By _ _ _ _ (rE _ _ _ _ g6)⟩;intro hx;simp only [yi] at hx;have e1:=yt hx.2;have e2:0<sz:=by
       simp_all
      have e3:=g3 hx.1.1;rw [g1] at QB
      have:c*sz=k*sz:=by omega
      exact Nat.eq_of_mul_eq_mul_right e2 this
   case ptr id o=>
    cases hb:nT n hp id with
    | none=>simp [hb] at h
    | some q=>
     obtain ⟨ex,sz,cs,a6⟩:=q;simp only [hb,ye,yr] at h;obtain ⟨rfl,rfl⟩:=h;obtain ⟨h1,h2,h3⟩:=ihB _ _ _ _ _ _ hb;refine ⟨h1,h2,fun H m S w ct hl hh=>⟨fun u hu=>?_,by simp only [a7]⟩⟩;simp only [ai] at hu ⊢;obtain ⟨p,hm,rfl⟩:=hu;obtain ⟨g1,g2,g3,g4,g5,g6⟩:=h3 H m S w ct hl hh p hm;exact ⟨p.b,p.o+o,rfl,.inr g4,zW _ _ g5,rE _ _ _ _ g6⟩
   case map id=>
    cases hg:ao hp id with
    | none=>simp [hg] at h
    | some ob=>
     cases ob<;>simp only [hg,reduceCtorEq] at h
     rename_i rw ks vs
     cases hc:(aH ks&&aH vs) with
     | false=>rw [hc] at h;cases h
     | true=>
      rw [hc] at h;simp only [yD,ye,yr] at h;obtain ⟨rfl,rfl⟩:=h;simp only [yi] at hc;obtain ⟨h1,h2⟩:=Tz hg (o':= .mp false ks vs) ⟨false,rfl,by simp⟩;refine ⟨h1,h2,fun H m S w ct hl hh=>⟨fun u hu=>?_,by simp only [a7]⟩⟩;simp only [ai] at hu ⊢;obtain ⟨p,hm,rfl⟩:=hu;have hq:ao (aT hp id (.mp false ks vs)) id=some (.mp false ks vs):=by rw [sE];simp [hg]
      obtain ⟨o',h3,bS,rfl,h4⟩:=hl id _ hq;have r7:bS=false:=by cases bS with | false=>rfl | true=>exact absurd (h4 rfl) (by simp)
      subst r7;obtain ⟨p',es,clock,g1,g2,g3,g4,g5,g6⟩:=hh.obj id _ _ h3 hm;rw [hm] at g1;injection g1 with g1
      subst g1;exact ⟨p.b,es,clock,rfl,g6 rfl,hc.1,hc.2,g2,g3,g4⟩
   case fn f first cap=>
    cases f with
    | y l=>simp only [a7,yW,reduceCtorEq] at h
    | f g=>
     simp only at h
     cases h1:cD n hp first with
     | none=>simp [h1] at h
     | some q=>
      obtain ⟨adg,a6⟩:=q;simp only [h1] at h
      cases h2:cD n a6 cap with
      | none=>simp [h2] at h
      | some q2=>
       obtain ⟨PE,fD⟩:=q2;simp only [h2,ye,yr] at h;obtain ⟨rfl,rfl⟩:=h;obtain ⟨a1,a2,a3⟩:=Hg _ _ _ _ h1;obtain ⟨b1,b2,b3⟩:=Hg _ _ _ _ h2;refine ⟨a1.trans b1,a2.trans b2,fun H m S w ct hl hh=>?_⟩;obtain ⟨c1,c2⟩:=a3 H m S w ct (b1.trans hl) hh;obtain ⟨d1,d2⟩:=b3 H m S w ct hl hh;refine ⟨fun u hu=>?_,by simp [a7,c2,d2]⟩;simp only [ai] at hu ⊢;obtain ⟨fi,ca,rfl,e1,e2⟩:=hu;exact ⟨fi,ca,rfl,c1 _ e1,d1 _ e2⟩
   case agg cs=>
    cases h1:cD n hp cs with
    | none=>simp [h1] at h
    | some q=>
     obtain ⟨dL,a6⟩:=q;simp only [h1,ye,yr] at h;obtain ⟨rfl,rfl⟩:=h;obtain ⟨a1,a2,a3⟩:=Hg _ _ _ _ h1;refine ⟨a1,a2,fun H m S w ct hl hh=>?_⟩;obtain ⟨c1,c2⟩:=a3 H m S w ct hl hh;refine ⟨fun u hu=>?_,by simpa [a7] using c2⟩;simp only [ai] at hu ⊢;obtain ⟨xs,rfl,e1⟩:=hu;exact ⟨xs,rfl,c1 _ e1⟩
   case az cs=>
    cases h1:cD n hp cs with
    | none=>simp [h1] at h
    | some q=>
     obtain ⟨dL,a6⟩:=q;simp only [h1,ye,yr] at h;obtain ⟨rfl,rfl⟩:=h;obtain ⟨a1,a2,a3⟩:=Hg _ _ _ _ h1;refine ⟨a1,a2,fun H m S w ct hl hh=>?_⟩;obtain ⟨c1,c2⟩:=a3 H m S w ct hl hh;refine ⟨fun u hu=>?_,by simpa [a7] using c2⟩;simp only [ai] at hu ⊢;obtain ⟨xs,rfl,e1⟩:=hu;exact ⟨xs,rfl,c1 _ e1⟩
  ·intro hp id ex sz dL ah h;simp only [nT] at h
   cases hg:ao hp id with
   | none=>simp [hg] at h
   | some ob=>
    cases ob<;>simp only [hg,reduceCtorEq] at h
    rename_i rw pu zy CK cs
    cases pu with
    | true=>
     simp only [yD,ye,yr] at h;obtain ⟨rfl,rfl,rfl,rfl⟩:=h;have hq:df hp (bif rw then aT hp id (.cells false true zy CK cs) else hp)/\kO hp (bif rw then aT hp id (.cells false true zy CK cs) else hp)/\ao (bif rw then aT hp id (.cells false true zy CK cs) else hp) id=some (.cells false true zy CK cs):=by
      cases rw with
      | true=>
       obtain ⟨h1,h2⟩:=Tz hg (o':= .cells false true zy CK cs) ⟨false,rfl,by simp⟩;exact ⟨h1,h2,by simp [sE,hg]⟩
      | false=>exact ⟨df.refl,kO.refl,hg⟩
     refine ⟨hq.1,hq.2.1,fun H m S w ct hl hh p hm=>?_⟩;obtain ⟨p',arr,t,g1,g2,g3,g4,g5,g6,g7,g8,g9,g10⟩:=hh.obj id _ _ (ZV hl hq.2.2) hm;rw [hm] at g1;injection g1 with g1
     subst g1;exact ⟨g3,g4,g6,g10 rfl,g8 rfl,g7⟩
    | false=>
     simp only [yW] at h
     cases h1:cD n hp cs with
     | none=>simp [h1] at h
     | some q=>
      obtain ⟨zD,a6⟩:=q;simp only [h1,ye,yr] at h;obtain ⟨rfl,rfl,rfl,rfl⟩:=h;obtain ⟨a1,a2,a3⟩:=Hg _ _ _ _ h1;obtain ⟨o1,iZ,rw1,rfl,_⟩:=a1 id _ hg;obtain ⟨b1,b2⟩:=Tz iZ (o':= .cells false false zy CK cs) ⟨false,rfl,by simp⟩;refine ⟨a1.trans b1,a2.trans b2,fun H m S w ct hl hh p hm=>?_⟩;have hq:ao (aT a6 id (.cells false false zy CK cs)) id=some (.cells false false zy CK cs):=by simp [sE,iZ]
      obtain ⟨p',arr,t,g1,g2,g3,g4,g5,g6,g7,g8,g9,g10⟩:=hh.obj id _ _ (ZV hl hq) hm;rw [hm] at g1;injection g1 with g1
      subst g1;obtain ⟨c1,c2⟩:=a3 H m S w ct (b1.trans hl) hh;have hlen:=aoW h1
      exact ⟨g3,by omega,fun hx=>by have:=g6 hx;omega,g10 rfl,c2,awB c1 g7⟩
  ·intro hp vs eD ah h
   cases vs with
   | nil=>
    simp only [cD,ye,yr] at h;obtain ⟨rfl,rfl⟩:=h;exact ⟨df.refl,kO.refl,fun _ _ _ _ _ _ _=>⟨fun _ h=>h,rfl⟩⟩
   | cons v r=>
    simp only [cD] at h
    cases h1:freeze n hp v with
    | none=>simp [h1] at h
    | some q=>
     obtain ⟨v1,a6⟩:=q;simp only [h1] at h
     cases h2:cD n a6 r with
     | none=>simp [h2] at h
     | some q2=>
      obtain ⟨r1,fD⟩:=q2;simp only [h2,ye,yr] at h;obtain ⟨rfl,rfl⟩:=h;obtain ⟨a1,a2,a3⟩:=ihV _ _ _ _ h1;obtain ⟨b1,b2,b3⟩:=Hg _ _ _ _ h2;refine ⟨a1.trans b1,a2.trans b2,fun H m S w ct hl hh=>?_⟩;obtain ⟨c1,c2⟩:=a3 H m S w ct (b1.trans hl) hh;obtain ⟨d1,d2⟩:=b3 H m S w ct hl hh;refine ⟨fun us hu=>?_,by simp [aH,c2,d2]⟩;simp only [aA] at hu ⊢;obtain ⟨u,t,rfl,e1,e2⟩:=hu;exact ⟨u,t,rfl,c1 _ e1,d1 _ e2⟩
def Sd {n:Nat} {hp ah:Hp} {vs eD:List AV} (h:cD n hp vs=some (eD,ah)):df hp ah/\kO hp ah/\ahp O ah vs eD:=(Za n).2.2 _ _ _ _ h
def Sv {n:Nat} {hp ah:Hp} {v v':AV} (h:freeze n hp v=some (v',ah)):df hp ah/\kO hp ah/\Vo O ah v v':=(Za n).1 _ _ _ _ h
end
end
section
open Go
section
variable {O:bl} {H:Hint} {m:Mp} {S:Nat->Prop} {w:ym} {tm:Env} {a:Act} {hp:Hp} {ct:Nat}
structure One (w w':ym) (g:Nat):Prop where
 os:w'.os=w.os
 tape:w'.tape=w.tape
 output:w'.output=w.output
 size:w'.heap.size=w.heap.size
 other:∀b,b≠g->w'.heap[b]? =w.heap[b]?
def Se (w:ym) (g:Nat) (cs:Array yj):One w (w.setRow g cs) g:=
 ⟨rfl,rfl,rfl,by simp,fun b hb=>setRow_other w g b cs hb⟩
def JO {id:Nat} {o:Obj} {p:Pl} (h:ao hp id=some o) (hm:m id=some p):eE m hp p.b:=⟨id,o,p,h,hm,rfl⟩
def aoX {id:Nat} {o':Obj} {b:Nat} (h:eE m (aT hp id o') b):eE m hp b:=by
 obtain ⟨i,o,p,h1,h2,h3⟩:=h;rw [sE] at h1;by_cases hi:id=i
 ·subst hi
  cases hq:ao hp id with
  | none=>simp [hq] at h1
  | some q=>exact ⟨id,q,p,hq,h2,h3⟩
 ·simp only [hi,xn] at h1;exact ⟨i,o,p,h1,h2,h3⟩
def Jd (hh:aV O m S w hp ct) {id:Nat} {o o':Obj} {p:Pl} {w':ym} (ho:ao hp id=some o) (hm:m id=some p) (hn:¬S p.b) (hw:One w w' p.b) (h':fH O m S w' id o') (hk:∀r:td,w.heap[p.b]? =some (.loop r)->∃r':td,w'.heap[p.b]? =some (.loop r')):
  aV O m S w' (aT hp id o') ct/\cp m S w hp m S w' (aT hp id o') ct:=by
 have aJ:fZ S w w':=fun b hb=>hw.other b (fun e=>hn (e▸hb))
 refine ⟨⟨?_,hh.lt,?_,?_,?_,hh.low,?_,?_,fun i q hq=>(by
  rw [sE] at hq;by_cases hc:id=i
  ·subst hc;exact hh.aU _ _ ho
  ·simp only [hc,xn] at hq;exact hh.aU _ _ hq)⟩,⟨hw.os,hw.tape,hw.output,by rw [hw.size];exact yq _,?_,fun _ h=>h,fun b hb=>aJ b hb,fun b hb=> .inl hb,fun b hb=> .inl (aoX hb),fun _ _ _ h=>h,fun b r hb=>?_⟩⟩
 rotate_right
 ·by_cases hc:b=p.b
  ·subst hc;exact hk r hb
  ·exact ⟨r,(hw.other b hc).trans hb⟩
 ·intro i q pi hi bL;rw [sE] at hi;by_cases hc:id=i
  ·subst hc;simp only [xE,ho,Option.isSome_some] at hi;injection hi with hi
   subst hi;exact h'
  ·simp only [hc,xn] at hi;refine sD (fun _ _ h=>h) (fun _ h=>h) aJ (fun q' bI=>?_) (fun _ _ h=>h) (hh.obj i q pi hi bL);exact hw.other _ (fun e=>hc (hh.inj i id q o q' p hi ho bI hm e).symm)
 ·intro i j oi oj pi pj hi hj bL gX e;have key:∀{i:Nat} {oi:Obj},ao (aT hp id o') i=some oi->∃L3,ao hp i=some L3:=by
   intro i oi hi;rw [sE] at hi;by_cases hc:id=i
   ·subst hc;exact ⟨o,ho⟩
   ·simp only [hc,xn] at hi;exact ⟨oi,hi⟩
  obtain ⟨L3,cB⟩:=key hi;obtain ⟨L2,He⟩:=key hj;exact hh.inj i j L3 L2 pi pj cB He bL gX e
 ·intro b hb;rw [hw.size];exact hh.slt b hb
 ·intro i q hq;rw [hw.size];exact hh.blt i q hq
 ·intro b hb
  rw [hw.other b (fun e=>by have:=hh.low id p hm;omega)];exact hh.lj b hb
 ·rw [hw.size];exact hh.gH
 ·intro b _ hb;exact hw.other b (fun e=>hb (e▸JO ho hm))
def Ay (O:bl) (m:Mp) (S:Nat->Prop) (w:ym) (a:Act) (hp:Hp) (ct:Nat) (o:yZ) (v:AV) (ah:Hp) (aK:Nat):Prop:=
 ∃n u w' m' S',(execOp a.eval o).run O.P w= .ok n w'/\(n= .value u\/(n= .skip/\u=undef))/\aV O m' S' w' ah aK/\ai O.ae m' S' w' v u/\dz m m'/\cp m S w hp m' S' w' ah ct
def aoY {ae:Nat->Nat} {v:AV} {u:yj} (h:ai ae m S w v u) (ho:dG v=true):u.oneCell'=true:=by
 cases v with
 | fn f a b=>
  cases f with
  | f g=>simp only [ai] at h;obtain ⟨_,_,rfl,_⟩:=h;rfl
  | y l=>simp only [ai] at h;obtain ⟨_,_,rfl⟩:=h;rfl
 | int k n=>simp only [ai] at h;subst h;rfl
 | bool b=>simp only [ai] at h;subst h;rfl
 | dD k n=>simp only [ai] at h;subst h;rfl
 | str s=>simp only [ai] at h;obtain ⟨_,rfl,_⟩:=h;rfl
 | mH=>simp only [ai] at h;subst h;rfl
 | ptr i k=>simp only [ai] at h;obtain ⟨_,_,rfl⟩:=h;rfl
 | aO cs=>simp only [ai] at h;obtain ⟨_,_,rfl,_⟩:=h;rfl
 | ab=>simp only [ai] at h;subst h;rfl
 | aE e n cs=>simp only [ai] at h;rcases h with ⟨_,_,_,rfl,_⟩ | ⟨_,rfl,_,_⟩<;>rfl
 | bV _ _ _ _=>simp [dG] at ho
 | ak i k n=>simp only [ai] at h;obtain ⟨_,_,_,rfl,_⟩:=h;rfl
 | jy=>simp only [ai] at h;subst h;rfl
 | lh=>simp only [ai] at h;subst h;rfl
 | map i=>simp only [ai] at h;obtain ⟨_,_,rfl⟩:=h;rfl
 | ko ks vs=>simp only [ai] at h;obtain ⟨_,_,_,rfl,_⟩:=h;rfl
 | it i=>simp only [ai] at h;obtain ⟨_,_,rfl⟩:=h;rfl
 | agg cs=>simp [dG] at ho
 | az cs=>simp [dG] at ho
 | undef=>simp [dG] at ho
def NJ {ae:Nat->Nat}:∀{vs:List AV} {us:List yj},aA ae m S w vs us->cw vs=true->∀u∈us,u.oneCell'=true
 | [],us,h,_,u,hu=>by simp only [aA] at h;subst h;cases hu
 | v::r,us,h,ho,u,hu=>by
  obtain ⟨u',t,rfl,h1,h2⟩:=h;simp only [cw,yi] at ho;rcases List.mem_cons.1 hu with rfl | hu
  ·exact aoY h1 ho.1
  ·exact NJ h2 ho.2 u hu
def aaR {arr:Array yj} {t:yH} {p:Pl} {cs new:List AV} {vs:List yj} {o:Nat} {S':Nat->Prop} {m':Mp} (hb:w.heap[p.b]? =some (.cells arr t (0,0))) (hr:bR O.ae m S w cs p.b p.o)
  (hv:aA O.ae m S w new vs) (hl:o+new.length<=cs.length) (hs:p.o+cs.length<=arr.size) {w':ym} (hm:dz m m') (hS:∀b,S b->S' b) (aJ:fZ S w w')
  (hw:w'.heap[p.b]? =some (.cells (arr.toList.take (p.o+o)++vs++arr.toList.drop (p.o+o+vs.length)).toArray t (0,0))):bR O.ae m' S' w' (over o new cs) p.b p.o:=by
 obtain ⟨us,h1,h2,h3⟩:=sC cs p.b p.o hr;have hvl:=iw _ _ hv;have h4:aA O.ae m S w (over o new cs) (us.take o++vs++us.drop (o+new.length)):=mr (mr (Ft o h1) hv) (I4 _ h1);refine Fy _ _ _ (iv hm hS aJ _ _ h4) (fun j u hj=>?_);have D3:∀k u,us[k]? =some u->arr[p.o+k]? =some u:=by
  intro k u hk
  have:=h3 k u hk
  simpa [World.cell?,hb] using this
 simp only [World.cell?,hw,yau,yN,xn];rw [yap];have e1:(arr.toList.take (p.o+o)).length=p.o+o:=by rw [yI,vI];omega
 have e2:(us.take o).length=o:=by rw [yI];omega
 by_cases c1:j<o
 ·have g1:(us.take o++vs++us.drop (o+new.length))[j]? =us[j]? :=by
   rw [xm,wC (by omega),uA c1]
  rw [g1] at hj;rw [xm,wC (by omega),uA (by omega)];simpa using D3 j u hj
 ·by_cases c2:j<o+vs.length
  ·have g1:(us.take o++vs++us.drop (o+new.length))[j]? =vs[j-o]? :=by
    rw [xm,xS (by omega),e2,wC (by omega)]
   rw [g1] at hj;rw [xm,xS (by omega),e1,wC (by omega),show p.o+j-(p.o+o)=j-o by omega];exact hj
  ·have g1:(us.take o++vs++us.drop (o+new.length))[j]? =us[j]? :=by
    rw [xm,xS (by omega),e2,xS (by omega),yaH]
    congr 1
    omega
   rw [g1] at hj;rw [xm,xS (by omega),e1,xS (by omega),yaH,show p.o+o+vs.length+(p.o+j-(p.o+o)-vs.length)=p.o+j by omega];simpa using D3 j u hj
def N1 {o:Nat} {new cs:List AV} (hl:o+new.length<=cs.length):(over o new cs).length=cs.length:=by
 simp only [over,yG,yI,we];omega
def Zb {o:Nat} {new cs:List AV} (h:aH cs=true) (h':aH new=true):aH (over o new cs)=true:=
 Dg (Dg (Bv _ h) h') (zW _ _ h)
def arb {o:yZ} {t:yH} {x y:xC} {sz:Nat} {v:AV} {ah:Hp} {aK:Nat} (hH:fO O H) (ht:cf O m S w tm a.tmps) (hh:aV O m S w hp ct)
  (ho:o.op= .store t x y) (hz:cN O.P t=some sz) (hv:cR tm hp ct (.st sz (aP H x) (aP H y))=some (v,ah,aK)):Ay O m S w a hp ct o v ah aK:=by
 simp only [cR] at hv;have rx:=cE hH ht x;cases hx:aC tm (aP H x)<;>rw [hx] at hv rx<;>simp only [reduceCtorEq] at hv
 rename_i id k;simp only [ai] at rx;obtain ⟨p,hm,ex⟩:=rx
 split at hv
 case h_2=>cases hv
 rename_i pu QE z cs hg
 cases hc:(yz (cellsOf (aC tm (aP H y))).length sz&&yK (k+sz) cs.length&&cw (cellsOf (aC tm (aP H y)))) with
 | false=>rw [hc] at hv;cases hv
 | true=>
  rw [hc] at hv;simp only [yD,ye,yr] at hv;obtain ⟨rfl,rfl,rfl⟩:=hv;simp only [yi] at hc;have c1:=yt hc.1.1;have c2:=yB hc.1.2;have ry:=Ss (cE hH ht y) hc.2;have hl:=iw _ _ ry;obtain ⟨p',arr,t',g1,g2,g3,g4,g5,g6,g7,g8,g9,g10⟩:=hh.obj id _ _ hg hm;rw [hm] at g1;injection g1 with g1
  subst g1;have fT:=NJ ry hc.2;have fR:=run_storeCells_at O.P p.b (p.o+k) t' (a.eval y).cells.toList 0 arr w g2 (by rw [hl];omega) fT;simp only [y7] at fR;have awC:(a.eval y).cells.size=sz:=by simp_all
  have pK:fH O m S (w.setRow p.b (arr.toList.take (p.o+k)++(a.eval y).cells.toList++arr.toList.drop (p.o+k+(a.eval y).cells.toList.length)).toArray) id
    (.cells true (pu&&aH (cellsOf (aC tm (aP H y)))) QE z (over k (cellsOf (aC tm (aP H y))) cs)):=by
   refine ⟨p,_,t',hm,setRow_heap w p.b arr _ t' _ g2,g3,by rw [N1 (by omega)];exact g4,?_,fun h=>by rw [N1 (by omega)];exact g6 h,?_,?_,fun _=>g9 rfl,by simp⟩
   ·grind
   ·exact aaR g2 g7 ry (by omega) (by omega) dz.refl (fun _ h=>h) (fun b hb=>setRow_other w p.b b _ (fun e=>g9 rfl (e▸hb))) (setRow_heap w p.b arr _ t' _ g2)
   ·intro h;simp only [yi] at h;exact Zb (g8 h.1) h.2
  obtain ⟨e1,e2⟩:=Jd hh hg hm (g9 rfl) (Se w p.b _) pK (fun r hr=>by rw [g2] at hr;cases hr);refine ⟨.skip,undef,_,m,S,?_,.inr ⟨rfl,rfl⟩,e1,by simp [ai,aA,undef],dz.refl,e2⟩;simp only [execOp,ho,Instr.storeAt,ex,Instr.sureAddr,Sem.run_bind,Sem.run_pure,Result.andThen_ok,storeVar,oR hz,awC,uj,ycj,xn];simp [fR]
def Zc {d:vO} {k k':yj} (h:Instr.sameNow d k k'=some true):k=k':=by
 unfold Instr.sameNow at h
 split at h
 ·grind
 ·rename_i p q;simp only [ye] at h;have h2:(p.data==q.data)=true:=by cases p;exact h
  cases p;cases q
  grind
 ·grind
 ·cases h
def sameBits_self {d:vO} {k k':yj} (h:Instr.sameNow d k k'=some true) (n:Nat):Instr.sameBits n k' k=true:=by
 have e:=Zc h;subst e;unfold Instr.sameNow at h
 split at h
 ·simp [Instr.sameBits]
 ·simp only [ye] at h;simp [Instr.sameBits,h]
 ·simp [Instr.sameBits]
 ·cases h
def Put (ae:Nat->Nat) (m:Mp) (S:Nat->Prop) (w:ym) (d:vO) (k x:yj) (es:List tf) (i:Nat) (lC eD:List AV):Prop:=
 (Instr.findNow d k es i=some none/\aA ae m S w lC (es.map (·.key)++[k])/\aA ae m S w eD (es.map (·.val)++[x]))\/
 ∃(j:Nat) (e0:tf),Instr.findNow d k es i=some (some (i+j,e0.val))/\es[j]? =some e0/\Instr.sameNow d k e0.key=some true/\aA ae m S w lC (es.map (·.key))/\aA ae m S w eD ((es.map (·.val)).set j x)
def ab4 {ae:Nat->Nat} {vk vx:AV} {k x:yj} {d:vO} (hk:ai ae m S w vk k) (hx:ai ae m S w vx x) (hd:fits d vk=true):∀(ks vs:List AV) (es:List tf) (i:Nat) (lC eD:List AV),
  aA ae m S w ks (es.map (·.key))->aA ae m S w vs (es.map (·.val))->Cg vk vx ks vs=some (lC,eD)->Put ae m S w d k x es i lC eD
 | [],[],es,i,lC,eD,h1,h2,h=>by
  simp only [aA,List.map_eq_nil_iff] at h1;subst h1;obtain ⟨rfl,rfl⟩:=h;exact .inl ⟨rfl,by simp [aA,hk],by simp [aA,hx]⟩
 | [],_::_,es,i,lC,eD,h1,h2,h=>by simp [Cg] at h
 | _::_,[],es,i,lC,eD,h1,h2,h=>by simp [Cg] at h
 | c::ks,v::vs,es,i,lC,eD,h1,h2,h=>by
  cases es with
  | nil=>simp [aA] at h1
  | cons e es=>
   obtain ⟨u,t,⟨rfl,rfl⟩,hc,QC⟩:=h1;obtain ⟨u',t',⟨rfl,rfl⟩,hv,A5⟩:=h2;simp only [Cg] at h
   cases A6:Gj vk c with
   | none=>simp [A6] at h
   | some b=>
    have hs:=aaO (d:=d) hk hc A6 hd
    cases b with
    | true=>
     simp only [A6,ye,yr] at h;obtain ⟨rfl,rfl⟩:=h;refine .inr ⟨0,e,by simp [Instr.findNow,hs],rfl,hs,?_,?_⟩
     ·simp only [xd,aA];exact ⟨_,_,rfl,hc,QC⟩
     ·simp only [xd,List.set_cons_zero,aA];exact ⟨_,_,rfl,hx,A5⟩
    | false=>
     simp only [A6] at h
     cases hm:Cg vk vx ks vs with
     | none=>simp [hm] at h
     | some q=>
      obtain ⟨k1,v1⟩:=q;simp only [hm,ye,yr] at h;obtain ⟨rfl,rfl⟩:=h;rcases ab4 hk hx hd ks vs es (i+1) k1 v1 QC A5 hm with ⟨g1,g2,g3⟩ | ⟨j,e0,g1,g2,g3,g4,g5⟩
      ·refine .inl ⟨by simp [Instr.findNow,hs,g1],?_,?_⟩
       ·simp only [xd,xr,aA];exact ⟨_,_,rfl,hc,g2⟩
       ·simp only [xd,xr,aA];exact ⟨_,_,rfl,hv,g3⟩
      ·refine .inr ⟨j+1,e0,?_,by simpa using g2,g3,?_,?_⟩
       ·simp only [Instr.findNow,hs,g1]
        grind
       ·simp only [xd,aA];exact ⟨_,_,rfl,hc,g4⟩
       ·simp only [xd,List.set_cons_succ,aA];exact ⟨_,_,rfl,hv,g5⟩
def Fo (w:ym) (g:Nat) (o:tH):One w {w with heap:=w.heap.setIfInBounds g o} g:=
 ⟨rfl,rfl,rfl,by simp,fun b hb=>by simp [Array.getElem?_setIfInBounds_ne (fun e=>hb e.symm)]⟩
def Nt {g:Nat} {o q:tH} (h:w.heap[g]? =some q):({w with heap:=w.heap.setIfInBounds g o}:ym).heap[g]? =some o:=by grind
def aaS {o:yZ} {t kt e:yH} {x k y:xC} {kk:Nat} {v:AV} {ah:Hp} {aK:Nat} (hH:fO O H) (ht:cf O m S w tm a.tmps) (hh:aV O m S w hp ct)
  (ho:o.op= .mapUpdate t x k y\/o.op= .insert t x k y) (hu:O.P.underlying t=some (.map kt e)) (rZ:VE.keyOf O.P kt=some kk) (hv:cR tm hp ct (.q8 kk (aP H x) (aP H k) (aP H y))=some (v,ah,aK)):Ay O m S w a hp ct o v ah aK:=by
 simp only [cR] at hv;have rx:=cE hH ht x;cases hx:aC tm (aP H x)<;>rw [hx] at hv rx<;>simp only [reduceCtorEq] at hv
 rename_i id;simp only [ai] at rx;obtain ⟨p,hm,ex⟩:=rx
 split at hv
 case h_2=>cases hv
 rename_i ks vs hg
 cases hc:Ab kk (aC tm (aP H k)) with
 | false=>simp [hc] at hv
 | true=>
  simp only [hc,Bool.not_true,yW] at hv
  cases a6:Cg (aC tm (aP H k)) (aC tm (aP H y)) ks vs with
  | none=>simp [a6] at hv
  | some q=>
   obtain ⟨lC,eD⟩:=q;simp only [a6,ye,yr] at hv;obtain ⟨rfl,rfl,rfl⟩:=hv;obtain ⟨d,gW,gE,WY⟩:=Y8 rZ hc;obtain ⟨p',es,clock,g1,g2,g3,g4,g5,g6⟩:=hh.obj id _ _ hg hm;rw [hm] at g1;injection g1 with g1
   subst g1;have ayw:=ab4 (d:=d) (cE hH ht k) (cE hH ht y) WY ks vs es.toList 0 lC eD g3 g4 a6
   have fin:∀(EA:Array tf) (c':Nat),(Instr.mapUpdate t (a.eval x) (a.eval k) (a.eval y)).run O.P w= .ok () {w with heap:=w.heap.setIfInBounds p.b (.map EA c')}->
     aA O.ae m S w lC (EA.toList.map (·.key))->aA O.ae m S w eD (EA.toList.map (·.val))->Ay O m S w a hp ct o (.az []) (aT hp id (.mp true lC eD)) ct:=by
    intro EA c' fR h1 h2
    have aJ:fZ S w {w with heap:=w.heap.setIfInBounds p.b (.map EA c')}:=fun b hb=>(Fo w p.b _).other b (fun e=>g5 rfl (e▸hb))
    have pK:fH O m S {w with heap:=w.heap.setIfInBounds p.b (.map EA c')} id (.mp true lC eD):=
     ⟨p,EA,c',hm,Nt g2,iv (fun _ _ h=>h) (fun _ h=>h) aJ _ _ h1,iv (fun _ _ h=>h) (fun _ h=>h) aJ _ _ h2,fun _=>g5 rfl,by simp⟩
    obtain ⟨e1,e2⟩:=Jd hh hg hm (g5 rfl) (Fo w p.b _) pK (fun r hr=>by rw [g2] at hr;cases hr);refine ⟨.skip,undef,_,m,S,?_,.inr ⟨rfl,rfl⟩,e1,by simp [ai,aA,undef],dz.refl,e2⟩;rcases ho with ho | ho<;>simp [execOp,ho,fR]
   have jU:=Ni (P:=O.P) (w:=w) gW gE false (a.eval k);rcases ayw with ⟨h1,h2,h3⟩ | ⟨j,e0,h1,h2,h3,h4,h5⟩
   ·refine fin (es.push ⟨a.eval k,a.eval y,clock⟩) (clock+1) ?_ (by simpa using h2) (by simpa using h3);rw [ex];simp [Instr.mapUpdate,run_underlying hu,MapKept.run_getObj_map g2,jU,Instr.findKey,run_underlying gW,h1,MapKept.run_setObj_map _ g2]
   ·have hj:es[j]? =some e0:=by simp_all
    simp only [yg] at h1;have ahq:=Zc h3
    refine fin (es.modify j fun e=>{e with key:=a.eval k,val:=a.eval y}) clock ?_ ?_ ?_
    ·rw [ex];have hsb:Instr.sameBits 10000 (a.eval k) (a.eval k)=true:=by have:=sameBits_self h3 10000;rwa [<-ahq] at this
     simp [Instr.mapUpdate,run_underlying hu,MapKept.run_getObj_map g2,jU,Instr.findKey,run_underlying gW,h1,MapKept.run_setObj_map _ g2,hj,Instr.keyThatStays,hsb,ahq.symm]
    ·have:(es.modify j fun e=>{e with key:=a.eval k,val:=a.eval y}).toList.map (·.key)=es.toList.map (·.key):=by
      apply yaQ
      grind
     grind
    ·have:(es.modify j fun e=>{e with key:=a.eval k,val:=a.eval y}).toList.map (·.val)=(es.toList.map (·.val)).set j (a.eval y):=by
      apply yaQ
      grind
     grind
def arc (t:ByteArray) (i:Nat):(t.get! i).toNat=(t.data.toList.map xf).getD i 0:=by
 have:t.get! i=t.data[i]! :=by cases t;rfl
 rw [this];by_cases h:i<t.data.size
 ·grind
 ·simp only [Array.getElem!_eq_getD,Array.getD_eq_getD_getElem?,List.getD_eq_getElem?_getD,List.getElem?_map,Array.getElem?_toList];rw [Array.getElem?_eq_none (by omega)];rfl
def anb (t:ByteArray) (i:Nat):decodeL (t.data.toList.map xf) i=Utf8.decode t i:=by
 have fg:(t.data.toList.map xf).length=t.size:=by simp
 simp only [decodeL,Utf8.decode,arc,fg]
def aoZ {o:yZ} {x:xC} {v:AV} {ah:Hp} {aK:Nat} (hH:fO O H) (ht:cf O m S w tm a.tmps) (hh:aV O m S w hp ct)
  (ho:o.op= .next x true) (hv:cR tm hp ct (.rb (aP H x))=some (v,ah,aK)):Ay O m S w a hp ct o v ah aK:=by
 simp only [cR] at hv;have rx:=cE hH ht x;cases hx:aC tm (aP H x)<;>rw [hx] at hv rx<;>simp only [reduceCtorEq] at hv
 rename_i id;simp only [ai] at rx;obtain ⟨p,hm,ex⟩:=rx
 split at hv
 case h_2=>cases hv
 rename_i s pos hg;obtain ⟨p',t,g1,g2,g3,g4⟩:=hh.obj id _ _ hg hm;rw [hm] at g1;injection g1 with g1
 subst g1;have ao:(getObj p.b).run O.P w= .ok (.stringIter t pos) w:=by simp [getObj,Sem.run,g2]
 have hlen:s.length=t.size:=by rw [<-g3];simp
 cases hc:yQ pos s.length with
 | false=>
  rw [hc] at hv;simp only [yW,ye,yr] at hv;obtain ⟨rfl,rfl,rfl⟩:=hv;have aU:¬pos<t.size:=by
   intro h
   have:yQ pos s.length=true:=by simp [yQ];omega
   grind
  refine ⟨.value (.tuple #[.bool false]),.tuple #[.bool false],w,m,S,?_,.inl rfl,hh,by simp [ai,aA],dz.refl,cp.refl⟩;simp [execOp,ho,ex,Instr.next,ao,aU]
 | true=>
  rw [hc] at hv;simp only [yD] at hv;have aU:pos<t.size:=by
   simp_all
  cases hdc:decodeL s pos with | mk c wd=>
  rw [hdc] at hv;simp only [ye,yr] at hv;obtain ⟨rfl,rfl,rfl⟩:=hv;have hd:Utf8.decode t pos=(c,wd):=by rw [<-anb,g3,hdc]
  have pK:fH O m S {w with heap:=w.heap.setIfInBounds p.b (.stringIter t (pos+wd))} id (.si s (pos+wd)):=⟨p,t,hm,Nt g2,g3,g4⟩;obtain ⟨e1,e2⟩:=Jd hh hg hm g4 (Fo w p.b _) pK (fun r hr=>by rw [g2] at hr;cases hr);refine ⟨.value (.tuple #[.bool true,goInt pos,.int .i32 c]),_,_,m,S,?_,.inl rfl,e1,by simp [ai,aA,goInt],dz.refl,e2⟩
  have aT:(setObj p.b (.stringIter t (pos+wd))).run O.P w= .ok () {w with heap:=w.heap.setIfInBounds p.b (.stringIter t (pos+wd))}:=by simp [setObj,Sem.run,g2]
  simp [execOp,ho,ex,Instr.next,ao,aU,hd,aT]
end
end
section
open Go
def I5 {hp:Hp} {id i:Nat}:ao (dJ hp id) i=if id=i then none else ao hp i:=by
 induction hp with
 | nil=>simp [dJ,ao]
 | cons x r ih=>
  obtain ⟨j,q⟩:=x;simp only [dJ];by_cases hj:j=id
  ·subst hj;simp only [ve,yD,ih,ao];by_cases hi:j=i
   ·grind
   ·have:yz j i=false:=by
     cases hq:yz j i with
     | false=>rfl
     | true=>exact absurd (yt hq) hi
    grind
  ·have hb:yz j id=false:=by
    cases hq:yz j id with
    | false=>rfl
    | true=>exact absurd (yt hq) hj
   simp only [hb,yW];rw [show ao ((j,q)::dJ r id) i=bif yz j i then some q else ao (dJ r id) i from rfl,ih];by_cases hi:j=i
   ·subst hi
    have:¬id=j:=fun h=>hj h.symm
    simp [ve,this,ao]
   ·have zC:yz j i=false:=by
     cases hq:yz j i with
     | false=>rfl
     | true=>exact absurd (yt hq) hi
    simp [zC,ao]
section
variable {O:bl} {H:Hint} {m:Mp} {S:Nat->Prop} {w:ym} {tm:Env} {a:Act} {hp:Hp} {ct:Nat}
def Src (P:xa) (w:ym) (size n:Nat) (news:List yj) (x:yj):Prop:=
 (∀w',(Builtin.lenOf x).run P w'= .ok n w')/\news.length=n*size/\
 ∀w',w'.heap=w.heap->∀k,k<=n->(Builtin.firstCells size k x).run P w'= .ok (news.take (k*size)).toArray w'
def Fu {P:xa} {size n c:Nat} {b:Addr} {news:List yj} (hl:news.length=n*size) (hc:∀j u,news[j]? =some u->w.cell? (b.add j)=some u):
  Src P w size n news (.slice (some b) n c):=by
 refine ⟨fun w'=>by simp [Builtin.lenOf],hl,fun w' hw k hk=>?_⟩;have hle:k*size<=news.length:=by rw [hl];exact yS _ hk
 refine run_firstCells_some (P:=P) w' size k b n c (news.take (k*size)) (by rw [yI];omega) (fun j v hv=>?_);rw [List.getElem?_take] at hv
 split at hv
 ·have:=hc j v hv
  simpa [World.cell?,hw] using this
 ·cases hv
def ab5 {P:xa} {size:Nat}:Src P w size 0 [] (.slice none 0 0):=
 ⟨fun w'=>by simp [Builtin.lenOf],by simp,fun w' _ k hk=>by simp [Builtin.firstCells]⟩
def ame (s:ByteArray) (k:Nat):(s.extract 0 k).data.map (fun b=>Value.int .u8 b.toNat)=((s.data.toList.map fun b=>Value.int .u8 (b.toNat:Int)).take k).toArray:=by
 have:(s.extract 0 k).data=s.data.extract 0 k:=by simp
 grind
def ard {P:xa} {s:ByteArray}:Src P w 1 s.size (s.data.toList.map fun b=>Value.int .u8 (b.toNat:Int)) (.string s):=by
 refine ⟨fun w'=>by simp [Builtin.lenOf],by simp,fun w' _ k hk=>?_⟩;simp only [Builtin.firstCells,Sem.run_pure,Nat.mul_one];rw [ame]
def YP {ae:Nat->Nat}:∀l:List UInt8,aA ae m S w (Ok (l.map xf)) (l.map fun b=>Value.int .u8 (b.toNat:Int))
 | []=>by simp [Ok,aA]
 | b::r=>by
  exact ⟨_,_,rfl,by simp [ai],YP r⟩
def Zd {size n:Nat} {vx:AV} {x:yj} {cs:List AV} (hh:aV O m S w hp ct) (hx:ai O.ae m S w vx x) (h:iN hp size vx=some (n,cs)):
  ∃us,aA O.ae m S w cs us/\Src O.P w size n us x:=by
 cases vx<;>simp only [iN,reduceCtorEq] at h
 case ab=>
  obtain ⟨rfl,rfl⟩:=h;subst hx;exact ⟨[],by simp [aA],ab5⟩
 case aE ex n' dL=>
  cases hc:yz dL.length (n'*size) with
  | false=>rw [hc] at h;cases h
  | true=>
   rw [hc] at h;obtain ⟨rfl,rfl⟩:=h;have hl:=yt hc;rcases hx with ⟨b,o,c,rfl,h1,h2,h3,h4,h5⟩ | ⟨ad,rfl,rfl,rfl⟩
   ·obtain ⟨us,g1,g2,g3⟩:=sC _ b o h5;exact ⟨us,g1,Fu (by omega) (fun j u hj=>by rw [oZ];exact g3 j u hj)⟩
   ·exact ⟨[],by simp [aA],Fu (by simp) (fun j u hj=>by simp at hj)⟩
 case ak id o n'=>
  cases hg:ao hp id with
  | none=>simp [hg] at h
  | some ob=>
   cases ob<;>simp only [hg,reduceCtorEq] at h
   rename_i rw pu ex z dL
   cases hc:yK (o+n'*size) dL.length with
   | false=>rw [hc] at h;cases h
   | true=>
    rw [hc] at h;simp only [yD,ye,yr] at h;obtain ⟨rfl,rfl⟩:=h;have hl:=yB hc;obtain ⟨p,c,hm,rfl,h1,h2⟩:=hx;have hr:=SR (o:=0) (n:=0) hh hg hm;have nH:=By (n'*size) _ _ _ (rE o _ _ _ hr);obtain ⟨us,g1,g2,g3⟩:=sC _ p.b (p.o+o) nH;refine ⟨us,g1,Fu ?_ (fun j u hj=>by rw [oZ];exact g3 j u hj)⟩
    grind
def ZW {size n:Nat} {vx:AV} {x:yj} {cs:List AV} (hh:aV O m S w hp ct) (hx:ai O.ae m S w vx x) (h:iP hp size vx=some (n,cs)):
  ∃us,aA O.ae m S w cs us/\Src O.P w size n us x:=by
 cases vx<;>try exact Zd hh hx h
 simp only [iP] at h
 cases hc:yz size 1 with
 | false=>rw [hc] at h;cases h
 | true=>
  rw [hc] at h;obtain ⟨rfl,rfl⟩:=h
  have:=yt hc
  subst this;obtain ⟨t,rfl,rfl⟩:=hx;refine ⟨_,YP _,?_⟩
  have:(List.map xf t.data.toList).length=t.size:=by simp
  rw [this];exact ard
def aly {P:xa} {t u ty e:yH} {i:yck} (ht:P.underlying t=some (.slice e)) (hu:(∃e',P.underlying u=some (.slice e'))\/P.underlying u=some .string) (hi:P.info? e=some i)
  {g o jg rS:Nat} {L5:Array yj} {te:yH} (hg:w.heap[g]? =some (.cells L5 te (0,0))) {x:yj} {n:Nat} {news:List yj} (hs:Src P w i.size n news x) (h1:∀u∈news,u.oneCell'=true)
  (Gl:jg+n<=rS) (Vp:o+jg*i.size+news.length<=L5.size):
  (Builtin.append_ #[t,u] ty #[.slice (some ⟨g,o,none⟩) jg rS,x]).run P w=
   .ok (.slice (some ⟨g,o,none⟩) (jg+n) rS) (w.setRow g (L5.toList.take (o+jg*i.size)++news++L5.toList.drop (o+jg*i.size+news.length)).toArray):=by
 obtain ⟨oD,A8,EB⟩:=hs;have hf:=EB w rfl n (yq _);rw [yC (by omega)] at hf;have aJ:=run_storeCells_at P g (o+jg*i.size) te news 0 L5 w hg (by omega) h1;rcases hu with ⟨e',hd⟩ | hd<;>
  simp [Builtin.append_,run_underlying ht,run_underlying hd,vR,typeInfo,hi,oD,Gl,hf,oZ,aJ]
def Nl {P:xa} {t u ty e:yH} {i:yck} {z:yj} (ht:P.underlying t=some (.slice e)) (hu:(∃e',P.underlying u=some (.slice e'))\/P.underlying u=some .string) (hi:P.info? e=some i) (hz:i.zero=some z)
  {s:yj} {base:Option Addr} {jg rS:Nat} (es:s= .slice base jg rS) {mI:List yj} (ho:Src P w i.size jg mI s) {x:yj} {n:Nat} {news:List yj} (hs:Src P w i.size n news x)
  (hg:rS<jg+n) (W3:jg+n<=1099511627776) (W2:(jg+n)*i.bytes<=1099511627776):
  (Builtin.append_ #[t,u] ty #[s,x]).run P w=
   .ok (.slice (some ⟨w.heap.size,0,none⟩) (jg+n) (grownCap w (jg+n) rS e))
    (w.drew.alloc (.cells ((mI++news).toArray++Builtin.zeroCells z.cells (grownCap w (jg+n) rS e-(jg+n))) e)):=by
 obtain ⟨oD,A8,EB⟩:=hs;obtain ⟨ho1,W4,ho3⟩:=ho;have hf:=EB w.drew rfl n (yq _);rw [yC (by omega)] at hf;have hfo:=ho3 w.drew rfl jg (yq _);have hn:¬(jg+n<=rS):=by omega
 have ayx:¬(9223372036854775807<((jg:Int)+(n:Int))):=by omega
 have Vp:=growslice_fits (need:=jg+n) (old:=rS) (bytes:=i.bytes) hg (by omega);have ayy:¬(281474976710656<Builtin.nextslicecap (jg+n) rS*i.bytes):=by omega
 subst es;rcases hu with ⟨e',hd⟩ | hd
 all_goals
  simp [Builtin.append_,run_underlying ht,run_underlying hd,vR,typeInfo,zeroValue,hi,hz,oD,hn,ayx,ayy,Question.forced,hf,hfo,newRow,askRoom,grownCap]
  grind
def Sw {e:yH} {z:yj} {sz need cap:Nat} {cs:List AV} {us:List yj} (hh:aV O m S w hp ct) (hr:aA O.ae m S w cs us) (hl:us.length=need*sz) (hz:z.cells.size=sz)
  (D0:Bool) (W5:D0=true->aH cs=true) (hc:need<=cap):
  let w':=w.drew.alloc (.cells (us.toArray++Builtin.zeroCells z.cells (cap-need)) e)
  let p:Pl:=⟨w.heap.size,0,cap*sz,sz⟩
  ∀m',dz m m'->m' ct=some p->fH O m' S w' ct (.cells true D0 false sz cs):=by
 intro w' p m' hm hi;have aJ:fZ S w w':=fun b hb=>by
  have:=hh.slt b hb
  exact RowKit.Below.heap_alloc w.drew _ b (by simpa using this)
 have jA:w'.heap[w.heap.size]? =some (.cells (us.toArray++Builtin.zeroCells z.cells (cap-need)) e (0,0)):=heap_alloc_new w.drew _;have jk:=iw _ _ hr;refine ⟨p,_,e,hi,jA,rfl,?_,?_,by simp,?_,W5,?_,by simp⟩
 ·show cs.length<=cap*sz
  rw [<-jk,hl];exact yS _ hc
 ·show 0+cap*sz<=_
  rw [Array.size_append,uO,size_zeroCells,hz,hl,<-wS]
  grind
 ·refine NI jA cs us 0 (iv hm (fun _ h=>h) aJ _ _ hr) (fun j u hj=>?_)
  grind
 ·intro _ hS
  have:=hh.slt _ hS
  grind
def aln (hh:aV O m S w hp ct) (g:tH):fZ S w (w.drew.alloc g):=fun b hb=>by
 have:=hh.slt b hb
 exact RowKit.Below.heap_alloc w.drew _ b (by simpa using this)
def Sx (hh:aV O m S w hp ct) {hp0:Hp} {g:tH} {p:Pl} {o:Obj} (PH:∀i q,ao hp0 i=some q->ao hp i=some q) (hb:p.b=w.heap.size)
  (ho:∀m',dz m m'->m' ct=some p->fH O m' S (w.drew.alloc g) ct o):
  aV O (fS m ct p) S (w.drew.alloc g) ((ct,o)::hp0) (ct+1)/\cp m S w hp (fS m ct p) S (w.drew.alloc g) ((ct,o)::hp0) ct:=by
 have hn:m ct=none:=by
  cases h:m ct with
  | none=>rfl
  | some q=>have:=hh.lt _ _ h;omega
 have hle:=jO hn (p:=p);have aJ:=aln hh g;have hold:∀b,b<w.heap.size->(w.drew.alloc g).heap[b]? =w.heap[b]? :=fun b hb=>RowKit.Below.heap_alloc w.drew _ b (by simpa using hb)
 have fg:(w.drew.alloc g).heap.size=w.heap.size+1:=by simp
 have e9:∀i q,ao ((ct,o)::hp0) i=some q->i≠ct->ao hp i=some q:=fun i q h hi=>by
  rw [fX,yo (fun e=>hi e.symm)] at h
  grind
 refine ⟨⟨?_,?_,?_,?_,?_,?_,?_,?_,fun i q hq=>(by
  by_cases hc:i=ct
  ·omega
  ·have:=hh.aU _ _ (e9 i q hq hc);omega)⟩,⟨rfl,rfl,rfl,by omega,?_,fun _ h=>h,fun b hb=>aJ b hb,fun b hb=> .inl hb,?_,fun i q _ h=>hle i q h,fun b r hb=>⟨r,(hold b (xF.1 hb).1).trans hb⟩⟩⟩
 ·intro i q pi hi bL;by_cases hc:i=ct
  ·subst hc;rw [fX] at hi;simp only [xE,ye] at hi;subst hi;exact ho _ hle dW
  ·rw [eG hc] at bL;exact sD hle (fun _ h=>h) aJ (fun q' bI=>hold _ (hh.blt i q' bI)) (fun _ _ h=>h) (hh.obj i q pi (e9 i q hi hc) bL)
 ·intro i q bL;by_cases hc:i=ct
  ·omega
  ·rw [eG hc] at bL;have:=hh.lt i q bL;omega
 ·intro i j oi oj pi pj hi hj bL gX e;by_cases ci:i=ct
  ·by_cases cj:j=ct
   ·grind
   ·subst ci;rw [dW] at bL;rw [eG cj] at gX;injection bL with bL
    subst bL
    have:=hh.blt j pj gX
    omega
  ·rw [eG ci] at bL;by_cases cj:j=ct
   ·subst cj;rw [dW] at gX;injection gX with gX
    subst gX
    have:=hh.blt i pi bL
    omega
   ·rw [eG cj] at gX;exact hh.inj i j oi oj pi pj (e9 i oi hi ci) (e9 j oj hj cj) bL gX e
 ·intro b hb;have:=hh.slt b hb;omega
 ·intro i q bL;by_cases hc:i=ct
  ·subst hc;rw [dW] at bL;injection bL with bL
   subst bL;omega
  ·rw [eG hc] at bL;have:=hh.blt i q bL;omega
 ·intro i q bL;have h0:=hh.gH;by_cases hc:i=ct
  ·subst hc;rw [dW] at bL;injection bL with bL
   subst bL;omega
  ·rw [eG hc] at bL;exact hh.low i q bL
 ·intro b hb;have h0:=hh.gH;exact (hold b (by omega)).trans (hh.lj b hb)
 ·have h0:=hh.gH;omega
 ·intro b hb _;exact hold b hb
 ·rintro b ⟨i,q,pi,h1,h2,h3⟩;by_cases hc:i=ct
  ·subst hc;rw [dW] at h2;injection h2 with h2
   subst h2;exact .inr (by omega)
  ·rw [eG hc] at h2;exact .inl ⟨i,q,pi,e9 i q h1 hc,h2,h3⟩
def anc (hh:aV O m S w hp ct) {id:Nat} {o o':Obj} {p p':Pl} {w':ym} (hg:ao hp id=some o) (hm:m id=some p) (hn:¬S p.b) (hw:One w w' p.b) (hk:∀r:td,w.heap[p.b]? =some (.loop r)->∃r':td,w'.heap[p.b]? =some (.loop r')) (hb:p'.b=p.b)
  (ho:∀m',dz m m'->m' ct=some p'->fH O m' S w' ct o'):
  aV O (fS m ct p') S w' ((ct,o')::dJ hp id) (ct+1)/\cp m S w hp (fS m ct p') S w' ((ct,o')::dJ hp id) ct:=by
 have gZ:m ct=none:=by
  cases h:m ct with
  | none=>rfl
  | some q=>have:=hh.lt _ _ h;omega
 have hle:=jO gZ (p:=p');have aJ:fZ S w w':=fun b hb=>hw.other b (fun e=>hn (e▸hb))
 have e9:∀i q,ao ((ct,o')::dJ hp id) i=some q->i≠ct->ao hp i=some q/\i≠id:=fun i q h hi=>by
  rw [fX,yo (fun e=>hi e.symm),I5] at h
  grind
 have ahr:∀i q pi,ao hp i=some q->i≠id->m i=some pi->pi.b≠p.b:=fun i q pi h hi bL e=>hi (hh.inj i id q o pi p h hg bL hm e)
 refine ⟨⟨?_,?_,?_,?_,?_,?_,?_,?_,fun i q hq=>(by
  by_cases hc:i=ct
  ·omega
  ·have:=hh.aU _ _ (e9 i q hq hc).1;omega)⟩,⟨hw.os,hw.tape,hw.output,by rw [hw.size];exact yq _,?_,fun _ h=>h,fun b hb=>aJ b hb,fun b hb=> .inl hb,?_,fun i q _ h=>hle i q h,fun b r hb=>(by
  by_cases hc:b=p.b
  ·grind
  ·exact ⟨r,(hw.other b hc).trans hb⟩)⟩⟩
 ·intro i q pi hi bL;by_cases hc:i=ct
  ·subst hc;rw [fX] at hi;simp only [xE,ye] at hi;subst hi;exact ho _ hle dW
  ·rw [eG hc] at bL;obtain ⟨h1,h2⟩:=e9 i q hi hc;exact sD hle (fun _ h=>h) aJ (fun q' bI=>hw.other _ (ahr i q q' h1 h2 bI)) (fun _ _ h=>h) (hh.obj i q pi h1 bL)
 ·intro i q bL;by_cases hc:i=ct
  ·omega
  ·rw [eG hc] at bL;have:=hh.lt i q bL;omega
 ·intro i j oi oj pi pj hi hj bL gX e;by_cases ci:i=ct
  ·by_cases cj:j=ct
   ·grind
   ·subst ci;rw [dW] at bL;rw [eG cj] at gX
    grind
  ·rw [eG ci] at bL;obtain ⟨h1,h2⟩:=e9 i oi hi ci;by_cases cj:j=ct
   ·subst cj;rw [dW] at gX;injection gX with gX
    subst gX;exact (ahr i oi pi h1 h2 bL (by rw [e,hb])).elim
   ·rw [eG cj] at gX;exact hh.inj i j oi oj pi pj h1 (e9 j oj hj cj).1 bL gX e
 ·intro b hb;rw [hw.size];exact hh.slt b hb
 ·intro i q bL;rw [hw.size];by_cases hc:i=ct
  ·subst hc;rw [dW] at bL;injection bL with bL
   subst bL;rw [hb];exact hh.blt id p hm
  ·rw [eG hc] at bL;exact hh.blt i q bL
 ·intro i q bL;by_cases hc:i=ct
  ·subst hc;rw [dW] at bL;injection bL with bL
   subst bL;rw [hb];exact hh.low id p hm
  ·rw [eG hc] at bL;exact hh.low i q bL
 ·intro b hb
  rw [hw.other b (fun e=>by have:=hh.low id p hm;omega)];exact hh.lj b hb
 ·rw [hw.size];exact hh.gH
 ·intro b _ cA;exact hw.other b (fun e=>cA (e▸JO hg hm))
 ·rintro b ⟨i,q,pi,h1,h2,h3⟩;by_cases hc:i=ct
  ·subst hc;rw [dW] at h2;injection h2 with h2
   subst h2;exact .inl ⟨id,o,p,hg,hm,by rw [<-h3,hb]⟩
  ·rw [eG hc] at h2;exact .inl ⟨i,q,pi,(e9 i q h1 hc).1,h2,h3⟩
def ab6 {P:xa} {e:yH} {s bX:Nat} {z:AV} (hs:cN P e=some s) (hb:zx P e=some bX) (hz:mC P e=some z):
  ∃ti zv,P.info? e=some ti/\ti.size=s/\ti.bytes=bX/\ti.zero=some zv/\z=eV zv:=by
 unfold cN at hs;unfold zx at hb;unfold mC at hz
 cases hi:P.info? e with
 | none=>simp [hi] at hs
 | some ti=>
  simp only [hi,ye] at hs hb hz
  cases eF:ti.zero with
  | none=>simp [eF] at hz
  | some zv=>
   grind
def Je {o:yZ} {v:AV} {u:yj} {w':ym} {m':Mp} {S':Nat->Prop} {ah:Hp} {aK:Nat} (h1:(execOp a.eval o).run O.P w= .ok (.value u) w') (h2:aV O m' S' w' ah aK) (h3:ai O.ae m' S' w' v u)
  (h4:dz m m') (h5:cp m S w hp m' S' w' ah ct):Ay O m S w a hp ct o v ah aK:=⟨_,u,w',m',S',h1,.inl rfl,h2,h3,h4,h5⟩
def ao0 {o:yZ} {b':yH} {t u e:yH} {sz bX:Nat} {z:AV} {x y:xC} {v:AV} {ah:Hp} {aK:Nat} (hH:fO O H) (ht:cf O m S w tm a.tmps) (hh:aV O m S w hp ct)
  (fR:(execOp a.eval o).run O.P w=((do pure (.value (<-Builtin.append_ #[t,u] b' #[a.eval x,a.eval y])):Sem yaO)).run O.P w)
  (zE:O.P.underlying t=some (.slice e)) (hu:(∃e',O.P.underlying u=some (.slice e'))\/O.P.underlying u=some .string) (hs:cN O.P e=some sz) (hb:zx O.P e=some bX) (hz:mC O.P e=some z) (r8:(cellsOf z).length=sz)
  (hv:cR tm hp ct (.cX sz bX (aP H x) (aP H y))=some (v,ah,aK)):Ay O m S w a hp ct o v ah aK:=by
 simp only [cR] at hv;obtain ⟨ti,zv,r9,rfl,rfl,L6,rfl⟩:=ab6 hs hb hz;have aR:∀u' w',(Builtin.append_ #[t,u] b' #[a.eval x,a.eval y]).run O.P w= .ok u' w'->(execOp a.eval o).run O.P w= .ok (.value u') w':=fun u' w' h=>by
  rw [fR,Sem.run_bind,h];rfl
 have sW:m ct=none:=by
  cases h:m ct with
  | none=>rfl
  | some q=>have:=hh.lt _ _ h;omega
 have Ez:zv.cells.size=ti.size:=by
  have:=iw _ _ (Df (ae:=O.ae) (m:=m) (S:=S) (w:=w) zv)
  rw [<-r8,<-this];simp
 cases lk:iP hp ti.size (aC tm (aP H y)) with
 | none=>simp [lk] at hv
 | some q=>
  obtain ⟨n,new⟩:=q;simp only [lk] at hv;obtain ⟨news,gO,dE⟩:=ZW hh (cE hH ht y) lk;have Hh:=iw _ _ gO;have rx:=cE hH ht x
  cases hx:aC tm (aP H x) with
  | ab=>
   rw [hx] at hv rx;simp only at hv;simp only [ai] at rx
   cases h0:yz n 0 with
   | true=>
    rw [h0] at hv;simp only [yD,ye,yr] at hv;obtain ⟨rfl,rfl,rfl⟩:=hv;have pL:=yt h0;subst pL;have UL:news=[]:=yF (by rw [dE.2.1];simp)
    subst UL;have hf:=dE.2.2 w rfl 0 (yq _);have lD:=dE.1 w;refine ⟨.value (.slice none 0 0),.slice none 0 0,w,m,S,?_,.inl rfl,hh,by simp [ai],dz.refl,cp.refl⟩;rw [fR,rx];rcases hu with ⟨e',hu⟩ | hu<;>
     simp [Builtin.append_,run_underlying zE,run_underlying hu,vR,typeInfo,r9,lD,hf]
   | false=>
    rw [h0] at hv;simp only [yW] at hv
    cases hc:(yK n room&&(yK (n*ti.bytes) room&&yQ 0 ti.size)) with
    | false=>rw [hc] at hv;cases hv
    | true=>
     rw [hc] at hv;simp only [yD,ye,yr] at hv;obtain ⟨rfl,rfl,rfl⟩:=hv;simp only [yi] at hc;have c1:=yB hc.1;have c2:=yB hc.2.1;simp only [room] at c1 c2;have pL:0<n:=by
      rcases xB n with h | h
      ·subst h;simp at h0
      ·exact h
     have hr:=Nl (P:=O.P) (ty:=b') (w:=w) zE hu r9 L6 (s:= .slice none 0 0) rfl (ab5 (P:=O.P) (size:=ti.size)) dE (by omega) (by omega) (by simpa using c2);simp only [yg,List.nil_append] at hr;have kD:=grownCap_ge w n 0 e;have jA:=Sw (e:=e) (z:=zv) (cap:=grownCap w n 0 e) hh gO (need:=n) (sz:=ti.size) dE.2.1 Ez (aH new) (fun h=>h) kD;obtain ⟨k1,k2⟩:=Sx hh (hp0:=hp) (p:=⟨w.heap.size,0,grownCap w n 0 e*ti.size,ti.size⟩) (fun _ _ h=>h) rfl jA;exact Je (aR _ _ (by rw [rx];exact hr)) k1 (by simp only [ai];exact ⟨_,_,dW,rfl,kD,by simp⟩) (jO sW) k2
  | aE ex k cs=>
   rw [hx] at hv rx
   cases ex with
   | false=>simp at hv
   | true=>
    simp only at hv;have rx0:=rx;simp only [ai] at rx;have rx1:∃ad mI,a.eval x= .slice (some ad) k k/\aA O.ae m S w cs mI/\mI.length=cs.length/\(∀(j:Nat) (u:yj),mI[j]? =some u->w.cell? (ad.add j)=some u)/\aH cs=true:=by
     rcases rx with ⟨bb,oo,c,ex,h1,h2,h3,h4,h5⟩ | ⟨ad,ex,rfl,rfl⟩
     ·have jU:c=k:=h2 (by trivial);subst jU;obtain ⟨mI,g1,g2,g3⟩:=sC cs bb oo h5;exact ⟨_,mI,ex,g1,g2,fun j u hj=>by rw [oZ];exact g3 j u hj,h4⟩
     ·exact ⟨ad,[],ex,by simp [aA],rfl,fun j u hj=>by simp at hj,rfl⟩
    obtain ⟨ad,mI,ex,g1,g2,g3,h4⟩:=rx1
    cases h0:yz n 0 with
    | true=>
     rw [h0] at hv;simp only [yD,ye,yr] at hv;obtain ⟨rfl,rfl,rfl⟩:=hv;have pL:=yt h0;subst pL;have UL:news=[]:=yF (by rw [dE.2.1];simp)
     subst UL;have hf:=dE.2.2 w rfl 0 (yq _);have lD:=dE.1 w;refine ⟨.value (a.eval x),a.eval x,w,m,S,?_,.inl rfl,hh,rx0,dz.refl,cp.refl⟩;rw [fR,ex];rcases hu with ⟨e',hu⟩ | hu<;>
      simp [Builtin.append_,run_underlying zE,run_underlying hu,vR,typeInfo,r9,lD,hf,storeCells]
    | false=>
     rw [h0] at hv;simp only [yW] at hv
     cases hc:(yK (k+n) room&&(yK ((k+n)*ti.bytes) room&&(yz cs.length (k*ti.size)&&yQ 0 ti.size))) with
     | false=>rw [hc] at hv;cases hv
     | true=>
      rw [hc] at hv;simp only [yD,ye,yr] at hv;obtain ⟨rfl,rfl,rfl⟩:=hv;simp only [yi] at hc;have c1:=yB hc.1;have c2:=yB hc.2.1;have c3:=yt hc.2.2.1;simp only [room] at c1 c2;have pL:0<n:=by
       rcases xB n with h | h
       ·subst h;simp at h0
       ·exact h
      have L7:Src O.P w ti.size k mI (.slice (some ad) k k):=Fu (by omega) g3;have hr:=Nl (P:=O.P) (ty:=b') (w:=w) zE hu r9 L6 rfl L7 dE (by omega) c1 c2;have kD:=grownCap_ge w (k+n) k e;have jA:=Sw (e:=e) (z:=zv) (cap:=grownCap w (k+n) k e) hh (mr g1 gO) (need:=k+n) (sz:=ti.size) (by rw [yG,g2,c3,dE.2.1,wS]) Ez (aH cs&&aH new)
       (fun h=>by simp only [yi] at h;exact Dg h.1 h.2) kD
      obtain ⟨k1,k2⟩:=Sx hh (hp0:=hp) (p:=⟨w.heap.size,0,grownCap w (k+n) k e*ti.size,ti.size⟩) (fun _ _ h=>h) rfl jA;exact Je (aR _ _ (by rw [ex];exact hr)) k1 (by simp only [ai];exact ⟨_,_,dW,rfl,kD,by simp⟩) (jO sW) k2
  | ak id o0 k=>
   rw [hx] at hv rx;simp only at hv;simp only [ai] at rx;obtain ⟨p,c,hm,ex,h1,h2⟩:=rx
   split at hv
   case h_2=>cases hv
   rename_i pu QE zz cs hg
   cases hc:(yz zz ti.size&&(yK (k+n) room&&(yK ((k+n)*ti.bytes) room&&(yK (o0+k*ti.size) cs.length&&(yQ 0 ti.size&&cw new))))) with
   | false=>rw [hc] at hv;cases hv
   | true=>
    rw [hc] at hv;simp only [yD,ye,yr] at hv;obtain ⟨rfl,rfl,rfl⟩:=hv;simp only [yi] at hc;have c0:=yt hc.1;have c1:=yB hc.2.1;have c2:=yB hc.2.2.1;have c3:=yB hc.2.2.2.1;have c4:=hc.2.2.2.2.2;simp only [room] at c1 c2;obtain ⟨p',arr,t',g1,g2,g3,g4,g5,g6,g7,g8,g9,g10⟩:=hh.obj id _ _ hg hm;rw [hm] at g1;injection g1 with g1
    subst g1;subst c0;rw [g3] at h2;have A9:bR O.ae m S w (slice o0 (k*ti.size) cs) p.b (p.o+o0):=By _ _ _ _ (rE _ _ _ _ g7);obtain ⟨mI,f1,f2,f3⟩:=sC _ _ _ A9;have PI:(slice o0 (k*ti.size) cs).length=k*ti.size:=by simp only [slice,yI,we];omega
    have eJ:(pu&&aH new)=true->aH (slice o0 (k*ti.size) cs++new)=true:=fun h=>by
     simp only [yi] at h;exact Dg (Bv _ (zW _ _ (g8 h.1))) h.2
    by_cases Gl:k+n<=c
    ·have fT:=NJ gO c4;have Vp:p.o+o0+k*ti.size+news.length<=arr.size:=by
      rw [dE.2.1]
      have:(k+n)*ti.size<=c*ti.size:=yS _ Gl
      rw [wS] at this;omega
     have hr:=aly (P:=O.P) (ty:=b') (w:=w) zE hu r9 g2 dE fT Gl Vp;have ho:∀m',dz m m'->m' ct=some ⟨p.b,p.o+o0,c*ti.size,ti.size⟩->
       fH O m' S (w.setRow p.b (arr.toList.take (p.o+o0+k*ti.size)++news++arr.toList.drop (p.o+o0+k*ti.size+news.length)).toArray) ct
        (.cells true (pu&&aH new) false ti.size (slice o0 (k*ti.size) cs++new)):=by
      intro m' hle hi;have aJ:fZ S w (w.setRow p.b (arr.toList.take (p.o+o0+k*ti.size)++news++arr.toList.drop (p.o+o0+k*ti.size+news.length)).toArray):=fun b hb=>setRow_other w p.b b _ (fun e=>g9 rfl (e▸hb))
      refine ⟨_,_,t',hi,setRow_heap w p.b arr _ t' _ g2,rfl,?_,?_,by simp,?_,eJ,fun _=>g9 rfl,by simp⟩
      ·show (slice o0 (k*ti.size) cs++new).length<=c*ti.size
       rw [yG,PI,<-Hh,dE.2.1,<-wS];exact yS _ Gl
      ·show p.o+o0+c*ti.size<=_
       rw [uO,yG,yG,yI,we,vI];omega
      ·refine Fy _ (mI++news) _ (mr (iv hle (fun _ h=>h) aJ _ _ f1) (iv hle (fun _ h=>h) aJ _ _ gO)) (fun j u hj=>?_);show World.cell? _ ⟨p.b,p.o+o0+j,none⟩=some u
       simp only [World.cell?,setRow_heap w p.b arr _ t' _ g2,yau,yN,xn];rw [yap];have e1:(arr.toList.take (p.o+o0+k*ti.size)).length=p.o+o0+k*ti.size:=by rw [yI,vI];omega
       by_cases W1:j<k*ti.size
       ·rw [wC (by omega)] at hj;rw [xm,wC (by omega),uA (by omega)]
        have:=f3 j u hj
        simpa [World.cell?,g2] using this
       ·rw [xS (by omega)] at hj;have hjl:=(List.getElem?_eq_some_iff.1 hj).1;rw [xm,xS (by omega),e1,wC (by omega),show p.o+o0+j-(p.o+o0+k*ti.size)=j-mI.length by omega];exact hj
     obtain ⟨k1,k2⟩:=anc (p':=⟨p.b,p.o+o0,c*ti.size,ti.size⟩) hh hg hm (g9 rfl) (Se w p.b _) (fun r hr=>by rw [g2] at hr;cases hr) rfl ho;exact Je (aR _ _ (by rw [ex];exact hr)) k1 (by simp only [ai];exact ⟨_,c,dW,rfl,Gl,by simp⟩) (jO sW) k2
    ·have L7:Src O.P w ti.size k mI (.slice (some ⟨p.b,p.o+o0,none⟩) k c):=Fu (by omega) (fun j u hj=>by rw [oZ];exact f3 j u hj)
     have hr:=Nl (P:=O.P) (ty:=b') (w:=w) zE hu r9 L6 rfl L7 dE (by omega) c1 c2;have kD:=grownCap_ge w (k+n) c e;have jA:=Sw (e:=e) (z:=zv) (cap:=grownCap w (k+n) c e) hh (mr f1 gO) (need:=k+n) (sz:=ti.size) (by rw [yG,f2,PI,dE.2.1,wS]) Ez (pu&&aH new) eJ kD;obtain ⟨k1,k2⟩:=Sx hh (hp0:=dJ hp id) (p:=⟨w.heap.size,0,grownCap w (k+n) c e*ti.size,ti.size⟩) (fun i q h=>by
      rw [I5] at h;by_cases hi:id=i
      ·simp [hi] at h
      ·simpa only [hi,xn] using h) rfl jA
     exact Je (aR _ _ (by rw [ex];exact hr)) k1 (by simp only [ai];exact ⟨_,_,dW,rfl,kD,by simp⟩) (jO sW) k2
  | _=>rw [hx] at hv;simp at hv
end
end
section
open Go
section
variable {O:bl} {H:Hint} {m:Mp} {S:Nat->Prop} {w:ym} {tm:Env} {a:Act} {hp:Hp} {ct:Nat}
def alM {n:Nat} {cs:List AV} (h:aH cs=true):aH (cs.take n)=true:=Bv n h
def YE:∀(n:Nat) {cs:List AV},cw cs=true->cw (cs.take n)=true
 | 0,_,_=>by simp [cw]
 | n+1,[],_=>by simp [cw]
 | n+1,c::cs,h=>by
  simp only [wI,cw,yi] at h ⊢;exact ⟨h.1,YE n h.2⟩
def ao1 {o:yZ} {b':yH} {t u e:yH} {sz:Nat} {x y:xC} {v:AV} {ah:Hp} {aK:Nat} (hH:fO O H) (ht:cf O m S w tm a.tmps) (hh:aV O m S w hp ct)
  (fR:(execOp a.eval o).run O.P w=((do pure (.value (<-Builtin.copy_ #[t,u] b' #[a.eval x,a.eval y])):Sem yaO)).run O.P w)
  (zE:O.P.underlying t=some (.slice e)) (hs:cN O.P e=some sz)
  (hv:cR tm hp ct (.oA sz (aP H x) (aP H y))=some (v,ah,aK)):Ay O m S w a hp ct o v ah aK:=by
 simp only [cR] at hv
 cases lk:iN hp sz (aC tm (aP H y)) with
 | none=>simp [lk] at hv
 | some q=>
  obtain ⟨n,new⟩:=q;simp only [lk] at hv;obtain ⟨news,gO,dE⟩:=Zd hh (cE hH ht y) lk;have Hh:=iw _ _ gO;have rx:=cE hH ht x;cases hx:aC tm (aP H x)<;>rw [hx] at hv rx<;>simp only [reduceCtorEq] at hv
  rename_i id o0 k;simp only [ai] at rx;obtain ⟨p,c,hm,ex,h1,h2⟩:=rx
  split at hv
  case h_2=>cases hv
  rename_i pu QE zz cs hg
  cases hc:(yz zz sz&&(yK (o0+k*sz) cs.length&&cw new)) with
  | false=>rw [hc] at hv;cases hv
  | true=>
   rw [hc] at hv;simp only [yD,ye,yr] at hv;obtain ⟨rfl,rfl,rfl⟩:=hv;simp only [yi] at hc;have c0:=yt hc.1;have c1:=yB hc.2.1;subst c0;obtain ⟨p',arr,t',g1,g2,g3,g4,g5,g6,g7,g8,g9,g10⟩:=hh.obj id _ _ hg hm;rw [hm] at g1;injection g1 with g1
   subst g1;have ahs:min n k*zz<=k*zz:=yS _ (Nat.min_le_right _ _);have aEf:min n k*zz<=n*zz:=yS _ (ybi _ _);have rt:=Ft (min n k*zz) gO;have zF:(news.take (min n k*zz)).length=min n k*zz:=by rw [yI,dE.2.1];omega
   have aEo:(new.take (min n k*zz)).length=min n k*zz:=by rw [yI,<-Hh,dE.2.1];omega
   have fT:=NJ rt (YE _ hc.2.2);have hf:=dE.2.2 w rfl (min n k) (ybi _ _);have aJ:=run_storeCells_at O.P p.b (p.o+o0) t' (news.take (min n k*zz)) 0 arr w g2 (by rw [zF];omega) fT;simp only [y7] at aJ;have pK:fH O m S (w.setRow p.b (arr.toList.take (p.o+o0)++news.take (min n k*zz)++arr.toList.drop (p.o+o0+(news.take (min n k*zz)).length)).toArray) id
     (.cells true (pu&&aH new) QE zz (over o0 (new.take (min n k*zz)) cs)):=by
    refine ⟨p,_,t',hm,setRow_heap w p.b arr _ t' _ g2,g3,by rw [N1 (by omega)];exact g4,?_,fun h=>by rw [N1 (by omega)];exact g6 h,?_,?_,fun _=>g9 rfl,by simp⟩
    ·rw [uO,yG,yG,yI,we,vI,zF];omega
    ·exact aaR g2 g7 rt (by omega) (by omega) dz.refl (fun _ h=>h) (fun b hb=>setRow_other w p.b b _ (fun e=>g9 rfl (e▸hb))) (setRow_heap w p.b arr _ t' _ g2)
    ·intro h;simp only [yi] at h;exact Zb (g8 h.1) (alM h.2)
   obtain ⟨e1,e2⟩:=Jd hh hg hm (g9 rfl) (Se w p.b _) pK (fun r hr=>by rw [g2] at hr;cases hr)
   refine Je (u:=goInt ((min n k:Nat):Int)) (m':=m) (S':=S) ?_ e1 (by simp [ai,goInt]) dz.refl e2;rw [fR,ex];simp [Builtin.copy_,run_underlying zE,dE.1 w,oR hs,show Nat.min n k=min n k from rfl,hf,aJ]
def are {o:yZ} {k:Nat} {v:AV} {ah:Hp} {aK:Nat} (hH:fO O H) (ht:cf O m S w tm a.tmps) (hh:aV O m S w hp ct)
  (hv:cR tm hp ct (aX O.P H k o)=some (v,ah,aK)):Ay O m S w a hp ct o v ah aK:=by
 have iU:∀{r:AV×Hp×Nat},cR tm hp ct bad=some r->False:=fun h=>by simp [bad,cR] at h
 cases ho:o.op with
 | call c=>
  obtain ⟨callee,args,ts⟩:=c;simp only [aX,ho] at hv
  split at hv
  ·cases LZ:H.mode k<;>simp [LZ,cR] at hv
  ·rename_i _ b
   split at hv
   ·rename_i x y t u gI nG;obtain ⟨al⟩:=args;obtain ⟨tl⟩:=ts;simp only at gI nG;subst gI;subst nG;obtain ⟨cs,fR⟩:=Fk (O:=O) (w:=w) (a:=a) ho;have Kx:(execOp a.eval o).run O.P w=((do pure (.value (<-Builtin.append_ #[t,u] o.type #[a.eval x,a.eval y])):Sem yaO)).run O.P w:=by
     rw [fR];simp [builtin]
    have key:∀{z:AV} {sz bX:Nat} {e:yH},O.P.underlying t=some (.slice e)->((∃e',O.P.underlying u=some (.slice e'))\/O.P.underlying u=some .string)->cN O.P e=some sz->zx O.P e=some bX->mC O.P e=some z->
      cR tm hp ct (bif yz (cellsOf z).length sz then .cX sz bX (aP H x) (aP H y) else bad)=some (v,ah,aK)->Ay O m S w a hp ct o v ah aK:=by
     intro z sz bX e h1 h2 h3 h4 h5 h
     cases hb:yz (cellsOf z).length sz with
     | false=>rw [hb] at h;exact (iU h).elim
     | true=>
      rw [hb] at h;exact ao0 hH ht hh Kx h1 h2 h3 h4 h5 (yt hb) h
    split at hv
    ·rename_i e e' h1 h2
     split at hv
     ·rename_i sz bX z h3 h4 h5
      exact key h1 (.inl ⟨_,h2⟩) h3 h4 h5 hv
     ·exact (iU hv).elim
    ·rename_i e h1 h2
     split at hv
     ·rename_i sz bX z h3 h4 h5
      exact key h1 (.inr h2) h3 h4 h5 hv
     ·exact (iU hv).elim
    ·exact (iU hv).elim
   ·repeat' split at hv
    all_goals simp [cR,bad] at hv
   ·rename_i x y t u gI nG;obtain ⟨al⟩:=args;obtain ⟨tl⟩:=ts;simp only at gI nG;subst gI;subst nG;obtain ⟨cs,fR⟩:=Fk (O:=O) (w:=w) (a:=a) ho;have Kx:(execOp a.eval o).run O.P w=((do pure (.value (<-Builtin.copy_ #[t,u] o.type #[a.eval x,a.eval y])):Sem yaO)).run O.P w:=by
     rw [fR];simp [builtin]
    split at hv
    ·rename_i e h1
     split at hv
     ·rename_i sz h3;exact ao1 hH ht hh Kx h1 h3 hv
     ·exact (iU hv).elim
    ·exact (iU hv).elim
   ·simp [cR] at hv
   ·simp [cR] at hv
   ·exact (iU hv).elim
  ·exact (iU hv).elim
 | store t x y=>
  simp only [aX,ho] at hv
  split at hv
  ·rename_i s hs;exact arb hH ht hh ho hs hv
  ·exact (iU hv).elim
 | mapUpdate t x k y=>
  simp only [aX,ho] at hv
  split at hv
  ·rename_i kt e hu
   split at hv
   ·rename_i kk rZ;exact aaS hH ht hh (.inl ho) hu rZ hv
   ·exact (iU hv).elim
  ·exact (iU hv).elim
 | insert t x k y=>
  simp only [aX,ho] at hv
  split at hv
  ·rename_i kt e hu
   split at hv
   ·rename_i kk rZ;exact aaS hH ht hh (.inr ho) hu rZ hv
   ·exact (iU hv).elim
  ·exact (iU hv).elim
 | next x b=>
  cases b with
  | false=>simp only [aX,ho] at hv;exact (iU hv).elim
  | true=>exact aoZ hH ht hh ho (by simpa only [aX,ho] using hv)
 | binOp op t x y ty=>
  cases op<;>simp only [aX,ho,oY,qj] at hv
  case eql=>
        repeat' split at hv
        all_goals first
         | (simp [cR,bad] at hv;done)
         | (cases hb:(O.P.stoodInHeld t||O.P.eqGuardType O.P.depth t)<;>rw [hb] at hv<;>simp [cR,bad] at hv)
  case neq=>
        repeat' split at hv
        all_goals first
         | (simp [cR,bad] at hv;done)
         | (cases hb:(O.P.stoodInHeld t||O.P.eqGuardType O.P.depth t)<;>rw [hb] at hv<;>simp [cR,bad] at hv)
  all_goals simp [cR] at hv
 | buildSlice t n parts=>
  simp only [aX,ho] at hv
  repeat' split at hv
  all_goals first
   | (simp [cR,bad] at hv;done)
   | (
     revert hv;generalize yK _ _=bb;intro hv;cases bb<;>simp [cR,bad] at hv
     try (split at hv<;>simp [cR,bad] at hv))
 | makeMap t r=>
  cases r<;>simp only [aX,ho] at hv
  ·repeat' split at hv
   all_goals simp [cR,bad] at hv
  ·exact (iU hv).elim
 | _=>
  simp only [aX,ho] at hv
  (repeat' split at hv)
  all_goals first
   | contradiction
   | (simp [cR,bad] at hv;done)
end
end
section
variable {hp H:Hp} {tm tm':Env}
def ab7 (hl:df hp H) {id:Nat} {rw pu ex:Bool} {sz:Nat} {cs:List AV} (h:ao hp id=some (.cells rw pu ex sz cs)):∃bS,ao H id=some (.cells bS pu ex sz cs):=by
 obtain ⟨o',h1,bS,rfl,_⟩:=hl id _ h;exact ⟨bS,h1⟩
def ab8 (hl:df hp H) {id:Nat} {rw:Bool} {ks vs:List AV} (h:ao hp id=some (.mp rw ks vs)):∃bS,ao H id=some (.mp bS ks vs):=by
 obtain ⟨o',h1,bS,rfl,_⟩:=hl id _ h;exact ⟨bS,h1⟩
def ab9 (hl:df hp H) {sz:Nat} {ag:Bool} {x v:AV} (h:jz hp sz ag x=some v):jz H sz ag x=some v:=by
 cases x<;>simp only [jz,reduceCtorEq] at h ⊢
 ·rename_i id o
  cases hg:ao hp id with
  | none=>simp [hg] at h
  | some ob=>
   cases ob<;>simp only [hg,reduceCtorEq] at h
   obtain ⟨r,h1⟩:=ab7 hl hg;simp only [h1];exact h
 ·exact h
def ao2 (hl:df hp H) {k x:AV} {v:Option AV} (h:B6 hp k x=some v):B6 H k x=some v:=by
 cases x<;>simp only [B6,reduceCtorEq] at h ⊢
 ·exact h
 ·rename_i id
  cases hg:ao hp id with
  | none=>simp [hg] at h
  | some ob=>
   cases ob<;>simp only [hg,reduceCtorEq] at h
   obtain ⟨r,h1⟩:=ab8 hl hg;simp only [h1];exact h
 ·exact h
def ao3 (hl:df hp H) {k:Nat} {x v:AV} (h:gg hp k x=some v):gg H k x=some v:=by
 unfold gg at h ⊢
 split at h
 all_goals first
  | exact h
  | cases h
  | skip
 rename_i id
 cases hg:ao hp id with
 | none=>simp [hg] at h
 | some ob=>
  cases ob<;>simp only [hg,reduceCtorEq] at h
  obtain ⟨r,h1⟩:=ab8 hl hg;simp only [h1];exact h
def ao4 (hl:df hp H) {k:Cut} {x v:AV} {lo hi:Option X} (h:fG hp k x tm lo hi=some v):fG H k x tm lo hi=some v:=by
 unfold fG at h ⊢
 split at h
 all_goals first
  | exact h
  | cases h
  | skip
 rename_i sz id o n
 cases hg:ao hp id with
 | none=>simp [hg] at h
 | some ob=>
  cases ob<;>simp only [hg,reduceCtorEq] at h
  obtain ⟨r,h1⟩:=ab7 hl hg;simp only [h1];exact h
def ane (hl:df hp H) {o:Op} {v:AV} (h:bB tm hp o=some v):bB tm H o=some v:=by
 cases o<;>simp only [bB,reduceCtorEq] at h ⊢<;>first
  | exact h
  | exact ab9 hl h
  | exact ao3 hl h
  | exact ao4 hl h
  | skip
 rename_i kk zero ok m k
 cases hk:Ab kk (aC tm k) with
 | false=>rw [hk] at h;cases h
 | true=>
  rw [hk] at h;simp only [yD] at h ⊢
  cases hr:B6 hp (aC tm k) (aC tm m) with
  | none=>simp [hr] at h
  | some r=>rw [ao2 hl hr];simpa only [hr] using h
def anf {o:Op} (hk:bC o=0) (hp H:Hp):bB tm hp o=bB tm H o:=by
 cases o with
 | qZ k x lo hi=>
  cases k with
  | str=>simp only [bB,fG];cases aC tm x<;>rfl
  | sl sz=>simp [bC] at hk
  | ar n sz=>simp [bC] at hk
 | len k x=>
  match k,hk with
  | 0,_=>simp only [bB];unfold gg;split<;>simp_all
  | 1,_=>simp only [bB];unfold gg;split<;>simp_all
  | k+2,hk=>simp [bC] at hk
 | call md f xs=>cases md<;>simp [bC] at hk
 | _=>first
  | rfl
  | simp [bC] at hk
end
section
variable {tm tm':Env}
def dQ {x:X} (h:∀t,t∈jw x->af tm' t=af tm t):aC tm' x=aC tm x:=by
 cases x with
 | t i=>exact h i (by simp [jw])
 | c v=>rfl
def Dj:∀{xs:List X},(∀t,t∈Ao xs->af tm' t=af tm t)->dH tm' xs=dH tm xs
 | [],_=>rfl
 | x::r,h=>by
  simp only [dH]
  rw [dQ (x:=x) (fun t ht=>h t (by simp [Ao,ht])),Dj (fun t ht=>h t (by simp [Ao,ht]))]
def Sy:∀{ps:List (Nat×Nat×X)} {z:List AV},(∀t,t∈Kt ps->af tm' t=af tm t)->fill tm' z ps=fill tm z ps
 | [],_,_=>rfl
 | (o,s,x)::r,z,h=>by
  simp only [fill]
  rw [dQ (x:=x) (fun t ht=>h t (by simp [Kt,ht]))]
  rw [Sy (ps:=r) (fun t ht=>h t (by simp [Kt,ht]))]
def Ze {d:Nat} {x:Option X} (h:∀t,t∈Ks x->af tm' t=af tm t):dl tm' d x=dl tm d x:=by
 cases x with
 | none=>rfl
 | some x=>simp only [dl];rw [dQ h]
def amf {hp:Hp} {k:Cut} {x:AV} {lo hi:Option X} (h1:∀t,t∈Ks lo->af tm' t=af tm t) (h2:∀t,t∈Ks hi->af tm' t=af tm t):
  fG hp k x tm' lo hi=fG hp k x tm lo hi:=by
 unfold fG;simp only [Ze h1,Ze h2]
def alN {hp:Hp} {o:Op} (h:∀t,t∈kU o->af tm' t=af tm t):bB tm' hp o=bB tm hp o:=by
 cases o<;>simp only [kU,xL] at h<;>simp only [bB]
 case pick c a b=>rw [dQ (x:=c) fun t ht=>h t (.inl ht),dQ (x:=a) fun t ht=>h t (.inr (.inl ht)),dQ (x:=b) fun t ht=>h t (.inr (.inr ht))]
 case B4 z ps=>rw [Sy h]
 case G9 f a b=>rw [Dj (xs:=a) fun t ht=>h t (.inl ht),Dj (xs:=b) fun t ht=>h t (.inr ht)]
 case qZ k x lo hi=>rw [dQ (x:=x) fun t ht=>h t (.inl ht),amf (fun t ht=>h t (.inr (.inl ht))) (fun t ht=>h t (.inr (.inr ht)))]
 case mn xs=>rw [Dj h]
 case mx xs=>rw [Dj h]
 case bin op x y=>rw [dQ (x:=x) fun t ht=>h t (.inl ht),dQ (x:=y) fun t ht=>h t (.inr ht)]
 case eq n k x y=>rw [dQ (x:=x) fun t ht=>h t (.inl ht),dQ (x:=y) fun t ht=>h t (.inr ht)]
 case bi s x y=>rw [dQ (x:=x) fun t ht=>h t (.inl ht),dQ (x:=y) fun t ht=>h t (.inr ht)]
 case Ha l s x y=>rw [dQ (x:=x) fun t ht=>h t (.inl ht),dQ (x:=y) fun t ht=>h t (.inr ht)]
 case Hb x y=>rw [dQ (x:=x) fun t ht=>h t (.inl ht),dQ (x:=y) fun t ht=>h t (.inr ht)]
 case Hc l s g x y=>rw [dQ (x:=x) fun t ht=>h t (.inl ht),dQ (x:=y) fun t ht=>h t (.inr ht)]
 case Qz kk z ok x y=>rw [dQ (x:=x) fun t ht=>h t (.inl ht),dQ (x:=y) fun t ht=>h t (.inr ht)]
 all_goals first
  | rfl
  | (rename_i x;rw [dQ (x:=x) h])
def IU {hp ah:Hp} {ct:Nat} {o:Op} (h:∀t,t∈kU o->af tm' t=af tm t):cW tm' ah ct o=cW tm hp ct o:=by
 cases o<;>simp only [kU,xL] at h<;>simp only [cW]
 case box s x=>rw [dQ (x:=x) h]
 case nl n s z ps=>rw [Sy h]
 case pE s b z x y=>rw [dQ (x:=x) fun t ht=>h t (.inl ht),dQ (x:=y) fun t ht=>h t (.inr ht)]
 case q9 x=>rw [dQ (x:=x) h]
def Dh {hp:Hp} {ct:Nat} {o:Op} (h:∀t,t∈kU o->af tm' t=af tm t):cR tm' hp ct o=cR tm hp ct o:=by
 cases o<;>simp only [kU,xL] at h<;>simp only [cR]
 case st s x y=>rw [dQ (x:=x) fun t ht=>h t (.inl ht),dQ (x:=y) fun t ht=>h t (.inr ht)]
 case q8 kk c a b=>rw [dQ (x:=c) fun t ht=>h t (.inl ht),dQ (x:=a) fun t ht=>h t (.inr (.inl ht)),dQ (x:=b) fun t ht=>h t (.inr (.inr ht))]
 case rb x=>rw [dQ (x:=x) h]
 case cX s b x y=>rw [dQ (x:=x) fun t ht=>h t (.inl ht),dQ (x:=y) fun t ht=>h t (.inr ht)]
 case oA s x y=>rw [dQ (x:=x) fun t ht=>h t (.inl ht),dQ (x:=y) fun t ht=>h t (.inr ht)]
end
section
open Go
structure Calm (w w':ym):Prop where
 os:w'.os=w.os
 tape:w'.tape=w.tape
 output:w'.output=w.output
 size:w.heap.size<=w'.heap.size
 same:∀b,b<w.heap.size->w'.heap[b]? =w.heap[b]?
def Calm.refl {w:ym}:Calm w w:=⟨rfl,rfl,rfl,yq _,fun _ _=>rfl⟩
def B7 (O:bl) (w:ym):Prop:=(∀b,b<O.w0.heap.size->w.heap[b]? =O.w0.heap[b]?)/\O.w0.heap.size<=w.heap.size
def fE:Mp:=fun _=>none
def iV (ae:Nat->Nat) (S:Nat->Prop) (w:ym) (lo:Nat):AV->yj->List Nat->Prop
 | .bV ex sz n cs,u,bs=>∃b o c arr t,bs=[b]/\u= .slice (some ⟨b,o,none⟩) n c/\n<=c/\(ex=true->c=n)/\lo<=b/\¬S b/\w.heap[b]? =some (.cells arr t (0,0))/\cs.length=n*sz/\
   o+c*sz<=arr.size/\bR ae fE S w cs b o/\aH cs=true
 | r,u,bs=>bs=[]/\ai ae fE S w r u/\a7 r=true
def ma (ae:Nat->Nat) (S:Nat->Prop) (w:ym) (lo:Nat):List AV->List yj->List Nat->Prop
 | [],us,bs=>us=[]/\bs=[]
 | v::r,us,bs=>∃u t b1 b2,us=u::t/\bs=b1++b2/\iV ae S w lo v u b1/\ma ae S w lo r t b2
def pq (ae:Nat->Nat) (S:Nat->Prop) (w:ym) (lo:Nat) (r:AV) (u:yj):Prop:=
 match r with
 | .az vs=>∃(us:Array yj) (bs:List Nat),u= .tuple us/\ma ae S w lo vs us.toList bs/\bs.Nodup
 | r=>∃bs,iV ae S w lo r u bs
def BO (P:xa) (f:FuncId) (args:Array yj) (w:ym) (R:ybj->ym->Prop):Prop:=
 ((callFunc f args).run P w= .ok (.enter f args) w/\CallsIn Fence.wide 0 P f args w R)\/∃u w',(callFunc f args).run P w= .ok (.value u) w'/\R (.returned u) w'
def aaT (O:bl) (w:ym) (S:Nat->Prop) (r:AV) (e:ybj) (w':ym):Prop:=
 ∃u S',e= .returned u/\Calm w w'/\(∀b,S b->S' b)/\(∀b,S' b->S b\/w.heap.size<=b)/\(∀b,S' b->b<w'.heap.size)/\pq O.ae S' w' w.heap.size r u
def fc (O:bl) (n:Nat) (ax:List AV) (r:AV):Prop:=
 ∀(w:ym) (S:Nat->Prop) (args:Array yj),B7 O w->(∀b,S b->b<w.heap.size)->aA O.ae fE S w ax args.toList->aH ax=true->
  BO O.P (O.ae n) args w (aaT O w S r)
def zY (O:bl) (m:Mp) (S:Nat->Prop) (w:ym) (hp:Hp) (ct:Nat) (v:AV) (ah:Hp) (aK:Nat) (e:ybj) (w':ym):Prop:=
 ∃u m' S',e= .returned u/\aV O m' S' w' ah aK/\ct<=aK/\ai O.ae m' S' w' v u/\cp m S w hp m' S' w' ah ct
def B8 (O:bl) (n:Nat) (hp:Hp) (ct:Nat) (ax:List AV) (v:AV) (ah:Hp) (aK:Nat):Prop:=
 ∀(m:Mp) (S:Nat->Prop) (w:ym) (args:Array yj),aV O m S w hp ct->aA O.ae m S w ax args.toList->BO O.P (O.ae n) args w (zY O m S w hp ct v ah aK)
section
variable {ae:Nat->Nat} {m m':Mp} {S S':Nat->Prop} {w w':ym}
mutual
def rH (hS:∀b,S b->S' b) (hw:fZ S w w'):∀(v:AV) (u:yj),a7 v=true->ai ae m S w v u->ai ae m' S' w' v u
 | .int _ _,_,_,h | .bool _,_,_,h | .dD _ _,_,_,h | .str _,_,_,h | .mH,_,_,h | .ab,_,_,h | .jy,_,_,h | .lh,_,_,h | .undef,_,_,h=>by
  simpa only [ai] using h
 | .ptr id o,u,hp,h=>by simp [a7] at hp
 | .aO cs,u,hp,h=>by
  simp only [ai] at h ⊢;obtain ⟨b,o,h1,h2,h3,h4⟩:=h;refine ⟨b,o,h1,h2.imp id (hS b),h3,?_⟩;rcases h2 with rfl | h2
  ·simp only [bR]
  ·exact Sf hS hw cs b o h3 h2 h4
 | .aE ex n cs,u,hp,h=>by
  simp only [ai] at h ⊢;rcases h with ⟨b,o,c,h1,h2,h3,h4,h5,h6⟩ | h
  ·refine .inl ⟨b,o,c,h1,h2,h3,h4.imp id (hS b),h5,?_⟩;rcases h4 with rfl | h4
   ·simp only [bR]
   ·exact Sf hS hw cs b o h5 h4 h6
  ·exact .inr h
 | .bV _ _ _ _,u,hp,h=>by simp [a7] at hp
 | .ak id o n,u,hp,h=>by simp [a7] at hp
 | .fn (.f g) first cap,u,hp,h=>by
  simp only [ai] at h ⊢;simp only [a7,yi] at hp;obtain ⟨fi,ca,h1,h2,h3⟩:=h;exact ⟨fi,ca,h1,zX hS hw first _ hp.1 h2,zX hS hw cap _ hp.2 h3⟩
 | .fn (.y l) _ _,u,hp,h=>by simp [a7] at hp
 | .map id,u,hp,h=>by simp [a7] at hp
 | .ko ks vs,u,hp,h=>by
  simp only [ai] at h ⊢;obtain ⟨b,es,clock,h1,h2,h3,h4,h5,h6,h7⟩:=h;exact ⟨b,es,clock,h1,hS b h2,h3,h4,(hw b h2).trans h5,zX hS hw ks _ h3 h6,zX hS hw vs _ h4 h7⟩
 | .it id,u,hp,h=>by simp [a7] at hp
 | .agg cs,u,hp,h=>by
  simp only [ai] at h ⊢;simp only [a7] at hp;obtain ⟨xs,h1,h2⟩:=h;exact ⟨xs,h1,zX hS hw cs _ hp h2⟩
 | .az cs,u,hp,h=>by
  simp only [ai] at h ⊢;simp only [a7] at hp;obtain ⟨xs,h1,h2⟩:=h;exact ⟨xs,h1,zX hS hw cs _ hp h2⟩
def zX (hS:∀b,S b->S' b) (hw:fZ S w w'):∀(vs:List AV) (us:List yj),aH vs=true->aA ae m S w vs us->aA ae m' S' w' vs us
 | [],us,_,h=>by simpa only [aA] using h
 | v::r,us,hp,h=>by
  simp only [aA] at h ⊢;simp only [aH,yi] at hp;obtain ⟨u,t,h1,h2,h3⟩:=h;exact ⟨u,t,h1,rH hS hw v u hp.1 h2,zX hS hw r t hp.2 h3⟩
def Sf (hS:∀b,S b->S' b) (hw:fZ S w w'):∀(cs:List AV) (b o:Nat),aH cs=true->S b->bR ae m S w cs b o->bR ae m' S' w' cs b o
 | [],_,_,_,_,_=>by simp only [bR]
 | c::cs,b,o,hp,hb,h=>by
  simp only [bR] at h ⊢;simp only [aH,yi] at hp;obtain ⟨⟨u,h1,h2⟩,h3⟩:=h;exact ⟨⟨u,(Nk (hw b hb)).trans h1,rH hS hw c u hp.1 h2⟩,Sf hS hw cs b (o+1) hp.2 hb h3⟩
end
def Di (hS:∀b,S b->S' b) (hw:fZ S w w'):∀(cs:List AV) (b o:Nat),aH cs=true->w'.heap[b]? =w.heap[b]? ->bR ae m S w cs b o->bR ae m' S' w' cs b o
 | [],_,_,_,_,_=>by simp only [bR]
 | c::cs,b,o,hp,hb,h=>by
  simp only [aH,yi] at hp;obtain ⟨⟨u,h1,h2⟩,h3⟩:=h;exact ⟨⟨u,(Nk hb).trans h1,rH hS hw c u hp.1 h2⟩,Di hS hw cs b (o+1) hp.2 hb h3⟩
end
section
variable {O:bl} {m:Mp} {S S':Nat->Prop} {w w':ym} {hp:Hp} {ct:Nat}
def ang (hh:aV O m S w hp ct) (hw:Calm w w'):fZ S w w':=fun b hb=>hw.same b (hh.slt b hb)
def Dl (hh:aV O m S w hp ct) (hw:Calm w w') (hS:∀b,S b->S' b) (hn:∀b,S' b->S b\/w.heap.size<=b) (hl:∀b,S' b->b<w'.heap.size):aV O m S' w' hp ct where
 obj id o p ho hm:=sD (fun _ _ h=>h) hS (ang hh hw) (fun q hq=>hw.same _ (hh.blt id q hq)) (fun q hq hs=>(hn _ hs).resolve_right (by have:=hh.blt id q hq;omega)) (hh.obj id o p ho hm)
 lt:=hh.lt
 inj:=hh.inj
 slt:=hl
 blt id p h:=yV (hh.blt id p h) hw.size
 low:=hh.low
 lj b hb:=(hw.same b (yV hb hh.gH)).trans (hh.lj b hb)
 gH:=Nat.le_trans hh.gH hw.size
 aU:=hh.aU
def BF {base:Nat} (hh:aV O m S w hp ct) (hw:Calm w w') (hS:∀b,S b->S' b) (hn:∀b,S' b->S b\/w.heap.size<=b):cp m S w hp m S' w' hp base where
 os:=hw.os
 tape:=hw.tape
 output:=hw.output
 size:=hw.size
 same b hb _:=hw.same b hb
 sub:=hS
 still b hb:=hw.same b (hh.slt b hb)
 new b hb:=(hn b hb).imp id .inr
 own b hb:= .inl hb
 old _ _ _ h:=h
 loops b r hb:=⟨r,(hw.same b (xF.1 hb).1).trans hb⟩
def ao5 {i:Nat} (hh:aV O m S w hp ct) (hi:m i=none) (zB:i<ct) {p:Pl} (hb:p.b<w.heap.size) (bj:O.w0.heap.size<=p.b) (Hf:¬S p.b) (pM:∀j q,m j=some q->q.b≠p.b)
  (hf:∀o,ao hp i=some o->(fH O (fS m i p) S w i o/\¬je o)\/(je o/\fH O (fS m i p) (fun b=>S b\/b=p.b) w i o)):
  ∃S',aV O (fS m i p) S' w hp ct/\(∀b,S b->S' b)/\∀b,S' b->S b\/b=p.b:=by
 have aJ:fZ S w w:=fun _ _=>rfl
 have gen:∀S':Nat->Prop,(∀b,S b->S' b)->(∀b,S' b->S b\/b=p.b)->(∀o,ao hp i=some o->fH O (fS m i p) S' w i o)->aV O (fS m i p) S' w hp ct:=by
  intro S' h1 h2 h3;refine ⟨?_,?_,?_,?_,?_,?_,hh.lj,hh.gH,hh.aU⟩
  ·intro id o q ho hm;by_cases hc:id=i
   ·grind
   ·rw [eG hc] at hm;refine sD (jO hi) h1 aJ (fun _ _=>rfl) (fun q' bI hs=>?_) (hh.obj id o q ho hm)
    grind
  ·intro id q hm;by_cases hc:id=i
   ·grind
   ·rw [eG hc] at hm;exact hh.lt id q hm
  ·intro a b oa ob pa pb ha cA Ey AJ e;by_cases ca:a=i
   ·by_cases cb:b=i
    ·grind
    ·subst ca;rw [dW] at Ey;rw [eG cb] at AJ
     grind
   ·rw [eG ca] at Ey;by_cases cb:b=i
    ·subst cb;rw [dW] at AJ
     grind
    ·rw [eG cb] at AJ;exact hh.inj a b oa ob pa pb ha cA Ey AJ e
  ·intro b hs;rcases h2 b hs with h | h
   ·exact hh.slt b h
   ·grind
  ·intro id q hm;by_cases hc:id=i
   ·subst hc;rw [dW] at hm
    grind
   ·rw [eG hc] at hm;exact hh.blt id q hm
  ·intro id q hm;by_cases hc:id=i
   ·subst hc;rw [dW] at hm
    grind
   ·rw [eG hc] at hm;exact hh.low id q hm
 cases ho:ao hp i with
 | none=>exact ⟨S,gen S (fun _ h=>h) (fun _ h=> .inl h) (fun o h=>by rw [ho] at h;cases h),fun _ h=>h,fun _ h=> .inl h⟩
 | some o=>
  rcases hf o ho with ⟨h1,_⟩ | ⟨_,h1⟩
  ·exact ⟨S,gen S (fun _ h=>h) (fun _ h=> .inl h) (fun o' h=>by rw [ho] at h;injection h with h;subst h;exact h1),fun _ h=>h,fun _ h=> .inl h⟩
  ·exact ⟨_,gen (fun b=>S b\/b=p.b) (fun _ h=> .inl h) (fun _ h=>h) (fun o' h=>by rw [ho] at h;injection h with h;subst h;exact h1),fun _ h=> .inl h,fun _ h=>h⟩
def ZX {ae:Nat->Nat} {lo:Nat} {r:AV} {u:yj} {bs:List Nat} (h:iV ae S w lo r u bs) (m:Mp) (hS:∀b,S b->S' b) (hbs:∀b,b∈bs->S' b):ai ae m S' w (bZ r) u:=by
 have aJ:fZ S w w:=fun _ _=>rfl
 cases r with
 | bV ex sz n cs=>
  obtain ⟨b,o,c,arr,t,rfl,rfl,h1,h2,h3,h4,h5,h6,h7,h8,h9⟩:=h;exact .inl ⟨b,o,c,rfl,h1,h2,.inr (hbs b (by simp)),h9,Di hS aJ cs b o h9 rfl h8⟩
 | _=>simp only [iV] at h;exact rH hS aJ _ _ h.2.2 h.2.1
def ZY {ae:Nat->Nat} {lo:Nat} (m:Mp) (hS:∀b,S b->S' b):∀{vs:List AV} {us:List yj} {bs:List Nat},ma ae S w lo vs us bs->(∀b,b∈bs->S' b)->aA ae m S' w (DW vs) us
 | [],us,bs,h,_=>by simp only [ma] at h;exact h.1
 | v::r,us,bs,h,hb=>by
  obtain ⟨u,t,b1,b2,rfl,rfl,h1,h2⟩:=h;exact ⟨u,t,rfl,ZX h1 m hS (fun b cA=>hb b (by simp [cA])),ZY m hS h2 (fun b cA=>hb b (by simp [cA]))⟩
def TA {ae:Nat->Nat} {lo:Nat} {r:AV} {u:yj} {bs:List Nat} (h:iV ae S w lo r u bs):∀b,b∈bs->lo<=b/\b<w.heap.size:=by
 intro b hb
 cases r with
 | bV ex sz n cs=>
  simp only [iV] at h
  grind
 | _=>simp only [iV] at h;rw [h.1] at hb;cases hb
def TB {ae:Nat->Nat} {lo:Nat}:∀{vs:List AV} {us:List yj} {bs:List Nat},ma ae S w lo vs us bs->∀b,b∈bs->lo<=b/\b<w.heap.size
 | [],us,bs,h,b,hb=>by simp only [ma] at h;rw [h.2] at hb;cases hb
 | v::r,us,bs,h,b,hb=>by
  obtain ⟨u,t,b1,b2,rfl,rfl,h1,h2⟩:=h;rcases xL.1 hb with hb | hb
  ·exact TA h1 b hb
  ·exact TB h2 b hb
def ZZ {ae:Nat->Nat} {lo:Nat} {r:AV} {u:yj} (h:pq ae S w lo r u) (m:Mp):∃S',(∀b,S b->S' b)/\(∀b,S' b->S b\/(lo<=b/\b<w.heap.size))/\ai ae m S' w (shut r) u:=by
 have one:∀(r:AV) (bs:List Nat),shut r=bZ r->iV ae S w lo r u bs->∃S',(∀b,S b->S' b)/\(∀b,S' b->S b\/(lo<=b/\b<w.heap.size))/\ai ae m S' w (shut r) u:=by
  intro r bs hs h;refine ⟨fun b=>S b\/b∈bs,fun _ h=> .inl h,fun b hb=>hb.imp (fun x=>x) (fun hb=>TA h b hb),?_⟩;rw [hs];exact ZX h m (fun _ h=> .inl h) (fun _ h=> .inr h)
 cases r with
 | az vs=>
  obtain ⟨us,bs,rfl,h1,h2⟩:=h;refine ⟨fun b=>S b\/b∈bs,fun _ h=> .inl h,fun b hb=>hb.imp (fun x=>x) (fun hb=>TB h1 b hb),?_⟩;exact ⟨us,rfl,ZY m (fun _ h=> .inl h) h1 (fun _ h=> .inr h)⟩
 | _=>
  obtain ⟨bs,h⟩:=h;exact one _ bs rfl h
end
end
section
open Go
section
variable {O:bl} {m:Mp} {S:Nat->Prop} {w:ym} {H:Hp} {cH:Nat}
def Oq {hp:Hp} {ct:Nat} {r:AV}:ct<=(fQ hp ct r).2.2:=by
 cases r<;>simp only [fQ]<;>omega
def Ot:∀{vs:List AV} {hp:Hp} {ct:Nat},ct<=(ku hp ct vs).2.2
 | [],hp,ct=>by simp [ku]
 | v::r,hp,ct=>by
  simp only [ku];have h1:=Oq (hp:=hp) (ct:=ct) (r:=v);have h2:=Ot (vs:=r) (hp:=(fQ hp ct v).2.1) (ct:=(fQ hp ct v).2.2);omega
def TC {hp:Hp} {ct:Nat} {r:AV} (hf:∀id o,ao hp id=some o->id<ct):∀id o,ao hp id=some o->ao (fQ hp ct r).2.1 id=some o:=by
 intro id o h;cases r<;>simp only [fQ]<;>try exact h
 rw [fX,yo (by have:=hf id o h;omega)];exact h
def aca {hp:Hp} {ct lo:Nat} {r:AV} {u:yj} {bs:List Nat} (hh:aV O m S w H cH) (hl:df (fQ hp ct r).2.1 H) (eZ:(fQ hp ct r).2.2<=cH) (hn:∀id,ct<=id->id<(fQ hp ct r).2.2->m id=none)
  (hr:iV O.ae S w lo r u bs) (bj:O.w0.heap.size<=lo) (pM:∀j q,m j=some q->q.b∉bs):
  ∃m' S',aV O m' S' w H cH/\dz m m'/\(∀id p,m' id=some p->m id=some p\/(ct<=id/\id<(fQ hp ct r).2.2/\p.b∈bs))/\ai O.ae m' S' w (fQ hp ct r).1 u/\(∀b,S b->S' b)/\(∀b,S' b->S b\/b∈bs):=by
 have aJ:fZ S w w:=fun _ _=>rfl
 cases r with
 | bV ex sz n cs=>
  simp only [fQ] at hl eZ hn;obtain ⟨b,o,c,arr,t,rfl,rfl,h1,h2,h3,h4,h5,h6,h7,h8,h9⟩:=hr;have bL:m ct=none:=hn ct (yq _) (Nat.lt_succ_self _);have ayz:b<w.heap.size:=(xF.1 h5).1;have pK:fH O (fS m ct ⟨b,o,c*sz,sz⟩) S w ct (.cells true true ex sz cs):=by
   refine ⟨_,arr,t,dW,h5,rfl,?_,h7,fun hx=>?_,Di (fun _ h=>h) aJ cs b o h9 rfl h8,fun _=>h9,fun _=>h4,by simp⟩
   ·show cs.length<=c*sz
    rw [h6];exact yS _ h1
   ·grind
  obtain ⟨S',k1,k2,k3⟩:=ao5 (p:=⟨b,o,c*sz,sz⟩) hh bL (by omega) ayz (by show _<=b;omega) h4 (fun j q hq e=>pM j q hq (by rw [e];simp)) (fun o' kz=>by
   obtain ⟨W0,g1,g2⟩:=hl ct (.cells true true ex sz cs) (by rw [fX];simp)
   rw [kz] at g1;injection g1 with g1
   subst g1
   exact R4 (p:=⟨b,o,c*sz,sz⟩) g2 dW pK (by simp [je]))
  refine ⟨_,S',k1,jO bL,fun id p ah=>?_,?_,k2,fun b' cA=>(k3 b' cA).imp (fun h=>h) (fun h=>by rw [h];simp)⟩
  ·by_cases hc:id=ct
   ·subst hc;rw [dW] at ah;injection ah with ah
    subst ah;exact .inr ⟨yq _,by simp [fQ],by simp⟩
   ·rw [eG hc] at ah;exact .inl ah
  ·simp only [fQ,ai];exact ⟨_,c,dW,by simp,h1,by simp⟩
 | _=>
  exact ⟨m,S,hh,dz.refl,fun _ _ h=> .inl h,rH (fun _ h=>h) aJ _ _ hr.2.2 hr.2.1,fun _ h=>h,fun _ h=> .inl h⟩
def Jw {hp:Hp} {ct:Nat} {r:AV} (hf:∀id o,ao hp id=some o->id<ct):∀id o,ao (fQ hp ct r).2.1 id=some o->id<(fQ hp ct r).2.2:=by
 intro id o h;cases r<;>simp only [fQ] at h ⊢<;>try exact hf id o h
 rw [fX] at h
 grind
def Ou:∀{vs:List AV} {hp:Hp} {ct:Nat},(∀id o,ao hp id=some o->id<ct)->∀id o,ao hp id=some o->ao (ku hp ct vs).2.1 id=some o
 | [],hp,ct,_,id,o,h=>by simpa [ku] using h
 | v::r,hp,ct,hf,id,o,h=>by
  exact Ou (Jw hf) id o (TC hf id o h)
def acb {lo:Nat} (bj:O.w0.heap.size<=lo):∀{vs:List AV} {us:List yj} {bs:List Nat} {hp:Hp} {ct:Nat} {m:Mp} {S:Nat->Prop},aV O m S w H cH->df (ku hp ct vs).2.1 H->(ku hp ct vs).2.2<=cH->
  (∀id o,ao hp id=some o->id<ct)->(∀id,ct<=id->id<(ku hp ct vs).2.2->m id=none)->
  ma O.ae S w lo vs us bs->bs.Nodup->(∀j q,m j=some q->q.b∉bs)->
  ∃m' S',aV O m' S' w H cH/\dz m m'/\(∀id p,m' id=some p->m id=some p\/(ct<=id/\id<(ku hp ct vs).2.2/\p.b∈bs))/\aA O.ae m' S' w (ku hp ct vs).1 us/\(∀b,S b->S' b)/\(∀b,S' b->S b\/b∈bs)
 | [],us,bs,hp,ct,m,S,hh,hl,eZ,hf,hn,hr,jV,pM=>by
  simp only [ma] at hr;exact ⟨m,S,hh,dz.refl,fun _ _ h=> .inl h,by simp only [ku,aA];exact hr.1,fun _ h=>h,fun _ h=> .inl h⟩
 | v::r,us,bs,hp,ct,m,S,hh,hl,eZ,hf,hn,hr,jV,pM=>by
  simp only [ma] at hr;obtain ⟨u,t,b1,b2,rfl,rfl,h1,h2⟩:=hr;simp only [ku] at hl eZ hn ⊢;have eK:=Oq (hp:=hp) (ct:=ct) (r:=v);have zG:=Ot (vs:=r) (hp:=(fQ hp ct v).2.1) (ct:=(fQ hp ct v).2.2);rw [List.nodup_append] at jV;obtain ⟨m1,S1,k1,k2,k3,k4,k5,k6⟩:=aca (hp:=hp) (ct:=ct) (lo:=lo) hh ((fun id o h=>hl id o (Ou (Jw hf) id o h))) (by omega) (fun id g1 g2=>hn id g1 (by omega)) h1 bj
   (fun j q hq hb=>pM j q hq (by simp [hb]))
  have h2':ma O.ae S1 w lo r t b2:=by
   clear k4;have Vq:∀b,S1 b->S b\/b∈b1:=k6;have hd:∀b,b∈b2->b∉b1:=fun b hb nI=>jV.2.2 b nI b hb rfl
   have one:∀{v:AV} {u:yj} {bb:List Nat},(∀b,b∈bb->b∉b1)->iV O.ae S w lo v u bb->iV O.ae S1 w lo v u bb:=by
    intro v u bb zA h
    cases v with
    | bV ex sz n cs=>
     simp only [iV] at h ⊢;obtain ⟨b,o,c,arr,tt,rfl,rfl,g1,g2,g3,g4,g5,g6,g7,g8,g9⟩:=h;exact ⟨b,o,c,arr,tt,rfl,rfl,g1,g2,g3,fun hs=>(Vq b hs).elim g4 (zA b (by simp)),g5,g6,g7,Di k5 (fun _ _=>rfl) cs b o g9 rfl g8,g9⟩
    | _=>simp only [iV] at h ⊢;exact ⟨h.1,rH k5 (fun _ _=>rfl) _ _ h.2.2 h.2.1,h.2.2⟩
   clear k1 k2 k3 hl eZ hn pM jV;revert hd h2;generalize b2=bb
   induction r generalizing t bb with
   | nil=>intro h2 hd;simpa only [ma] using h2
   | cons v' r ih=>
    intro h2 hd;simp only [ma] at h2 ⊢;obtain ⟨u',t',c1,c2,rfl,rfl,g1,g2⟩:=h2
    exact ⟨u',t',c1,c2,rfl,rfl,one (fun b hb=>hd b (by simp [hb])) g1,ih _ (by
     have:=Ot (vs:=r) (hp:=(fQ hp ct v).2.1) (ct:=(fQ hp ct v).2.2)
     exact this) _ g2 (fun b hb=>hd b (by simp [hb]))⟩
  obtain ⟨m2,S2,g1,g2,g3,g4,g5,g6⟩:=acb bj (vs:=r) (us:=t) (bs:=b2) (m:=m1) (S:=S1) k1 hl eZ (Jw hf) (fun id q1 q2=>by
   cases hq:m1 id with
   | none=>rfl
   | some p=>
    rcases k3 id p hq with h | ⟨_,h,_⟩
    ·rw [hn id (by omega) q2] at h;cases h
    ·omega) h2' jV.2.1 (fun j q hq hb=>by
     rcases k3 j q hq with h | ⟨_,_,h⟩
     ·exact pM j q h (by simp [hb])
     ·exact jV.2.2 q.b h q.b hb rfl)
  refine ⟨m2,S2,g1,k2.trans g2,fun id p ah=>?_,?_,fun b hb=>g5 b (k5 b hb),fun b hb=>?_⟩
  ·rcases g3 id p ah with h | ⟨a1,a2,a3⟩
   ·rcases k3 id p h with h | ⟨a1,a2,a3⟩
    ·exact .inl h
    ·exact .inr ⟨a1,by omega,by simp [a3]⟩
   ·exact .inr ⟨by omega,a2,by simp [a3]⟩
  ·simp only [aA];exact ⟨u,t,rfl,mv g2 g5 (fun _ _=>rfl) _ _ k4,g4⟩
  ·rcases g6 b hb with h | h
   ·exact (k6 b h).imp (fun h=>h) (fun h=>by simp [h])
   ·exact .inr (by simp [h])
def atI {hp:Hp} {ct lo:Nat} {r:AV} {u:yj} (hh:aV O m S w H cH) (hl:df (own hp ct r).2.1 H) (eZ:(own hp ct r).2.2<=cH) (hf:∀id o,ao hp id=some o->id<ct)
  (hn:∀id,ct<=id->id<(own hp ct r).2.2->m id=none) (hr:pq O.ae S w lo r u) (bj:O.w0.heap.size<=lo) (L4:∀j q,m j=some q->q.b<lo):
  ∃m' S',aV O m' S' w H cH/\dz m m'/\(∀id p,m' id=some p->m id=some p\/(ct<=id/\id<(own hp ct r).2.2/\lo<=p.b))/\ai O.ae m' S' w (own hp ct r).1 u/\(∀b,S b->S' b)/\(∀b,S' b->S b\/lo<=b):=by
 have one:∀(r:AV) (bs:List Nat),own hp ct r=fQ hp ct r->iV O.ae S w lo r u bs->df (own hp ct r).2.1 H->(own hp ct r).2.2<=cH->(∀id,ct<=id->id<(own hp ct r).2.2->m id=none)->
   ∃m' S',aV O m' S' w H cH/\dz m m'/\(∀id p,m' id=some p->m id=some p\/(ct<=id/\id<(own hp ct r).2.2/\lo<=p.b))/\ai O.ae m' S' w (own hp ct r).1 u/\(∀b,S b->S' b)/\(∀b,S' b->S b\/lo<=b):=by
  intro r bs he hr hl eZ hn;rw [he] at hl eZ hn ⊢;have D9:=TA hr;obtain ⟨m',S',k1,k2,k3,k4,k5,k6⟩:=aca hh hl eZ hn hr bj (fun j q hq hb=>by have:=L4 j q hq;have:=(D9 _ hb).1;omega)
  exact ⟨m',S',k1,k2,fun id p h=>(k3 id p h).imp (fun h=>h) (fun h=>⟨h.1,h.2.1,(D9 _ h.2.2).1⟩),k4,k5,fun b hb=>(k6 b hb).imp (fun h=>h) (fun h=>(D9 _ h).1)⟩
 cases r with
 | az vs=>
  simp only [own] at hl eZ hn ⊢;simp only [pq] at hr;obtain ⟨us,bs,rfl,h1,h2⟩:=hr;have D9:=TB h1;obtain ⟨m',S',k1,k2,k3,k4,k5,k6⟩:=acb bj hh hl eZ hf hn h1 h2 (fun j q hq hb=>by have:=L4 j q hq;have:=(D9 _ hb).1;omega)
  exact ⟨m',S',k1,k2,fun id p h=>(k3 id p h).imp (fun h=>h) (fun h=>⟨h.1,h.2.1,(D9 _ h.2.2).1⟩),by simp only [ai];exact ⟨us,rfl,k4⟩,k5,fun b hb=>(k6 b hb).imp (fun h=>h) (fun h=>(D9 _ h).1)⟩
 | _=>
  simp only [pq] at hr;obtain ⟨bs,hr⟩:=hr;exact one _ bs rfl hr hl eZ hn
end
end
section
open Go
section
variable {O:bl} {m m':Mp} {S:Nat->Prop} {w:ym} {f:Nat->Option Nat}
def Gm (f:Nat->Option Nat) (m m':Mp):Prop:=∀id j,f id=some j->m' j=m id
mutual
def acd {ae:Nat->Nat} (hf:Gm f m m'):∀(v:AV) (u:yj),ai ae m S w v u->ai ae m' S w (b8 f v) u
 | .int _ _,_,h | .bool _,_,h | .dD _ _,_,h | .str _,_,h | .mH,_,h | .ab,_,h | .jy,_,h | .lh,_,h | .undef,_,h=>by
  simpa only [b8,ai] using h
 | .ptr id o,u,h=>by
  simp only [b8]
  cases hi:f id with
  | none=>simp only [ai]
  | some j=>
   simp only [ai] at h ⊢;rw [hf id j hi];exact h
 | .aO cs,u,h=>by
  simp only [b8];exact rH (fun _ h=>h) (fun _ _=>rfl) _ _ (by simp [a7]) h
 | .aE ex n cs,u,h=>by
  simp only [b8];exact rH (fun _ h=>h) (fun _ _=>rfl) _ _ (by simp [a7]) h
 | .bV _ _ _ _,u,h=>by simp only [ai] at h
 | .ak id o n,u,h=>by
  simp only [b8]
  cases hi:f id with
  | none=>simp only [ai]
  | some j=>
   simp only [ai] at h ⊢;rw [hf id j hi];exact h
 | .fn (.f g) first cap,u,h=>by
  simp only [b8,ai] at h ⊢;obtain ⟨fi,ca,h1,h2,h3⟩:=h;exact ⟨fi,ca,h1,BG hf first _ h2,BG hf cap _ h3⟩
 | .fn (.y l) first cap,u,h=>by
  simp only [b8]
  cases hi:f l with
  | none=>simp only [ai]
  | some j=>
   simp only [ai] at h ⊢;rw [hf l j hi];exact h
 | .map id,u,h=>by
  simp only [b8]
  cases hi:f id with
  | none=>simp only [ai]
  | some j=>
   simp only [ai] at h ⊢;rw [hf id j hi];exact h
 | .ko ks vs,u,h=>by
  simp only [b8];exact rH (fun _ h=>h) (fun _ _=>rfl) _ _ (by simp [a7]) h
 | .it id,u,h=>by
  simp only [b8]
  cases hi:f id with
  | none=>simp only [ai]
  | some j=>
   simp only [ai] at h ⊢;rw [hf id j hi];exact h
 | .agg cs,u,h=>by
  simp only [b8,ai] at h ⊢;obtain ⟨xs,h1,h2⟩:=h;exact ⟨xs,h1,BG hf cs _ h2⟩
 | .az cs,u,h=>by
  simp only [b8,ai] at h ⊢;obtain ⟨xs,h1,h2⟩:=h;exact ⟨xs,h1,BG hf cs _ h2⟩
def BG {ae:Nat->Nat} (hf:Gm f m m'):∀(vs:List AV) (us:List yj),aA ae m S w vs us->aA ae m' S w (eH f vs) us
 | [],us,h=>by simpa only [eH,aA] using h
 | v::r,us,h=>by
  simp only [eH,aA] at h ⊢;obtain ⟨u,t,h1,h2,h3⟩:=h;exact ⟨u,t,h1,acd hf v u h2,BG hf r t h3⟩
end
def anh {ae:Nat->Nat} (hf:Gm f m m') {cs:List AV} {b o:Nat} (h:bR ae m S w cs b o):bR ae m' S w (eH f cs) b o:=by
 obtain ⟨us,h1,_,h3⟩:=sC cs b o h;exact Fy _ us o (BG hf cs us h1) h3
def SX:∀cs:List AV,(eH f cs).length=cs.length
 | []=>rfl
 | c::r=>by simp [eH,SX r]
def aaU:∀(tm:Env) (i:Nat),af (fe f tm) i=b8 f (af tm i)
 | [],i=>by simp [fe,af,b8]
 | (j,v)::r,i=>by
  simp only [fe,af]
  cases yz j i with
  | true=>rfl
  | false=>exact aaU r i
def Z0 (tm:Env) (i:Nat):∀live:List Nat,af (bP tm live) i=af tm i\/af (bP tm live) i= .undef
 | []=> .inr rfl
 | j::r=>by
  simp only [bP,af]
  cases hb:yz j i with
  | true=>rw [yt hb];exact .inl rfl
  | false=>exact Z0 tm i r
def aaV {tm:Env} {tmps:Array yj} (hf:Gm f m m') (h:cf O m S w tm tmps):cf O m' S w (fe f tm) tmps:=fun i=>by
 rw [aaU];exact acd hf _ _ (h i)
def ao6 {id j:Nat} {o:Obj} {p:Pl} (hf:Gm f m m') (hm:m id=some p) (hj:m' j=some p) (h:fH O m S w id o):fH O m' S w j (iT f o):=by
 cases o with
 | cells rw pu ex sz cs=>
  obtain ⟨q,arr,t,h1,h2,h3,h4,h5,h6,h7,h8,h9,jl⟩:=h;rw [hm] at h1;injection h1 with h1;subst h1
  cases pu with
  | true=>exact ⟨p,arr,t,hj,h2,h3,h4,h5,h6,Di (fun _ h=>h) (fun _ _=>rfl) _ _ _ (h8 rfl) rfl h7,h8,h9,jl⟩
  | false=>exact ⟨p,arr,t,hj,h2,h3,by rw [yW,SX];exact h4,h5,by rw [yW,SX];exact h6,anh hf h7,by simp,h9,jl⟩
 | mp rw ks vs=>
  obtain ⟨q,es,clock,h1,h2,h3,h4,h5,h6⟩:=h;rw [hm] at h1;injection h1 with h1;subst h1
  exact ⟨p,es,clock,hj,h2,BG hf _ _ h3,BG hf _ _ h4,h5,h6⟩
 | si s pos=>
  obtain ⟨q,t,h1,h2,h3,h4⟩:=h;rw [hm] at h1;injection h1 with h1;subst h1
  exact ⟨p,t,hj,h2,h3,h4⟩
 | lp tm ps cT body st pe=>
  obtain ⟨q,l,hi,h1,h2,h3,h4,h5,h6,h7,h8⟩:=h;rw [hm] at h1;injection h1 with h1;subst h1
  exact ⟨p,l,hi,hj,h2,h3,h4,h5,h6,aaV hf h7,h8⟩
def Z1 {i:Nat}:∀{l:List Nat} {k j:Nat},dc i l k=some j->k<=j/\l[j-k]? =some i
 | [],k,j,h=>by simp [dc] at h
 | x::r,k,j,h=>by
  simp only [dc] at h
  cases hb:yz x i with
  | true=>
   simp_all
  | false=>
   rw [hb] at h;obtain ⟨h1,h2⟩:=Z1 h
   grind
def Ae {a b:Nat}:yQ a b=true↔a<b:=by simp_all
def Nv {hp:Hp} {j:Nat} {o':Obj}:∀{l:List Nat} {k:Nat} {acc:Hp},ao (iz hp f l k acc) j=some o'->
  (∃i id o,l[i]? =some id/\j=k+i/\ao hp id=some o/\o'=iT f o)\/ao acc j=some o'
 | [],k,acc,h=> .inr h
 | x::r,k,acc,h=>by
  simp only [iz] at h
  cases hx:ao hp x with
  | none=>
   simp only [hx] at h;rcases Nv h with ⟨i,id,o,h1,h2,h3,h4⟩ | h
   ·exact .inl ⟨i+1,id,o,by simpa using h1,by omega,h3,h4⟩
   ·grind
  | some o=>
   simp only [hx] at h;rcases Nv h with ⟨i,id,o,h1,h2,h3,h4⟩ | h
   ·exact .inl ⟨i+1,id,o,by simpa using h1,by omega,h3,h4⟩
   ·rw [fX] at h;by_cases hc:k=j
    ·simp only [hc,xE,ye] at h;exact .inl ⟨0,x,o,by simp,by omega,hx,h.symm⟩
    ·grind
def Nw {base:Nat} {j:Nat} {o':Obj}:∀{hp:Hp},ao (ni base f hp) j=some o'->j<base/\∃o,ao hp j=some o/\o'=iT f o
 | [],h=>by simp [ni,ao] at h
 | (i,q)::r,h=>by
  simp only [ni] at h
  cases hb:yQ i base with
  | true=>
   rw [hb] at h;simp only [yD] at h;rw [fX] at h;by_cases hc:i=j
   ·simp only [hc,xE,ye] at h;exact ⟨by rw [<-hc];exact Ae.1 hb,q,by rw [fX];simp [hc],h.symm⟩
   ·simp only [hc,xn] at h;obtain ⟨h1,o,h2,h3⟩:=Nw h;exact ⟨h1,o,by rw [fX];simp [hc,h2],h3⟩
  | false=>
   rw [hb] at h;obtain ⟨h1,o,h2,h3⟩:=Nw h;have hc:¬i=j:=fun e=>by
    have:=Ae.2 h1
    grind
   exact ⟨h1,o,by rw [fX];simp [hc,h2],h3⟩
def qP (m:Mp) (base:Nat) (seen:List Nat):Mp:=fun j=>
 if j<base then m j else match seen[j-base]? with
  | some id=>if lS base seen id=some j then m id else none
  | none=>none
def Sz {base:Nat} {seen:List Nat} {j:Nat} {p:Pl} (h:qP m base seen j=some p):∃id,lS base seen id=some j/\m id=some p/\(j<base->id=j):=by
 unfold qP at h
 split at h
 ·rename_i hj;exact ⟨j,by simp [lS,Ae.2 hj],h,fun _=>rfl⟩
 ·grind
def ao7 {base:Nat} {seen:List Nat}:Gm (lS base seen) m (qP m base seen):=by
 intro id j h;have h0:=h;unfold lS at h
 cases hb:yQ id base with
 | true=>
  rw [hb] at h;simp only [yD,ye] at h;subst h;simp [qP,Ae.1 hb]
 | false=>
  rw [hb] at h;obtain ⟨h1,h2⟩:=Z1 h
  have:¬j<base:=by omega
  simp only [qP,this,xn,h2,h0,xE]
def Sg {s:St} {tmps:Array yj} {live:List Nat} (ht:cf O m S w s.tm tmps) (hh:aV O m S w s.hp s.ct) (hb:s.base<=s.ct):
  ∃m',cf O m' S w (aG live s).tm tmps/\aV O m' S w (aG live s).hp (aG live s).ct/\(aG live s).base=s.base/\s.base<=(aG live s).ct/\cp m S w s.hp m' S w (aG live s).hp s.base:=by
 simp only [aG];generalize ae3:reach s.hp s.base 100000 (et (bP s.tm live)++jN s.base s.hp) []=seen;have hr:=ao7 (m:=m) (base:=s.base) (seen:=seen);have aU:∀j p,qP m s.base seen j=some p->j<s.base+seen.length:=by
  intro j p h;unfold qP at h
  grind
 have back:∀j o' p,ao (iz s.hp (lS s.base seen) seen s.base (ni s.base (lS s.base seen) s.hp)) j=some o'->qP m s.base seen j=some p->
   ∃id o,lS s.base seen id=some j/\ao s.hp id=some o/\m id=some p/\o'=iT (lS s.base seen) o:=by
  intro j o' p ho hm;obtain ⟨id,h1,h2,h3⟩:=Sz hm;rcases Nv ho with ⟨i,W6,o,g1,g2,g3,g4⟩ | ho
  ·have hj:¬j<s.base:=by omega
   have:qP m s.base seen j=if lS s.base seen W6=some j then m W6 else none:=by
    simp only [qP,hj,xn,show j-s.base=i by omega,g1]
   grind
  ·obtain ⟨g1,o,g2,g3⟩:=Nw ho
   grind
 refine ⟨qP m s.base seen,?_,⟨?_,aU,?_,hh.slt,?_,?_,hh.lj,hh.gH,fun j o' ho=>(by
  rcases Nv ho with ⟨i,W6,o,g1,g2,g3,g4⟩ | ho
  ·grind
  ·have:=(Nw ho).1;omega)⟩,by trivial,by omega,⟨rfl,rfl,rfl,yq _,fun _ _ _=>rfl,fun _ h=>h,fun _ _=>rfl,fun _ h=> .inl h,?_,?_,fun _ r h=>⟨r,h⟩⟩⟩
 ·refine aaV hr (fun i=>?_);rcases Z0 s.tm i live with h | h
  ·rw [h];exact ht i
  ·rw [h];simp only [ai]
 ·intro j o' p ho hm;obtain ⟨id,o,h1,h2,h3,rfl⟩:=back j o' p ho hm;exact ao6 hr h3 hm (hh.obj id o p h2 h3)
 ·intro i j oi oj pi pj hi hj bL gX e;obtain ⟨idi,o1,a1,a2,a3,_⟩:=back i oi pi hi bL;obtain ⟨idj,o2,b1,b2,b3,_⟩:=back j oj pj hj gX
  have:=hh.inj idi idj o1 o2 pi pj a2 b2 a3 b3 e
  grind
 ·intro j p hm;obtain ⟨id,_,h2,_⟩:=Sz hm;exact hh.blt id p h2
 ·intro j p hm;obtain ⟨id,_,h2,_⟩:=Sz hm;exact hh.low id p h2
 ·rintro b ⟨j,o',p,h1,h2,h3⟩;obtain ⟨id,o,_,g2,g3,_⟩:=back j o' p h1 h2;exact .inl ⟨id,o,p,g2,g3,h3⟩
 ·intro id p hid hm;simp [qP,hid,hm]
end
end
end VE
