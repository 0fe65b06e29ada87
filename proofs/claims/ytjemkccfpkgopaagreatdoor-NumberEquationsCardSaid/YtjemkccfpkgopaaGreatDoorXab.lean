import Derived.Laws.Tables
import Derived.IntWalk
import Derived.Laws.CopyOwn
import Derived.Test.YtjemkccfpkgopaaGreatDoorXaa
set_option linter.all false
set_option maxRecDepth 100000
open Array renaming getElem?_eq_some_iff→xt,length_toList→vB,range→uJ
open Bool renaming and_eq_true→ye,false_eq_true→yN
open Go renaming Ending→yaQ,Loop→uN,MapEntry→uO,Next→yau,Obj→tp,Oper→yX,Operand→xp,Program→y5,TypeDesc→vJ,TypeId→yC,TypeInfo→ybQ,Value→yg,World→yi,sizeOf→vL
open List renaming append_assoc→xq,cons_append→xm,eq_nil_of_length_eq_zero→yx,ext_getElem?→yav,flatten_append→yag,flatten_cons→vA,getElem?_append_left→wg,getElem?_append_right→xK,getElem?_drop→yan,getElem?_take_of_lt→uk,getElem?_toArray→tV,length_append→yL,length_drop→xP,length_take→yI,map_cons→xc,mem_append→wj,range→vh,replicate→ym,replicate_succ→wC,size_toArray→uC,take_of_length_le→yG,take_succ_cons→wz
open Nat renaming add_mul→wL,add_zero→y8,beq→yu,beq_refl→wV,ble→yE,blt→yR,eq_of_beq_eq_true→yj,eq_zero_or_pos→xk,le_of_ble_eq_true→yv,le_refl→yr,lt_of_lt_of_le→yT,min_le_left→yaP,mul_comm→xE,mul_le_mul_right→yV,zero_add→yf
open Option renaming isSome_none→yaa
open Option.some renaming injEq→yd
open Prod.mk renaming injEq→yk
open UInt8 renaming toNat→xb
namespace VE
section
open Go
section
variable {O:bk} {H:Hint} {m:Mp} {S:Nat->Prop} {w:yi} {tm:Env} {a:Act} {hp:Hp} {ct:Nat}
def DX {o:yX} {b:Builtin} {args:Array xp} {ts:Array yC} (ho:o.op= .call {callee:= .builtin b,args:=args,argTypes:=ts}):
  ∃cs,(execOp a.eval o).run O.P w=(builtin b ts o.type cs (args.map a.eval)).run O.P w:=by
 exact ⟨_,by simp only [execOp,ho,resolve,Sem.run_bind,Sem.run_pure,Result.andThen_ok,invoke];rfl⟩
def ao6 {o:yX} {c:Call} {k:Nat} {v:AV} (hH:fc O H) (ht:b9 O m S w tm a.tmps) (hh:aU O m S w hp ct) (ho:o.op= .call c)
  (hv:bw tm hp (aW O.P H k o)=some v):Reads O m S w a o v:=by
 obtain ⟨callee,args,ts⟩:=c;simp only [aW,ho] at hv
 split at hv
 ·cases Kt:H.mode k<;>simp [Kt,bw] at hv
 ·rename_i _ b
  split at hv
  ·have key:∀{bb:Bool} {sz by':Nat} {x y:X},bw tm hp (bif bb then .aO sz by' x y else bad)=some v->False:=by
    intro bb sz by' x y h
    cases bb
    ·exact dH h
    ·simp [bw] at h
   split at hv
   ·split at hv
    ·exact (key hv).elim
    ·simp_all
   ·split at hv
    ·exact (key hv).elim
    ·simp_all
   ·simp_all
  ·rename_i x t fG mL;obtain ⟨al⟩:=args;obtain ⟨tl⟩:=ts;simp only at fG mL;subst fG;subst mL;obtain ⟨cs,fo⟩:=DX (O:=O) (w:=w) (a:=a) ho;have fin:(∃u,(Builtin.len_ #[t] o.type #[a.eval x]).run O.P w= .ok u w/\ah O.af m S w v u)->Reads O m S w a o v:=by
    rintro ⟨u,h1,h2⟩;refine ⟨u,?_,h2⟩;rw [fo];simp [builtin,h1]
   split at hv
   ·rename_i n e hu;simp only [bw,aD,yd] at hv;subst hv;exact fin ⟨_,by simp [Builtin.len_,run_underlying hu];rfl,by simp [ah,goInt]⟩
   ·rename_i hu;simp only [bw] at hv;exact fin (Se hh (cz hH ht x) (.inl ⟨rfl,hu⟩) hv)
   ·rename_i e hu;simp only [bw] at hv;exact fin (Se hh (cz hH ht x) (.inr (.inl ⟨rfl,e,hu⟩)) hv)
   ·rename_i kt e hu;simp only [bw] at hv;exact fin (Se hh (cz hH ht x) (.inr (.inr ⟨rfl,kt,e,hu⟩)) hv)
   ·exact (dH hv).elim
  ·split at hv
   ·split at hv
    ·simp [bw] at hv
    ·exact (dH hv).elim
   ·exact (dH hv).elim
  ·simp only [bw] at hv;obtain ⟨cs,fo⟩:=DX (O:=O) (w:=w) (a:=a) ho;have hl:=Cv hH ht args.toList
   cases hx:dw tm (gL H args.toList) with
   | nil=>simp [hx] at hv
   | cons c r=>
    simp only [hx] at hv;rw [hx] at hl;simp only [az] at hl;obtain ⟨u,us,h1,h2,h3⟩:=hl;obtain ⟨q,h4,h5⟩:=RJ (O:=O) (g:=Builtin.min2) (fun va vb v x y hx hy h=>asV hx hy h) r us c v u h2 h3 hv;refine ⟨q,?_,h5⟩;rw [fo];simp [builtin,Builtin.min_,h1,h4]
  ·simp only [bw] at hv;obtain ⟨cs,fo⟩:=DX (O:=O) (w:=w) (a:=a) ho;have hl:=Cv hH ht args.toList
   cases hx:dw tm (gL H args.toList) with
   | nil=>simp [hx] at hv
   | cons c r=>
    simp only [hx] at hv;rw [hx] at hl;simp only [az] at hl;obtain ⟨u,us,h1,h2,h3⟩:=hl;obtain ⟨q,h4,h5⟩:=RJ (O:=O) (g:=Builtin.max2) (fun va vb v x y hx hy h=>asW hx hy h) r us c v u h2 h3 hv;refine ⟨q,?_,h5⟩;rw [fo];simp [builtin,Builtin.max_,h1,h4]
  ·exact (dH hv).elim
 ·exact (dH hv).elim
def aaO {kt:yC} {kk:Nat} {vk:AV} (hk:keyOf O.P kt=some kk) (h:sZ kk vk=true):∃d,O.P.underlying kt=some d/\Nw d=true/\fits d vk=true:=by
 unfold keyOf at hk
 split at hk
 ·rename_i hu;simp only [yd] at hk;subst hk;refine ⟨_,hu,rfl,?_⟩;cases vk<;>simp_all [sZ,fits]
 ·rename_i hu;simp only [yd] at hk;subst hk;refine ⟨_,hu,rfl,?_⟩;cases vk<;>simp_all [sZ,fits]
 ·rename_i hu;simp only [yd] at hk;subst hk;refine ⟨_,hu,rfl,?_⟩;cases vk<;>simp_all [sZ,fits]
 ·cases hk
def adG {o:yX} {k:Nat} {v:AV} (hH:fc O H) (ht:b9 O m S w tm a.tmps) (hh:aU O m S w hp ct)
  (hv:bw tm hp (aW O.P H k o)=some v):Reads O m S w a o v:=by
 cases ho:o.op with
 | call c=>exact ao6 hH ht hh ho hv
 | binOp op t x y ty=>exact aqQ hH ht ho hv
 | move x=>
  simp only [aW,ho,bw,yd] at hv;subst hv;exact ⟨_,by simp only [execOp,ho,Sem.run_pure],cz hH ht x⟩
 | assign x=>
  simp only [aW,ho,bw,yd] at hv;subst hv;exact ⟨_,by simp only [execOp,ho,Sem.run_pure],cz hH ht x⟩
 | pick c x y=>
  simp only [aW,ho,bw] at hv;have rc:=cz hH ht c;cases hc:aD tm (aK H c)<;>rw [hc] at hv<;>simp only [reduceCtorEq] at hv
  rename_i b;rw [hc] at rc;simp only [ah] at rc;simp only [yd] at hv;subst hv
  cases b with
  | true=>exact ⟨a.eval x,by simp [execOp,ho,rc,asBool],cz hH ht x⟩
  | false=>exact ⟨a.eval y,by simp [execOp,ho,rc,asBool],cz hH ht y⟩
 | load t x=>
  simp only [aW,ho] at hv
  split at hv
  ·rename_i s ag hz ha;simp only [bw] at hv;exact jU (by simp only [execOp,ho]) (ay8 hh hz ha (cz hH ht x) hv)
  ·exact (dH hv).elim
 | fieldAddr t x i=>
  simp only [aW,ho] at hv
  split at hv
  ·rename_i fs hu
   split at hv
   ·rename_i f hf
    split at hv
    ·rename_i s hz;simp only [bw] at hv;exact jU (by simp only [execOp,ho]) (avf hu hf hz (cz hH ht x) hv)
    ·exact (dH hv).elim
   ·exact (dH hv).elim
  ·exact (dH hv).elim
 | field t x i=>
  simp only [aW,ho] at hv
  split at hv
  ·rename_i fs hu
   split at hv
   ·rename_i f hf
    split at hv
    ·rename_i s ag hz ha;simp only [bw] at hv;exact jU (by simp only [execOp,ho]) (avg hu hf hz ha (cz hH ht x) hv)
    ·exact (dH hv).elim
   ·exact (dH hv).elim
  ·exact (dH hv).elim
 | nilCheck x=>
  simp only [aW,ho,bw] at hv;have rx:=cz hH ht x;cases hx:aD tm (aK H x)<;>rw [hx] at hv rx<;>simp only [reduceCtorEq,yd] at hv
  ·subst hv;have r':=rx;simp only [ah] at r';obtain ⟨p,_,e⟩:=r';exact ⟨a.eval x,by simp only [execOp,ho,e,Sem.run_pure],rx⟩
  ·subst hv;have r':=rx;simp only [ah] at r';obtain ⟨b,o',e,_⟩:=r';exact ⟨a.eval x,by simp only [execOp,ho,e,Sem.run_pure],rx⟩
  ·subst hv;rename_i f _ _
   cases f with
   | f g=>
    have r':=rx;simp only [ah] at r';obtain ⟨fi,ca,e,_⟩:=r';exact ⟨a.eval x,by simp only [execOp,ho,e,Sem.run_pure],rx⟩
   | y l=>
    have r':=rx;simp only [ah] at r';obtain ⟨p,_,e⟩:=r';exact ⟨a.eval x,by simp only [execOp,ho,e,Sem.run_pure],rx⟩
 | unOp op t x=>
  simp only [aW,ho,bw] at hv;exact jU (by simp only [execOp,ho]) (asU (cz hH ht x) hv)
 | convert s d x=>
  simp only [aW,ho] at hv
  split at hv
  ·rename_i k1 k2 hs hd;simp only [bw] at hv;exact jU (by simp only [execOp,ho]) (acr hd (.inl ⟨_,hs⟩) (cz hH ht x) hv)
  ·rename_i k1 k2 hs hd;simp only [bw] at hv;exact jU (by simp only [execOp,ho]) (acr hd (.inr ⟨_,hs⟩) (cz hH ht x) hv)
  ·rename_i k1 k2 hs hd;simp only [bw] at hv;exact jU (by simp only [execOp,ho]) (acs hd (.inl ⟨_,hs⟩) (cz hH ht x) hv)
  ·rename_i k1 k2 hs hd;simp only [bw] at hv;exact jU (by simp only [execOp,ho]) (acs hd (.inr ⟨_,hs⟩) (cz hH ht x) hv)
  ·rename_i hs hd;simp only [bw] at hv;exact jU (by simp only [execOp,ho]) (aqN hd hs (cz hH ht x) hv)
  ·exact (dH hv).elim
 | makeFunc fn first cap=>
  cases fn with
  | func f=>
   simp only [aW,ho] at hv
   split at hv
   ·rename_i g hg;simp only [bw,yd] at hv;subst hv;refine ⟨.func (.func f) (first.map a.eval) (cap.map a.eval),by simp [execOp,ho,Instr.makeFunc],?_⟩;simp only [ah];exact ⟨_,_,by rw [hH f g hg],by simpa using Cv hH ht first.toList,by simpa using Cv hH ht cap.toList⟩
   ·exact (dH hv).elim
  | _=>simp only [aW,ho] at hv;exact (dH hv).elim
 | slice t x lo hi mx=>
  cases mx with
  | some q=>simp only [aW,ho] at hv;exact (dH hv).elim
  | none=>
   simp only [aW,ho] at hv
   split at hv
   ·rename_i hu;simp only [bw] at hv;exact jU (by simp only [execOp,ho];rfl) (ao4 hH ht hu (cz hH ht x) hv)
   ·rename_i e hu
    split at hv
    ·rename_i s hz;simp only [bw] at hv;exact jU (by simp only [execOp,ho];rfl) (aqO hH ht hu hz hh (cz hH ht x) hv)
    ·exact (dH hv).elim
   ·split at hv
    ·simp only [bw] at hv;cases hx:aD tm (aK H x)<;>rw [hx] at hv<;>simp [eV] at hv
    ·exact (dH hv).elim
   ·exact (dH hv).elim
 | indexAddr t x i=>
  simp only [aW,ho] at hv
  split at hv
  ·rename_i e hu
   split at hv
   ·rename_i s hz;simp only [bw] at hv
    cases hk:dz (aD tm (aK H i)) with
    | none=>simp [hk] at hv
    | some j=>
     simp only [hk] at hv;exact jU (by simp only [execOp,ho]) (avh hu hz (cz hH ht x) (cz hH ht i) hk hv)
   ·exact (dH hv).elim
  ·rename_i n e hu
   split at hv
   ·rename_i s hz;simp only [bw] at hv
    cases hk:dz (aD tm (aK H i)) with
    | none=>simp [hk] at hv
    | some j=>
     simp only [hk] at hv;exact jU (by simp only [execOp,ho]) (avi hu hz (cz hH ht x) (cz hH ht i) hk hv)
   ·exact (dH hv).elim
  ·exact (dH hv).elim
 | index t x i=>
  simp only [aW,ho] at hv
  split at hv
  ·rename_i hu;simp only [bw] at hv
   cases hk:dz (aD tm (aK H i)) with
   | none=>simp [hk] at hv
   | some j=>
    simp only [hk] at hv;exact jU (by simp only [execOp,ho]) (avk hu (cz hH ht x) (cz hH ht i) hk hv)
  ·rename_i n e hu
   split at hv
   ·rename_i s ag hz ha;simp only [bw] at hv
    cases hk:dz (aD tm (aK H i)) with
    | none=>simp [hk] at hv
    | some j=>
     simp only [hk] at hv;exact jU (by simp only [execOp,ho]) (avj hu hz ha (cz hH ht x) (cz hH ht i) hk hv)
   ·exact (dH hv).elim
  ·exact (dH hv).elim
 | lookup t x i ok=>
  simp only [aW,ho] at hv
  split at hv
  ·rename_i kt e hu
   split at hv
   ·rename_i kk z qP hz;simp only [bw] at hv
    cases hf:sZ kk (aD tm (aK H i)) with
    | false=>simp [hf] at hv
    | true=>
     simp only [hf,yA] at hv;obtain ⟨d,jb,fq,YE⟩:=aaO qP hf;obtain ⟨zv,mM,rfl⟩:=Ee (w:=w) hz
     cases hr:A2 hp (aD tm (aK H i)) (aD tm (aK H x)) with
     | none=>simp [hr] at hv
     | some r=>
      refine jU (by simp only [execOp,ho]) (avl (ok:=ok) (r:=r) (z:=eB zv) hh hu jb fq YE mM (cz hH ht x) (cz hH ht i) (Mr zv) hr ?_);cases r<;>simpa [hr] using hv
   ·exact (dH hv).elim
  ·exact (dH hv).elim
 | extract x i=>
  simp only [aW,ho,bw] at hv;have rx:=cz hH ht x;cases hx:aD tm (aK H x)<;>rw [hx] at hv rx<;>simp only [reduceCtorEq] at hv
  simp only [ah] at rx;obtain ⟨xs,e,hr⟩:=rx;obtain ⟨u,h1,h2⟩:=Q3 hr hv;refine ⟨u,?_,h2⟩;have YF:xs[i]? =some u:=by simpa using h1
  simp [execOp,ho,e,Instr.extract,YF]
 | build t parts=>
  simp only [aW,ho] at hv
  split at hv
  ·rename_i fs z hu hz
   split at hv
   ·rename_i pl aAE;have gQ:=run_places (P:=O.P) w fs.toList pl aAE
    split at hv
    case h_2=>exact (dH hv).elim
    rename_i ps ie;simp only [bw] at hv
    cases hf:fill tm z ps with
    | none=>simp [hf] at hv
    | some cs=>
     simp only [hf,yd] at hv;subst hv;obtain ⟨zv,mM,jN⟩:=Ee (w:=w) hz;have Aa:az O.af m S w z zv.cells.toList:=by
      have:=Cc (af:=O.af) (m:=m) (S:=S) (w:=w) zv
      rw [<-jN] at this;exact this
     obtain ⟨out,h1,h2⟩:=Mt hH ht (place:=fun i=>pl[i]?) parts.toList ps z cs zv.cells ie Aa hf;refine ⟨.agg out,?_,by simp only [ah];exact ⟨out,rfl,h2⟩⟩
     have hm:(Array.mapM (fun f=>Functor.map (Prod.mk f.offset) (vL f.type)) fs:Sem (Array (Nat×Nat))).run O.P w= .ok pl.toArray w:=by
      rw [Array.mapM_eq_mapM_toList];simp [gQ]
     simp [execOp,ho,Instr.build,mM,run_underlying hu,hm,h1]
   ·exact (dH hv).elim
  ·rename_i n e z hu hz
   split at hv
   ·rename_i s hs
    split at hv
    ·rename_i ps ie;simp only [bw] at hv
     cases hf:fill tm z ps with
     | none=>simp [hf] at hv
     | some cs=>
      simp only [hf,yd] at hv;subst hv;obtain ⟨zv,mM,jN⟩:=Ee (w:=w) hz;have Aa:az O.af m S w z zv.cells.toList:=by
       have:=Cc (af:=O.af) (m:=m) (S:=S) (w:=w) zv
       rw [<-jN] at this;exact this
      obtain ⟨out,h1,h2⟩:=Mt hH ht (place:=fun i=>some (i*s,s)) parts.toList ps z cs zv.cells ie Aa hf;refine ⟨.agg out,?_,by simp only [ah];exact ⟨out,rfl,h2⟩⟩
      simp [execOp,ho,Instr.build,mM,run_underlying hu,nG hs,h1]
    ·exact (dH hv).elim
   ·exact (dH hv).elim
  ·exact (dH hv).elim
 | alloc t=>simp only [aW,ho] at hv;split at hv<;>simp [bw,bad] at hv
 | box t x=>simp only [aW,ho] at hv;split at hv<;>simp [bw,bad] at hv
 | buildSlice t n parts=>
  simp only [aW,ho] at hv
  split at hv
  ·split at hv
   ·rename_i s z _ _
    cases hc:yE (n*s) 16777216 with
    | false=>rw [hc] at hv;exact (dH hv).elim
    | true=>
     rw [hc] at hv;simp only [yA] at hv
     split at hv
     ·simp [bw] at hv
     ·exact (dH hv).elim
   ·exact (dH hv).elim
  ·exact (dH hv).elim
 | makeMap t r=>
  cases r<;>simp only [aW,ho] at hv
  ·repeat' split at hv
   all_goals simp [bw,bad] at hv
  ·exact (dH hv).elim
 | makeSlice t l c=>
  simp only [aW,ho] at hv
  repeat' split at hv
  all_goals simp [bw,bad] at hv
 | insert t x k y=>
  simp only [aW,ho] at hv
  repeat' split at hv
  all_goals simp [bw,bad] at hv
 | mapUpdate t x k y=>
  simp only [aW,ho] at hv
  repeat' split at hv
  all_goals simp [bw,bad] at hv
 | store t x y=>simp only [aW,ho] at hv;split at hv<;>simp [bw,bad] at hv
 | range t x=>simp only [aW,ho] at hv;split at hv<;>simp [bw,bad] at hv
 | next x b=>cases b<;>simp [aW,ho,bw,bad] at hv
 | _=>simp [aW,ho,bw,bad] at hv
end
end
section
open Go
def fp (m:Mp) (id:Nat) (p:Pl):Mp:=fun i=>if i=id then some p else m i
def dN {m:Mp} {id:Nat} {p:Pl}:fp m id p id=some p:=by simp [fp]
def ed {m:Mp} {id i:Nat} {p:Pl} (h:i≠id):fp m id p i=m i:=by simp [fp,h]
section
variable {O:bk} {m:Mp} {S:Nat->Prop} {w:yi} {hp:Hp} {ct:Nat}
def de (m m':Mp):Prop:=∀id p,m id=some p->m' id=some p
def de.refl {m:Mp}:de m m:=fun _ _ h=>h
def de.trans {m m' Kr:Mp} (h:de m m') (k:de m' Kr):de m Kr:=fun id p hp=>k id p (h id p hp)
def jr {i:Nat} (h:m i=none) {p:Pl}:de m (fp m i p):=by
 intro id q hq;rw [ed]
 ·grind
 ·grind
def Az {tm:Env} {tmps:Array yg} {m':Mp} {S':Nat->Prop} {w':yi} (hm:∀id p,m id=some p->m' id=some p) (hS:∀b,S b->S' b) (hw:fA S w w')
  (h:b9 O m S w tm tmps):b9 O m' S' w' tm tmps:=fun i=>lz hm hS hw _ _ (h i)
def alloc_old {o:tp} {b:Nat} (hb:b<w.heap.size):(w.alloc o).heap[b]? =w.heap[b]? :=RowKit.Below.heap_alloc w o b hb
def ri {m':Mp} {S':Nat->Prop} {w':yi} {id:Nat} {o:Obj} (hm:∀id p,m id=some p->m' id=some p) (hS:∀b,S b->S' b) (hw:fA S w w') (hb:∀p,m id=some p->w'.heap[p.b]? =w.heap[p.b]?)
  (hn:∀p,m id=some p->S' p.b->S p.b) (h:eW O m S w id o):eW O m' S' w' id o:=by
 have rowAt:∀(cs:List AV) (b k:Nat),w'.heap[b]? =w.heap[b]? ->bT O.af m S w cs b k->bT O.af m' S' w' cs b k:=by
  intro cs
  induction cs with
  | nil=>intro b k _ _;simp only [bT]
  | cons c cs ih=>
   intro b k ol hr;obtain ⟨⟨u,h1,h2⟩,h3⟩:=hr;exact ⟨⟨u,(Lo ol).trans h1,lz hm hS hw _ _ h2⟩,ih b (k+1) ol h3⟩
 cases o with
 | cells rw pu ex sz cs=>
  obtain ⟨p,arr,t,h1,h2,h3,h4,h5,h6,h7,h8,h9,iE⟩:=h;exact ⟨p,arr,t,hm _ _ h1,(hb p h1).trans h2,h3,h4,h5,h6,rowAt cs p.b p.o (hb p h1) h7,h8,fun hr hs=>h9 hr (hn p h1 hs),fun hr=>hS _ (iE hr)⟩
 | mp rw ks vs=>
  obtain ⟨p,es,clock,h1,h2,h3,h4,h5,h6⟩:=h;exact ⟨p,es,clock,hm _ _ h1,(hb p h1).trans h2,gB hm hS hw _ _ h3,gB hm hS hw _ _ h4,fun hr hs=>h5 hr (hn p h1 hs),fun hr=>hS _ (h6 hr)⟩
 | si s pos=>
  obtain ⟨p,t,h1,h2,h3,h4⟩:=h;exact ⟨p,t,hm _ _ h1,(hb p h1).trans h2,h3,fun hs=>h4 (hn p h1 hs)⟩
 | lp tm ps cK body st pe=>
  obtain ⟨p,l,hi,h1,h2,h3,h4,h5,h6,h7,h8⟩:=h;exact ⟨p,l,hi,hm _ _ h1,(hb p h1).trans h2,fun hs=>h3 (hn p h1 hs),h4,h5,h6,Az hm hS hw h7,h8⟩
def fy {id i:Nat} {o:Obj}:aq ((id,o)::hp) i=if id=i then some o else aq hp i:=by
 simp only [aq]
 simp_all
def HB (hh:aU O m S w hp ct) (g:tp):fA S w (w.alloc g):=fun b hb=>alloc_old (hh.slt b hb)
def jc:Obj->Obj->Prop
 | .cells rw pu ex sz cs,o'=>∃rw',o'= .cells rw' pu ex sz cs/\(rw'=true->rw=true)
 | .mp rw ks vs,o'=>∃rw',o'= .mp rw' ks vs/\(rw'=true->rw=true)
 | .si s pos,o'=>o'= .si s pos
 | .lp tm ps cK body st pe,o'=>o'= .lp tm ps cK body st pe
def jc.refl:∀o,jc o o
 | .cells rw _ _ _ _=>⟨rw,rfl,fun h=>h⟩
 | .mp rw _ _=>⟨rw,rfl,fun h=>h⟩
 | .si _ _=>rfl
 | .lp _ _ _ _ _ _=>rfl
def jc.trans {a b c:Obj} (h:jc a b) (k:jc b c):jc a c:=by
 cases a with
 | cells rw pu ex sz cs=>
  obtain ⟨r1,rfl,h1⟩:=h;obtain ⟨r2,rfl,h2⟩:=k;exact ⟨r2,rfl,fun h=>h1 (h2 h)⟩
 | mp rw ks vs=>
  obtain ⟨r1,rfl,h1⟩:=h;obtain ⟨r2,rfl,h2⟩:=k;exact ⟨r2,rfl,fun h=>h1 (h2 h)⟩
 | si s pos=>simp only [jc] at h;subst h;exact k
 | lp tm ps cK body st pe=>simp only [jc] at h;subst h;exact k
def cU (hp ap:Hp):Prop:=∀id o,aq hp id=some o->∃o',aq ap id=some o'/\jc o o'
def cU.refl {hp:Hp}:cU hp hp:=fun _ o h=>⟨o,h,jc.refl o⟩
def cU.trans {a b c:Hp} (h:cU a b) (k:cU b c):cU a c:=fun id o ho=>
 let ⟨o1,h1,l1⟩:=h id o ho
 let ⟨o2,h2,l2⟩:=k id o1 h1
 ⟨o2,h2,l1.trans l2⟩
def iq:Obj->Prop
 | .cells rw _ _ _ _=>rw=false
 | .mp rw _ _=>rw=false
 | _=>False
def adH {ap:Hp} {a7:Nat} (hh:aU O m S w hp ct) (hl:cU hp ap) (hd:∀id o p,aq ap id=some o->m id=some p->∃o',aq hp id=some o') (fT:ct<=a7) (aAF:∀id o,aq ap id=some o->id<a7):
  ∃S',aU O m S' w ap a7/\(∀b,S b->S' b)/\∀b,S' b->S b\/eb m hp b:=by
 refine ⟨fun b=>S b\/∃id p o,m id=some p/\p.b=b/\aq ap id=some o/\iq o,?_,fun b h=> .inl h,?_⟩
 ·refine ⟨?_,fun id p h=>yT (hh.lt id p h) fT,?_,?_,hh.blt,hh.low,hh.lJ,hh.fF,aAF⟩
  ·intro id o' p jL hm;obtain ⟨o,ho⟩:=hd id o' p jL hm;obtain ⟨YG,h1,h2⟩:=hl id o ho;rw [jL] at h1;injection h1 with h1
   subst h1;have h3:=hh.obj id o p ho hm;have hS:∀b,S b->(S b\/∃id p o,m id=some p/\p.b=b/\aq ap id=some o/\iq o):=fun b h=> .inl h
   have fI:∀q,m id=some q->(∃id p o,m id=some p/\p.b=q.b/\aq ap id=some o/\iq o)->iq o':=by
    rintro q hq ⟨j,pj,oj,YH,hj2,hj3,hj4⟩;obtain ⟨Ku,hj5⟩:=hd j oj pj hj3 YH
    have:=hh.inj id j o Ku q pj ho hj5 hq YH hj2.symm
    grind
   have aR:fA S w w:=fun _ _=>rfl
   cases o with
   | cells rw pu ex sz cs=>
    obtain ⟨rw',rfl,qQ⟩:=h2;obtain ⟨q,arr,t,h1,h2,h3,h4,h5,h6,h7,h8,h9,iE⟩:=h3;refine ⟨q,arr,t,h1,h2,h3,h4,h5,h6,?_,h8,?_,?_⟩
    ·clear h4 h6 h8;revert h7;generalize q.o=k
     induction cs generalizing k with
     | nil=>intro _;simp only [bT]
     | cons c cs ih=>
      intro hr;simp only [bT] at hr ⊢;obtain ⟨⟨u,g1,g2⟩,g3⟩:=hr
      exact ⟨⟨u,g1,lz (fun _ _ h=>h) hS aR _ _ g2⟩,by
       have og:∀(cs:List AV) (b k:Nat),bT O.af m S w cs b k->bT O.af m (fun b=>S b\/∃id p o,m id=some p/\p.b=b/\aq ap id=some o/\iq o) w cs b k:=by
        intro cs
        induction cs with
        | nil=>intro b k _;simp only [bT]
        | cons c cs ih=>
         intro b k hr;simp only [bT] at hr ⊢;obtain ⟨⟨u,g1,g2⟩,g3⟩:=hr;exact ⟨⟨u,g1,lz (fun _ _ h=>h) hS aR _ _ g2⟩,ih b (k+1) g3⟩
       exact og _ _ _ g3⟩
    ·rintro hr (hs | hs)
     ·grind
     ·have:=fI q h1 hs
      simp only [iq] at this
      grind
    ·intro hr;exact .inr ⟨id,q,_,h1,rfl,jL,hr⟩
   | mp rw ks vs=>
    obtain ⟨rw',rfl,qQ⟩:=h2;obtain ⟨q,es,clock,h1,h2,h3,h4,h5,h6⟩:=h3;refine ⟨q,es,clock,h1,h2,gB (fun _ _ h=>h) hS aR _ _ h3,gB (fun _ _ h=>h) hS aR _ _ h4,?_,?_⟩
    ·rintro hr (hs | hs)
     ·grind
     ·have:=fI q h1 hs
      simp only [iq] at this
      grind
    ·intro hr;exact .inr ⟨id,q,_,h1,rfl,jL,hr⟩
   | si s pos=>
    simp only [jc] at h2;subst h2;refine ri (fun _ _ h=>h) hS aR (fun _ _=>rfl) (fun q hq hs=>?_) h3;rcases hs with hs | hs
    ·grind
    ·exact (fI q hq hs).elim
   | lp tm ps cK body st pe=>
    simp only [jc] at h2;subst h2;refine ri (fun _ _ h=>h) hS aR (fun _ _=>rfl) (fun q hq hs=>?_) h3;rcases hs with hs | hs
    ·grind
    ·exact (fI q hq hs).elim
  ·intro i j oi oj pi pj hi hj bP fU e;obtain ⟨Kv,dT⟩:=hd i oi pi hi bP;obtain ⟨Ku,YI⟩:=hd j oj pj hj fU;exact hh.inj i j Kv Ku pi pj dT YI bP fU e
  ·rintro b (hb | ⟨id,p,o,h1,rfl,_,_⟩)
   ·exact hh.slt b hb
   ·exact hh.blt id p h1
 ·rintro b (hb | ⟨id,p,o,h1,rfl,h3,_⟩)
  ·exact .inl hb
  ·obtain ⟨o',jL⟩:=hd id o p h3 h1;exact .inr ⟨id,o',p,jL,h1,rfl⟩
def Q5 {i:Nat} (hh:aU O m S w hp ct) (hi:m i=none) (FV:i<ct) {g:tp} {p:Pl} (hb:p.b=w.heap.size)
  (hf:∀o,aq hp i=some o->(eW O (fp m i p) S (w.alloc g) i o/\¬iq o)\/
   (iq o/\eW O (fp m i p) (fun b=>S b\/b=w.heap.size) (w.alloc g) i o)):
  ∃S',aU O (fp m i p) S' (w.alloc g) hp ct/\(∀b,S b->S' b)/\∀b,S' b->S b\/b=w.heap.size:=by
 have eG:(w.alloc g).heap.size=w.heap.size+1:=by simp
 have bi:O.w0.heap.size<=w.heap.size:=hh.fF;have gen:∀S':Nat->Prop,(∀b,S b->S' b)->(∀b,S' b->S b\/b=w.heap.size)->(∀o,aq hp i=some o->eW O (fp m i p) S' (w.alloc g) i o)->aU O (fp m i p) S' (w.alloc g) hp ct:=by
  intro S' h1 h2 h3;have Kw:∀id q,m id=some q->¬q.b=w.heap.size:=fun id q hq=>by have:=hh.blt id q hq;omega
  refine ⟨?_,?_,?_,?_,?_,?_,?_,?_,hh.aX⟩
  ·intro id o q ho hm;by_cases hc:id=i
   ·grind
   ·rw [ed hc] at hm;refine ri (jr hi) h1 (HB hh g) (fun q' bL=>alloc_old (hh.blt id q' bL)) (fun q' bL hs=>?_) (hh.obj id o q ho hm)
    grind
  ·intro id q hm;by_cases hc:id=i
   ·grind
   ·rw [ed hc] at hm;exact hh.lt id q hm
  ·intro a b oa ob pa pb ha cw Dn zF e;by_cases ca:a=i
   ·by_cases cb:b=i
    ·grind
    ·subst ca;rw [dN] at Dn;rw [ed cb] at zF
     grind
   ·rw [ed ca] at Dn;by_cases cb:b=i
    ·subst cb;rw [dN] at zF
     grind
    ·rw [ed cb] at zF;exact hh.inj a b oa ob pa pb ha cw Dn zF e
  ·intro b hs;rcases h2 b hs with h | h
   ·have:=hh.slt b h;omega
   ·omega
  ·intro id q hm;by_cases hc:id=i
   ·subst hc;rw [dN] at hm
    grind
   ·rw [ed hc] at hm
    have:=hh.blt id q hm
    omega
  ·intro id q hm;by_cases hc:id=i
   ·subst hc;rw [dN] at hm
    grind
   ·rw [ed hc] at hm;exact hh.low id q hm
  ·intro b ol;exact (alloc_old (by omega)).trans (hh.lJ b ol)
  ·omega
 cases ho:aq hp i with
 | none=>exact ⟨S,gen S (fun _ h=>h) (fun _ h=> .inl h) (fun o h=>by rw [ho] at h;cases h),fun _ h=>h,fun _ h=> .inl h⟩
 | some o=>
  rcases hf o ho with ⟨h1,_⟩ | ⟨_,h1⟩
  ·exact ⟨S,gen S (fun _ h=>h) (fun _ h=> .inl h) (fun o' h=>by rw [ho] at h;injection h with h;subst h;exact h1),fun _ h=>h,fun _ h=> .inl h⟩
  ·exact ⟨_,gen (fun b=>S b\/b=w.heap.size) (fun _ h=> .inl h) (fun _ h=>h) (fun o' h=>by rw [ho] at h;injection h with h;subst h;exact h1),fun _ h=> .inl h,fun _ h=>h⟩
def Qi {id:Nat} {o o':Obj} {p:Pl} (hl:jc o o') (hm:m id=some p) (h:eW O m S w id o) (hn:¬iq o):
  (eW O m S w id o'/\¬iq o')\/(iq o'/\eW O m (fun b=>S b\/b=p.b) w id o'):=by
 have hS:∀b,S b->(S b\/b=p.b):=fun _ h=> .inl h
 have aR:fA S w w:=fun _ _=>rfl
 cases o with
 | cells rw pu ex sz cs=>
  obtain ⟨rw',rfl,qQ⟩:=hl
  cases rw' with
  | true=>
   grind
  | false=>
   refine .inr ⟨rfl,?_⟩;obtain ⟨q,arr,t,h1,h2,h3,h4,h5,h6,h7,h8,h9,iE⟩:=h;rw [hm] at h1;injection h1 with h1
   subst h1;have og:∀(cs:List AV) (b k:Nat),bT O.af m S w cs b k->bT O.af m (fun b=>S b\/b=p.b) w cs b k:=by
    intro cs
    induction cs with
    | nil=>intro b k _;simp only [bT]
    | cons c cs ih=>
     intro b k hr;obtain ⟨⟨u,g1,g2⟩,g3⟩:=hr;exact ⟨⟨u,g1,lz (fun _ _ h=>h) hS aR _ _ g2⟩,ih b (k+1) g3⟩
   exact ⟨p,arr,t,hm,h2,h3,h4,h5,h6,og _ _ _ h7,h8,by simp,fun _=> .inr rfl⟩
 | mp rw ks vs=>
  obtain ⟨rw',rfl,qQ⟩:=hl
  cases rw' with
  | true=>
   grind
  | false=>
   refine .inr ⟨rfl,?_⟩;obtain ⟨q,es,clock,h1,h2,h3,h4,h5,h6⟩:=h;rw [hm] at h1;injection h1 with h1
   subst h1;exact ⟨p,es,clock,hm,h2,gB (fun _ _ h=>h) hS aR _ _ h3,gB (fun _ _ h=>h) hS aR _ _ h4,by simp,fun _=> .inr rfl⟩
 | si s pos=>simp only [jc] at hl;subst hl;exact .inl ⟨h,hn⟩
 | lp tm ps cK body st pe=>simp only [jc] at hl;subst hl;exact .inl ⟨h,hn⟩
end
end
section
open Go
section
variable {O:bk} {H:Hint} {m:Mp} {S:Nat->Prop} {w:yi} {tm:Env} {a:Act} {hp:Hp} {ct cq:Nat}
def LL {af:Nat->Nat} {b:Nat} {arr:Array yg} {t:yC} {fr:Nat×Nat} (hb:w.heap[b]? =some (.cells arr t fr)):∀(cs:List AV) (us:List yg) (o:Nat),
  az af m S w cs us->(∀(j:Nat) (u:yg),us[j]? =some u->arr[o+j]? =some u)->bT af m S w cs b o
 | [],us,o,_,_=>by simp only [bT]
 | c::cs,us,o,h,hu=>by
  simp only [az] at h;obtain ⟨u,r,rfl,h2,h3⟩:=h;simp only [bT];refine ⟨⟨u,?_,h2⟩,LL hb cs r (o+1) h3 (fun j v hv=>?_)⟩
  ·have:=hu 0 u (by simp)
   simpa [World.cell?,hb] using this
  ·have:=hu (j+1) v (by simpa using hv)
   rw [show o+1+j=o+(j+1) by omega];exact this
def asX (hh:aU O m S w hp cq) {i:Nat} {arr:Array yg} {t:yC} {cs:List AV} {us:List yg} {pu ex:Bool} {sz:Nat} (hr:az O.af m S w cs us)
  (hu:∀(j:Nat) (u:yg),us[j]? =some u->arr[j]? =some u) (hl:cs.length<=arr.size) (hex:ex=true->cs.length=arr.size) (iC:pu=true->aG cs=true)
  (m':Mp) (hm:de m m') (hi:m' i=some ⟨w.heap.size,0,arr.size,sz⟩):eW O m' S (w.alloc (.cells arr t)) i (.cells true pu ex sz cs):=by
 refine ⟨⟨w.heap.size,0,arr.size,sz⟩,arr,t,hi,heap_alloc_new w _,rfl,hl,by simp,hex,?_,iC,?_,by simp⟩
 ·exact LL (heap_alloc_new w _) cs us 0 (gB hm (fun _ h=>h) (HB hh _) _ _ hr) (by simpa using hu)
 ·intro _ hS
  have:=hh.slt _ hS
  simp at this
def CV (O:bk) (m:Mp) (S:Nat->Prop) (w:yi) (a:Act) (ct:Nat) (o:yX) (v:AV) (b:Obj):Prop:=
 ∃u g p,(execOp a.eval o).run O.P w= .ok (.value u) (w.alloc g)/\p.b=w.heap.size/\¬iq b/\
  ∀m',de m m'->m' ct=some p->eW O m' S (w.alloc g) ct b/\ah O.af m' S (w.alloc g) v u
def QH {o:yX} {arr:Array yg} {t:yC} {cs:List AV} {us:List yg} {pu ex:Bool} {sz:Nat} {v:AV} {u:yg} (hh:aU O m S w hp cq)
  (he:(execOp a.eval o).run O.P w= .ok (.value u) (w.alloc (.cells arr t))) (hr:az O.af m S w cs us)
  (hu:∀(j:Nat) (u:yg),us[j]? =some u->arr[j]? =some u) (hl:cs.length<=arr.size) (hex:ex=true->cs.length=arr.size) (iC:pu=true->aG cs=true)
  (hv:∀m':Mp,m' ct=some ⟨w.heap.size,0,arr.size,sz⟩->ah O.af m' S (w.alloc (.cells arr t)) v u):CV O m S w a ct o v (.cells true pu ex sz cs):=
 ⟨u,_,⟨w.heap.size,0,arr.size,sz⟩,he,rfl,by simp [iq],fun m' hm hi=>⟨asX hh hr hu hl hex iC m' hm hi,hv m' hi⟩⟩
def acv {o:yX} {t:yC} {x:yg} {vx v:AV} {b:Obj} {sz:Nat} (hh:aU O m S w hp cq) (he:(execOp a.eval o).run O.P w= .ok (.value (.pointer (some ⟨w.heap.size,0,none⟩))) (w.alloc (.cells x.cells t))) (hx:az O.af m S w (cellsOf vx) x.cells.toList)
  (hv:(bif yu (cellsOf vx).length sz&&cy (cellsOf vx) then some (AV.ptr ct 0,Obj.cells true (aG (cellsOf vx)) true sz (cellsOf vx)) else none)=some (v,b)):CV O m S w a ct o v b:=by
 cases hc:(yu (cellsOf vx).length sz&&cy (cellsOf vx)) with
 | false=>rw [hc] at hv;cases hv
 | true=>
  rw [hc] at hv;obtain ⟨rfl,rfl⟩:=hv;have hlen:=gC _ _ hx;refine QH hh he hx (fun j u hj=>by simpa using hj) (by rw [<-hlen];simp) (fun _=>by rw [<-hlen];simp) (fun h=>h) (fun m' hi=>?_)
  simp only [ah];exact ⟨_,hi,by simp⟩
def aqR {o:yX} {t:yC} {r:Option xp} (hh:aU O m S w hp cq) (ho:o.op= .makeMap t r) (hr:r=none):CV O m S w a ct o (.map ct) (.mp true [] []):=by
 subst hr;refine ⟨.map (some w.heap.size),.map #[] 0,⟨w.heap.size,0,0,0⟩,by simp [execOp,ho,Instr.makeMap],rfl,by simp [iq],fun m' _ hi=>⟨?_,?_⟩⟩
 ·refine ⟨_,#[],0,hi,heap_alloc_new w _,by simp [az],by simp [az],?_,by simp⟩;intro _ hS
  have:=hh.slt _ hS
  simp at this
 ·simp only [ah];exact ⟨_,hi,rfl⟩
def ao7 {o:yX} {t:yC} {x:xp} {s:List Nat} (hh:aU O m S w hp cq) (ho:o.op= .range t x) (hu:O.P.underlying t=some .string) (hx:ah O.af m S w (.str s) (a.eval x)):
  CV O m S w a ct o (.it ct) (.si s 0):=by
 obtain ⟨b,e,rfl⟩:=hx;refine ⟨.pointer (some ⟨w.heap.size,0,none⟩),.stringIter b 0,⟨w.heap.size,0,0,0⟩,by simp [execOp,ho,Instr.range,run_underlying hu,e],rfl,by simp [iq],fun m' _ hi=>⟨?_,?_⟩⟩
 ·refine ⟨_,b,hi,heap_alloc_new w _,rfl,?_⟩;intro hS
  have:=hh.slt _ hS
  simp at this
 ·simp only [ah];exact ⟨_,hi,rfl⟩
end
def ao8 (zero:Array yg):(vh zero.size).map (fun j=>zero[j]!)=zero.toList:=by
 apply List.ext_getElem
 ·simp
 ·grind
def aaP (zero:Array yg):∀n:Nat,(vh (n*zero.size)).map (fun i=>zero[i%zero.size]!)=(ym n zero.toList).flatten
 | 0=>by simp
 | n+1=>by
  rw [wL,Nat.one_mul,List.range_add,List.map_append,aaP zero n,List.replicate_succ',yag]
  congr 1
  simp only [List.map_map,vA,List.flatten_nil,List.append_nil];rw [<-ao8 zero];apply List.map_congr_left;intro j hj;simp at hj;simp [Function.comp,xE n,Nat.mod_eq_of_lt hj]
def Q6 {af:Nat->Nat} {m:Mp} {S:Nat->Prop} {w:yi} {cs:List AV} {us:List yg} (h:az af m S w cs us):∀n,az af m S w (ym n cs).flatten (ym n us).flatten
 | 0=>by simp [az]
 | n+1=>by rw [wC,wC,vA,vA];exact lj h (Q6 h n)
section
variable {O:bk} {H:Hint} {m:Mp} {S:Nat->Prop} {w:yi} {tm:Env} {a:Act} {hp:Hp} {ct cq:Nat}
def abz (zero:Array yg) (n:Nat):(Array.map (fun i=>zero[i%zero.size]!) (uJ (n*zero.size))).toList=(ym n zero.toList).flatten:=by
 rw [<-aaP zero n]
 simp
def acw (tm:Env):∀(ps:List (Nat×Nat×X)) (zero cs:List AV),fill tm zero ps=some cs->cs.length=zero.length
 | [],zero,cs,h=>by simp only [fill,yd] at h;rw [h]
 | (o,sz,x)::r,zero,cs,h=>by
  simp only [fill] at h
  cases hc:(yu (cellsOf (aD tm x)).length sz&&yE (o+sz) zero.length&&cy (cellsOf (aD tm x))) with
  | false=>rw [hc] at h;cases h
  | true=>
   rw [hc] at h;simp only [ye] at hc;have h1:=yj hc.1.1;have h2:=yv hc.1.2;rw [acw tm r _ _ h];simp only [over,yL,yI,xP];omega
def L6 {α:Type} (l:List α):∀n,(ym n l).flatten.length=n*l.length
 | 0=>by simp
 | n+1=>by simp [wC,L6 l n,wL,Nat.add_comm]
def ao9 {o:yX} {t e:yC} {n s:Nat} {z:AV} {parts:Array (Nat×xp)} {ps:List (Nat×Nat×X)} {v:AV} {b:Obj} (hH:fc O H) (ht:b9 O m S w tm a.tmps) (hh:aU O m S w hp cq)
  (ho:o.op= .buildSlice t n parts) (hu:O.P.underlying t=some (.slice e)) (hs:cE O.P e=some s) (hz:lH O.P e=some z) (hn:n*s<=16777216)
  (ie:partsOf H (fun i=>some (i*s,s)) parts.toList=some ps)
  (hv:cP tm hp ct (.cZ n s (ym n (cellsOf z)).flatten ps)=some (v,b)):CV O m S w a ct o v b:=by
 simp only [cP] at hv
 cases hf:fill tm (ym n (cellsOf z)).flatten ps with
 | none=>simp [hf] at hv
 | some cs=>
  simp only [hf] at hv
  cases hc:yu cs.length (n*s) with
  | false=>rw [hc] at hv;cases hv
  | true=>
   rw [hc] at hv;simp only [yA,yd,yk] at hv;obtain ⟨rfl,rfl⟩:=hv;have hlen:=yj hc;obtain ⟨zv,mM,rfl⟩:=Ee (w:=w) hz;have Aa:az O.af m S w (cellsOf (eB zv)) zv.cells.toList:=Cc zv;have qR:=gC _ _ Aa;have FW:=acw tm ps _ _ hf;rw [L6] at FW;have FX:n*s=n*zv.cells.size:=by
    rw [<-hlen,FW,<-qR];simp
   have key:∃zr:Array yg,(n*s=0->zr=#[])/\(n*s≠0->zr=zv.cells)/\az O.af m S w (ym n (cellsOf (eB zv))).flatten ((uJ (n*s)).map (fun x=>zr[x%zr.size]!)).toList:=by
    by_cases h0:n*s=0
    ·refine ⟨#[],fun _=>rfl,fun h=>(h h0).elim,?_⟩
     have:(ym n (cellsOf (eB zv))).flatten=[]:=by
      apply yx;rw [L6,<-qR];simp only [vB];omega
     rw [this];simp [az,h0]
    ·refine ⟨zv.cells,fun h=>(h0 h).elim,fun _=>rfl,?_⟩;rw [FX,abz];exact Q6 Aa n
   obtain ⟨zr,Kx,kh,fD⟩:=key;obtain ⟨out,h1,h2⟩:=Mt hH ht (place:=fun i=>some (i*s,s)) parts.toList ps _ cs _ ie fD hf;have oh:=gC _ _ h2
   refine QH (arr:=out) (t:=e) (us:=out.toList) hh ?_ h2 (fun j u hj=>by simpa using hj) (by rw [<-oh];simp) (fun _=>by rw [<-oh];simp) (fun h=>h) (u:= .slice (some ⟨w.heap.size,0,none⟩) n n) ?_
   ·have jd:¬(n*s>2^24):=by omega
    by_cases h0:n*s=0
    ·have:=Kx h0
     subst this;simp only [h0] at h1;simp [execOp,ho,Instr.buildSlice,run_underlying hu,nG hs,h0,newRow] at h1 ⊢;simp [h1]
    ·have:=kh h0
     subst this;simp [execOp,ho,Instr.buildSlice,run_underlying hu,nG hs,h0,jd,mM,newRow] at h1 ⊢;simp [h1]
   ·intro m' hi;simp only [ah];refine ⟨_,n,hi,by simp,yr _,?_⟩;simp only [yf];rw [<-hlen,<-oh];simp
def Cd:∀{a b:List AV},aG a=true->aG b=true->aG (a++b)=true
 | [],_,_,h=>h
 | c::r,b,h,k=>by
  simp only [aG,ye] at h;simp only [xm,aG,ye];exact ⟨h.1,Cd h.2 k⟩
def abA {z:List AV} (h:aG z=true):∀n,aG (ym n z).flatten=true
 | 0=>by simp [aG]
 | n+1=>by rw [wC,vA];exact Cd h (abA h n)
def aqS {o:yX} {t e:yC} {s by':Nat} {z:AV} {l c:xp} {v:AV} {b:Obj} (hH:fc O H) (ht:b9 O m S w tm a.tmps) (hh:aU O m S w hp cq)
  (ho:o.op= .makeSlice t l c) (hu:O.P.underlying t=some (.slice e)) (hs:cE O.P e=some s) (hb:se O.P e=some by') (hz:lH O.P e=some z)
  (hv:cP tm hp ct (.gj s by' (cellsOf z) (aK H l) (aK H c))=some (v,b)):CV O m S w a ct o v b:=by
 simp only [cP] at hv
 cases hl:dz (aD tm (aK H l)) with
 | none=>simp [hl] at hv
 | some ln=>
  cases hc:dz (aD tm (aK H c)) with
  | none=>simp [hl,hc] at hv
  | some cn=>
   simp only [hl,hc] at hv
   cases hk:(yE ln cn&&(yE cn room&&(yE (cn*by') room&&(yu (cellsOf z).length s&&cy (cellsOf z))))) with
   | false=>rw [hk] at hv;cases hv
   | true=>
    rw [hk] at hv;simp only [yA,yd,yk] at hv;obtain ⟨rfl,rfl⟩:=hv;simp only [ye] at hk;have h1:=yv hk.1;have h2:=yv hk.2.1;have h3:=yv hk.2.2.1;have h4:=yj hk.2.2.2.1;simp only [room] at h2 h3;obtain ⟨kl,el⟩:=zb (cz hH ht l) hl;obtain ⟨kc,ec⟩:=zb (cz hH ht c) hc;obtain ⟨zv,mM,rfl⟩:=Ee (w:=w) hz;have Aa:az O.af m S w (cellsOf (eB zv)) zv.cells.toList:=Cc zv;have qR:=gC _ _ Aa;have Dp:zv.cells.size=s:=by rw [<-h4,<-qR];simp
    have wrapN:∀k:Nat,k<=1099511627776->IntKind.i64.wrap (k:Int)=k:=fun k hk=>IntWalk.i64_in _ (by omega)
    obtain ⟨ti,nt,eG,YJ⟩:∃ti,O.P.info? e=some ti/\ti.size=s/\ti.bytes=by':=by
     unfold cE at hs;unfold se at hb
     cases hi:O.P.info? e with
     | none=>simp [hi] at hs
     | some ti=>simp only [hi,yd] at hs hb;exact ⟨ti,rfl,hs,hb⟩
    have CZ:((uJ (cn*s)).map (zv.cells[·%zv.cells.size]!)).toList=(ym ln zv.cells.toList).flatten++(ym (cn-ln) zv.cells.toList).flatten:=by
     rw [<-Dp,abz,<-yag,List.replicate_append_replicate]
     grind
    have gP:(ym ln (cellsOf (eB zv))).flatten.length=ln*s:=by rw [L6,h4]
    have hmul:ln*s<=cn*s:=yV _ h1
    refine QH (arr:=(uJ (cn*s)).map (zv.cells[·%zv.cells.size]!)) (t:=e) (us:=(ym ln zv.cells.toList).flatten) hh (u:= .slice (some ⟨w.heap.size,0,none⟩) ln cn) ?_
     (Q6 Aa ln) ?_ ?_ ?_ (fun h=>?_) ?_
    ·have aHP:by'*cn<=1099511627776:=by rw [xE];exact h3
     have so:((by'*cn:Nat):Int)<=1099511627776:=by omega
     rw [Int.natCast_mul] at so;have hlc:(ln:Int)<=(cn:Int):=by omega
     have g1:¬(281474976710656<(by':Int)*(cn:Int)):=by omega
     have g2:¬(((ln:Int)<0)):=by omega
     have g3:¬(((cn:Int)<0)):=by omega
     have g4:¬((ln:Int)>(cn:Int)):=by omega
     by_cases h0:cn*s=0
     ·simp [execOp,ho,Instr.makeSlice,run_underlying hu,el,ec,asInt,asIntOf,typeInfo,nt,YJ,wrapN ln (by omega),wrapN cn h2,g1,g2,g3,g4,nG hs,h0,newRow,askRoom,roomBytes]
      grind
     ·simp [execOp,ho,Instr.makeSlice,run_underlying hu,el,ec,asInt,asIntOf,typeInfo,nt,YJ,wrapN ln (by omega),wrapN cn h2,g1,g2,g3,g4,nG hs,h0,newRow,askRoom,roomBytes,mM]
    ·intro j u hj
     have:((uJ (cn*s)).map (zv.cells[·%zv.cells.size]!)).toList[j]? =some u:=by
      grind
     grind
    ·grind
    ·simp_all
    ·exact abA h ln
    ·intro m' hi;simp only [ah];refine ⟨_,cn,hi,by simp,h1,?_⟩
     simp
def asY {o:yX} {k:Nat} {v:AV} {b:Obj} (hH:fc O H) (ht:b9 O m S w tm a.tmps) (hh:aU O m S w hp cq)
  (hv:cP tm hp ct (aW O.P H k o)=some (v,b)):CV O m S w a ct o v b:=by
 cases ho:o.op with
 | call c=>
  obtain ⟨callee,args,ts⟩:=c;simp only [aW,ho] at hv
  repeat' split at hv
  all_goals first
   | (simp [cP,bad] at hv;done)
   | (revert hv;generalize yu _ _=bb;intro hv;cases bb<;>simp [cP,bad] at hv)
 | alloc t=>
  simp only [aW,ho] at hv
  split at hv
  ·rename_i s z hs hz;obtain ⟨zv,mM,rfl⟩:=Ee (w:=w) hz
   exact acv (x:=zv) (t:=t) hh (by simp [execOp,ho,Instr.alloc,mM,newVar,newRow]) (Cc zv) (by simpa only [cP,aD] using hv)
  ·simp [cP,bad] at hv
 | box t x=>
  simp only [aW,ho] at hv
  split at hv
  ·rename_i s hs;simp only [cP] at hv
   cases hc:(yu (cellsOf (aD tm (aK H x))).length s&&cy (cellsOf (aD tm (aK H x)))) with
   | false=>rw [hc] at hv;cases hv
   | true=>
    have h1:=hc;simp only [ye] at h1
    exact acv (x:=a.eval x) (t:=t) hh (by simp [execOp,ho,Instr.box,newVar,newRow]) (QG (cz hH ht x) h1.2) hv
  ·simp [cP,bad] at hv
 | buildSlice t n parts=>
  simp only [aW,ho] at hv
  split at hv
  ·rename_i e hu
   split at hv
   ·rename_i s z hs hz
    cases hc:yE (n*s) 16777216 with
    | false=>rw [hc] at hv;simp [cP,bad] at hv
    | true=>
     rw [hc] at hv;simp only [yA] at hv
     split at hv
     ·rename_i ps ie;exact ao9 hH ht hh ho hu hs hz (yv hc) ie hv
     ·simp [cP,bad] at hv
   ·simp [cP,bad] at hv
  ·simp [cP,bad] at hv
 | makeSlice t l c=>
  simp only [aW,ho] at hv
  split at hv
  ·rename_i e hu
   split at hv
   ·rename_i s by' z hs hb hz
    exact aqS hH ht hh ho hu hs hb hz hv
   ·simp [cP,bad] at hv
  ·simp [cP,bad] at hv
 | makeMap t r=>
  cases r with
  | some x=>simp [aW,ho,cP,bad] at hv
  | none=>
   simp only [aW,ho] at hv
   repeat' split at hv
   all_goals first
    | (simp [cP,bad] at hv;done)
    | (
      simp only [cP,yd,yk] at hv;obtain ⟨rfl,rfl⟩:=hv
      exact aqR hh ho rfl)
 | range t x=>
  simp only [aW,ho] at hv
  split at hv
  ·rename_i hu;simp only [cP] at hv;have rx:=cz hH ht x;cases hx:aD tm (aK H x)<;>rw [hx] at hv rx<;>simp only [reduceCtorEq] at hv
   simp only [yd,yk] at hv;obtain ⟨rfl,rfl⟩:=hv;exact ao7 hh ho hu rx
  ·simp [cP,bad] at hv
 | next x b=>cases b<;>simp [aW,ho,cP,bad] at hv
 | binOp op t x y ty=>
  cases op<;>simp only [aW,ho,nM,oU] at hv
  case eql=>
        repeat' split at hv
        all_goals first
         | (simp [cP,bad] at hv;done)
         | (cases hb:(O.P.stoodInHeld t||O.P.eqGuardType O.P.depth t)<;>rw [hb] at hv<;>simp [cP,bad] at hv)
  case neq=>
        repeat' split at hv
        all_goals first
         | (simp [cP,bad] at hv;done)
         | (cases hb:(O.P.stoodInHeld t||O.P.eqGuardType O.P.depth t)<;>rw [hb] at hv<;>simp [cP,bad] at hv)
  all_goals simp [cP] at hv
 | _=>
  simp only [aW,ho] at hv
  (repeat' split at hv)
  all_goals first
   | contradiction
   | (simp [cP,bad] at hv;done)
end
end
section
open Go
def rm {hp:Hp} {id i:Nat} {o:Obj}:aq (bc hp id o) i=if id=i then (if (aq hp id).isSome then some o else none) else aq hp i:=by
 induction hp with
 | nil=>simp [bc,aq]
 | cons x r ih=>
  obtain ⟨j,q⟩:=x;simp only [bc];by_cases hj:j=id
  ·subst hj;simp only [wV,yA,aq];by_cases hi:j=i
   ·simp_all
   ·have:yu j i=false:=by
     cases hq:yu j i with
     | false=>rfl
     | true=>exact absurd (yj hq) hi
    grind
  ·have hb:yu j id=false:=by
    cases hq:yu j id with
    | false=>rfl
    | true=>exact absurd (yj hq) hj
   simp only [hb,yS];rw [show aq ((j,q)::bc r id o) i=bif yu j i then some q else aq (bc r id o) i from rfl,ih];by_cases hi:j=i
   ·subst hi
    have:¬id=j:=fun h=>hj h.symm
    simp [wV,this,aq]
   ·have so:yu j i=false:=by
     cases hq:yu j i with
     | false=>rfl
     | true=>exact absurd (yj hq) hi
    simp [so,aq,hb]
def jV (hp ap:Hp):Prop:=∀id,(aq ap id).isSome=(aq hp id).isSome
def jV.refl {hp:Hp}:jV hp hp:=fun _=>rfl
def jV.trans {a b c:Hp} (h:jV a b) (k:jV b c):jV a c:=fun id=>(k id).trans (h id)
def RL {hp:Hp} {id:Nat} {o o':Obj} (h:aq hp id=some o) (hl:jc o o'):cU hp (bc hp id o')/\jV hp (bc hp id o'):=by
 constructor
 ·intro i q hq;rw [rm];by_cases hi:id=i
  ·grind
  ·exact ⟨q,by simp [hi,hq],jc.refl q⟩
 ·intro i;rw [rm]
  grind
def abB {hp H:Hp} {id:Nat} {pu ex:Bool} {sz:Nat} {cs:List AV} (hl:cU hp H) (h:aq hp id=some (.cells false pu ex sz cs)):aq H id=some (.cells false pu ex sz cs):=by
 obtain ⟨o',h1,rw',rfl,h2⟩:=hl id _ h
 cases rw' with
 | false=>exact h1
 | true=>exact absurd (h2 rfl) (by simp)
section
variable {O:bk}
def aza (O:bk) (m:Mp) (S:Nat->Prop) (w:yi) (p:Pl) (ex:Bool) (sz:Nat) (cs:List AV):Prop:=
 p.z=sz/\cs.length<=p.e/\(ex=true->cs.length=p.e)/\S p.b/\aG cs=true/\bT O.af m S w cs p.b p.o
def S8 (O:bk) (ap:Hp) (v v':AV):Prop:=∀H m S w ct,cU ap H->aU O m S w H ct->(∀u,ah O.af m S w v u->ah O.af m S w v' u)/\a6 v'=true
def aji (O:bk) (ap:Hp) (vs dZ:List AV):Prop:=∀H m S w ct,cU ap H->aU O m S w H ct->(∀us,az O.af m S w vs us->az O.af m S w dZ us)/\aG dZ=true
def aAG (O:bk) (ap:Hp) (id:Nat) (ex:Bool) (sz:Nat) (cs:List AV):Prop:=∀H m S w ct,cU ap H->aU O m S w H ct->∀p,m id=some p->aza O m S w p ex sz cs
def D8 {af:Nat->Nat} {m:Mp} {S:Nat->Prop} {w:yi} {b:Nat}:∀(cs:List AV) (us:List yg) (o:Nat),az af m S w cs us->
  (∀(j:Nat) (u:yg),us[j]? =some u->w.cell? ⟨b,o+j,none⟩=some u)->bT af m S w cs b o
 | [],us,o,_,_=>by simp only [bT]
 | c::cs,us,o,h,hu=>by
  obtain ⟨u,r,rfl,h2,h3⟩:=h;refine ⟨⟨u,by simpa using hu 0 u (by simp),h2⟩,D8 cs r (o+1) h3 (fun j v hv=>?_)⟩;rw [show o+1+j=o+(j+1) by omega]
  simp_all
def azb {m:Mp} {S:Nat->Prop} {w:yi} {cs dF:List AV} (h:∀us,az O.af m S w cs us->az O.af m S w dF us) {b o:Nat} (hr:bT O.af m S w cs b o):bT O.af m S w dF b o:=by
 obtain ⟨us,h1,_,h3⟩:=rh cs b o hr;exact D8 dF us o (h us h1) h3
def As:∀(k:Nat) {cs:List AV},aG cs=true->aG (cs.take k)=true
 | 0,_,_=>by simp [aG]
 | k+1,[],_=>by simp [aG]
 | k+1,c::cs,h=>by
  simp only [aG,ye,wz] at h ⊢;exact ⟨h.1,As k h.2⟩
def aqT {ap:Hp} {vs dZ:List AV}:∀{n:Nat} {hp:Hp},cI n hp vs=some (dZ,ap)->dZ.length=vs.length:=by
 intro n
 induction n generalizing vs dZ ap with
 | zero=>intro hp h;simp [cI] at h
 | succ n ih=>
  intro hp h
  cases vs with
  | nil=>simp only [cI,yd,yk] at h;rw [<-h.1]
  | cons v r=>
   simp only [cI] at h
   cases h1:freeze n hp v with
   | none=>simp [h1] at h
   | some q=>
    obtain ⟨v',bj⟩:=q;simp only [h1] at h
    cases h2:cI n bj r with
    | none=>simp [h2] at h
    | some q2=>
     grind
def aaQ:∀n:Nat,
  (∀hp v v' ap,freeze n hp v=some (v',ap)->cU hp ap/\jV hp ap/\S8 O ap v v')/\
  (∀hp id ex sz cs ap,qc n hp id=some (ex,sz,cs,ap)->cU hp ap/\jV hp ap/\aAG O ap id ex sz cs)/\
  (∀hp vs dZ ap,cI n hp vs=some (dZ,ap)->cU hp ap/\jV hp ap/\aji O ap vs dZ):=by
 intro n
 induction n with
 | zero=>refine ⟨?_,?_,?_⟩<;>intros<;>simp_all [freeze,qc,cI]
 | succ n ih=>
  obtain ⟨ihV,ihB,FY⟩:=ih;refine ⟨?_,?_,?_⟩
  ·intro hp v v' ap h;have plain:∀{v v':AV} {hp ap:Hp},(bif a6 v then some (v,hp) else none)=some (v',ap)->cU hp ap/\jV hp ap/\S8 O ap v v':=by
    intro v v' hp ap h
    cases hc:a6 v with
    | false=>rw [hc] at h;cases h
    | true=>
     rw [hc] at h;simp only [yA,yd,yk] at h;obtain ⟨rfl,rfl⟩:=h;exact ⟨cU.refl,jV.refl,fun _ _ _ _ _ _ _=>⟨fun _ h=>h,hc⟩⟩
   cases v<;>simp only [freeze] at h<;>first | exact plain h | skip
   case aB id o k=>
    cases hb:qc n hp id with
    | none=>simp [hb] at h
    | some q=>
     obtain ⟨ex,sz,cs,bj⟩:=q;simp only [hb] at h
     cases hc:yE (o+k*sz) cs.length with
     | false=>rw [hc] at h;cases h
     | true=>
      rw [hc] at h;simp only [yA,yd,yk] at h;obtain ⟨rfl,rfl⟩:=h;have hle:=yv hc;obtain ⟨h1,h2,h3⟩:=ihB _ _ _ _ _ _ hb;refine ⟨h1,h2,fun H m S w ct hl hh=>⟨fun u hu=>?_,by simp only [a6]⟩⟩;simp only [ah] at hu ⊢;obtain ⟨p,c,hm,rfl,mN,Pj⟩:=hu;obtain ⟨g1,g2,g3,g4,g5,g6⟩:=h3 H m S w ct hl hh p hm;refine .inl ⟨p.b,p.o+o,c,rfl,mN,?_,.inr g4,As _ (sO _ _ g5),Av _ _ _ _ (p8 _ _ _ _ g6)⟩;intro hx;simp only [ye] at hx;have e1:=yj hx.2;have e2:0<sz:=by
       simp_all
      have e3:=g3 hx.1.1;rw [g1] at Pj
      have:c*sz=k*sz:=by omega
      exact Nat.eq_of_mul_eq_mul_right e2 this
   case ptr id o=>
    cases hb:qc n hp id with
    | none=>simp [hb] at h
    | some q=>
     obtain ⟨ex,sz,cs,bj⟩:=q;simp only [hb,yd,yk] at h;obtain ⟨rfl,rfl⟩:=h;obtain ⟨h1,h2,h3⟩:=ihB _ _ _ _ _ _ hb;refine ⟨h1,h2,fun H m S w ct hl hh=>⟨fun u hu=>?_,by simp only [a6]⟩⟩;simp only [ah] at hu ⊢;obtain ⟨p,hm,rfl⟩:=hu;obtain ⟨g1,g2,g3,g4,g5,g6⟩:=h3 H m S w ct hl hh p hm;exact ⟨p.b,p.o+o,rfl,.inr g4,sO _ _ g5,p8 _ _ _ _ g6⟩
   case map id=>
    cases hg:aq hp id with
    | none=>simp [hg] at h
    | some ob=>
     cases ob<;>simp only [hg,reduceCtorEq] at h
     rename_i rw ks vs
     cases hc:(aG ks&&aG vs) with
     | false=>rw [hc] at h;cases h
     | true=>
      rw [hc] at h;simp only [yA,yd,yk] at h;obtain ⟨rfl,rfl⟩:=h;simp only [ye] at hc;obtain ⟨h1,h2⟩:=RL hg (o':= .mp false ks vs) ⟨false,rfl,by simp⟩;refine ⟨h1,h2,fun H m S w ct hl hh=>⟨fun u hu=>?_,by simp only [a6]⟩⟩;simp only [ah] at hu ⊢;obtain ⟨p,hm,rfl⟩:=hu;have hq:aq (bc hp id (.mp false ks vs)) id=some (.mp false ks vs):=by rw [rm];simp [hg]
      obtain ⟨o',h3,rw',rfl,h4⟩:=hl id _ hq;have qQ:rw'=false:=by cases rw' with | false=>rfl | true=>exact absurd (h4 rfl) (by simp)
      subst qQ;obtain ⟨p',es,clock,g1,g2,g3,g4,g5,g6⟩:=hh.obj id _ _ h3 hm;rw [hm] at g1;injection g1 with g1
      subst g1;exact ⟨p.b,es,clock,rfl,g6 rfl,hc.1,hc.2,g2,g3,g4⟩
   case fn f first cap=>
    cases f with
    | y l=>simp only [a6,yS,reduceCtorEq] at h
    | f g=>
     simp only at h
     cases h1:cI n hp first with
     | none=>simp [h1] at h
     | some q=>
      obtain ⟨ag8,bj⟩:=q;simp only [h1] at h
      cases h2:cI n bj cap with
      | none=>simp [h2] at h
      | some q2=>
       obtain ⟨Nt,jJ⟩:=q2;simp only [h2,yd,yk] at h;obtain ⟨rfl,rfl⟩:=h;obtain ⟨a1,a2,a3⟩:=FY _ _ _ _ h1;obtain ⟨b1,b2,b3⟩:=FY _ _ _ _ h2;refine ⟨a1.trans b1,a2.trans b2,fun H m S w ct hl hh=>?_⟩;obtain ⟨c1,c2⟩:=a3 H m S w ct (b1.trans hl) hh;obtain ⟨d1,d2⟩:=b3 H m S w ct hl hh;refine ⟨fun u hu=>?_,by simp [a6,c2,d2]⟩;simp only [ah] at hu ⊢;obtain ⟨fi,ca,rfl,e1,e2⟩:=hu;exact ⟨fi,ca,rfl,c1 _ e1,d1 _ e2⟩
   case agg cs=>
    cases h1:cI n hp cs with
    | none=>simp [h1] at h
    | some q=>
     obtain ⟨dF,bj⟩:=q;simp only [h1,yd,yk] at h;obtain ⟨rfl,rfl⟩:=h;obtain ⟨a1,a2,a3⟩:=FY _ _ _ _ h1;refine ⟨a1,a2,fun H m S w ct hl hh=>?_⟩;obtain ⟨c1,c2⟩:=a3 H m S w ct hl hh;refine ⟨fun u hu=>?_,by simpa [a6] using c2⟩;simp only [ah] at hu ⊢;obtain ⟨xs,rfl,e1⟩:=hu;exact ⟨xs,rfl,c1 _ e1⟩
   case ae cs=>
    cases h1:cI n hp cs with
    | none=>simp [h1] at h
    | some q=>
     obtain ⟨dF,bj⟩:=q;simp only [h1,yd,yk] at h;obtain ⟨rfl,rfl⟩:=h;obtain ⟨a1,a2,a3⟩:=FY _ _ _ _ h1;refine ⟨a1,a2,fun H m S w ct hl hh=>?_⟩;obtain ⟨c1,c2⟩:=a3 H m S w ct hl hh;refine ⟨fun u hu=>?_,by simpa [a6] using c2⟩;simp only [ah] at hu ⊢;obtain ⟨xs,rfl,e1⟩:=hu;exact ⟨xs,rfl,c1 _ e1⟩
  ·intro hp id ex sz dF ap h;simp only [qc] at h
   cases hg:aq hp id with
   | none=>simp [hg] at h
   | some ob=>
    cases ob<;>simp only [hg,reduceCtorEq] at h
    rename_i rw pu sf BJ cs
    cases pu with
    | true=>
     simp only [yA,yd,yk] at h;obtain ⟨rfl,rfl,rfl,rfl⟩:=h;have hq:cU hp (bif rw then bc hp id (.cells false true sf BJ cs) else hp)/\jV hp (bif rw then bc hp id (.cells false true sf BJ cs) else hp)/\aq (bif rw then bc hp id (.cells false true sf BJ cs) else hp) id=some (.cells false true sf BJ cs):=by
      cases rw with
      | true=>
       obtain ⟨h1,h2⟩:=RL hg (o':= .cells false true sf BJ cs) ⟨false,rfl,by simp⟩;exact ⟨h1,h2,by simp [rm,hg]⟩
      | false=>exact ⟨cU.refl,jV.refl,hg⟩
     refine ⟨hq.1,hq.2.1,fun H m S w ct hl hh p hm=>?_⟩;obtain ⟨p',arr,t,g1,g2,g3,g4,g5,g6,g7,g8,g9,g10⟩:=hh.obj id _ _ (abB hl hq.2.2) hm;rw [hm] at g1;injection g1 with g1
     subst g1;exact ⟨g3,g4,g6,g10 rfl,g8 rfl,g7⟩
    | false=>
     simp only [yS] at h
     cases h1:cI n hp cs with
     | none=>simp [h1] at h
     | some q=>
      obtain ⟨sr,bj⟩:=q;simp only [h1,yd,yk] at h;obtain ⟨rfl,rfl,rfl,rfl⟩:=h;obtain ⟨a1,a2,a3⟩:=FY _ _ _ _ h1;obtain ⟨o1,ig,rw1,rfl,_⟩:=a1 id _ hg;obtain ⟨b1,b2⟩:=RL ig (o':= .cells false false sf BJ cs) ⟨false,rfl,by simp⟩;refine ⟨a1.trans b1,a2.trans b2,fun H m S w ct hl hh p hm=>?_⟩;have hq:aq (bc bj id (.cells false false sf BJ cs)) id=some (.cells false false sf BJ cs):=by simp [rm,ig]
      obtain ⟨p',arr,t,g1,g2,g3,g4,g5,g6,g7,g8,g9,g10⟩:=hh.obj id _ _ (abB hl hq) hm;rw [hm] at g1;injection g1 with g1
      subst g1;obtain ⟨c1,c2⟩:=a3 H m S w ct (b1.trans hl) hh;have hlen:=aqT h1
      exact ⟨g3,by omega,fun hx=>by have:=g6 hx;omega,g10 rfl,c2,azb c1 g7⟩
  ·intro hp vs dZ ap h
   cases vs with
   | nil=>
    simp only [cI,yd,yk] at h;obtain ⟨rfl,rfl⟩:=h;exact ⟨cU.refl,jV.refl,fun _ _ _ _ _ _ _=>⟨fun _ h=>h,rfl⟩⟩
   | cons v r=>
    simp only [cI] at h
    cases h1:freeze n hp v with
    | none=>simp [h1] at h
    | some q=>
     obtain ⟨v1,bj⟩:=q;simp only [h1] at h
     cases h2:cI n bj r with
     | none=>simp [h2] at h
     | some q2=>
      obtain ⟨r1,jJ⟩:=q2;simp only [h2,yd,yk] at h;obtain ⟨rfl,rfl⟩:=h;obtain ⟨a1,a2,a3⟩:=ihV _ _ _ _ h1;obtain ⟨b1,b2,b3⟩:=FY _ _ _ _ h2;refine ⟨a1.trans b1,a2.trans b2,fun H m S w ct hl hh=>?_⟩;obtain ⟨c1,c2⟩:=a3 H m S w ct (b1.trans hl) hh;obtain ⟨d1,d2⟩:=b3 H m S w ct hl hh;refine ⟨fun us hu=>?_,by simp [aG,c2,d2]⟩;simp only [az] at hu ⊢;obtain ⟨u,t,rfl,e1,e2⟩:=hu;exact ⟨u,t,rfl,c1 _ e1,d1 _ e2⟩
def Qr {n:Nat} {hp ap:Hp} {vs dZ:List AV} (h:cI n hp vs=some (dZ,ap)):cU hp ap/\jV hp ap/\aji O ap vs dZ:=(aaQ n).2.2 _ _ _ _ h
def QI {n:Nat} {hp ap:Hp} {v v':AV} (h:freeze n hp v=some (v',ap)):cU hp ap/\jV hp ap/\S8 O ap v v':=(aaQ n).1 _ _ _ _ h
end
end
section
open Go
section
variable {O:bk} {H:Hint} {m:Mp} {S:Nat->Prop} {w:yi} {tm:Env} {a:Act} {hp:Hp} {ct:Nat}
structure One (w w':yi) (g:Nat):Prop where
 os:w'.os=w.os
 tape:w'.tape=w.tape
 output:w'.output=w.output
 size:w'.heap.size=w.heap.size
 other:∀b,b≠g->w'.heap[b]? =w.heap[b]?
def Qs (w:yi) (g:Nat) (cs:Array yg):One w (w.setRow g cs) g:=
 ⟨rfl,rfl,rfl,by simp,fun b hb=>setRow_other w g b cs hb⟩
def Io {id:Nat} {o:Obj} {p:Pl} (h:aq hp id=some o) (hm:m id=some p):eb m hp p.b:=⟨id,o,p,h,hm,rfl⟩
def aqU {id:Nat} {o':Obj} {b:Nat} (h:eb m (bc hp id o') b):eb m hp b:=by
 obtain ⟨i,o,p,h1,h2,h3⟩:=h;rw [rm] at h1;by_cases hi:id=i
 ·subst hi
  cases hq:aq hp id with
  | none=>simp [hq] at h1
  | some q=>exact ⟨id,q,p,hq,h2,h3⟩
 ·simp only [hi,xf] at h1;exact ⟨i,o,p,h1,h2,h3⟩
def HS (hh:aU O m S w hp ct) {id:Nat} {o o':Obj} {p:Pl} {w':yi} (ho:aq hp id=some o) (hm:m id=some p) (hn:¬S p.b) (hw:One w w' p.b) (h':eW O m S w' id o') (hk:∀r:uN,w.heap[p.b]? =some (.loop r)->∃r':uN,w'.heap[p.b]? =some (.loop r')):
  aU O m S w' (bc hp id o') ct/\ck m S w hp m S w' (bc hp id o') ct:=by
 have aR:fA S w w':=fun b hb=>hw.other b (fun e=>hn (e▸hb))
 refine ⟨⟨?_,hh.lt,?_,?_,?_,hh.low,?_,?_,fun i q hq=>(by
  rw [rm] at hq;by_cases hc:id=i
  ·subst hc;exact hh.aX _ _ ho
  ·simp only [hc,xf] at hq;exact hh.aX _ _ hq)⟩,⟨hw.os,hw.tape,hw.output,by rw [hw.size];exact yr _,?_,fun _ h=>h,fun b hb=>aR b hb,fun b hb=> .inl hb,fun b hb=> .inl (aqU hb),fun _ _ _ h=>h,fun b r hb=>?_⟩⟩
 rotate_right
 ·by_cases hc:b=p.b
  ·subst hc;exact hk r hb
  ·exact ⟨r,(hw.other b hc).trans hb⟩
 ·intro i q pi hi bP;rw [rm] at hi;by_cases hc:id=i
  ·subst hc;simp only [xC,ho,Option.isSome_some] at hi;injection hi with hi
   subst hi;exact h'
  ·simp only [hc,xf] at hi;refine ri (fun _ _ h=>h) (fun _ h=>h) aR (fun q' bL=>?_) (fun _ _ h=>h) (hh.obj i q pi hi bP);exact hw.other _ (fun e=>hc (hh.inj i id q o q' p hi ho bL hm e).symm)
 ·intro i j oi oj pi pj hi hj bP fU e;have key:∀{i:Nat} {oi:Obj},aq (bc hp id o') i=some oi->∃Kv,aq hp i=some Kv:=by
   intro i oi hi;rw [rm] at hi;by_cases hc:id=i
   ·subst hc;exact ⟨o,ho⟩
   ·simp only [hc,xf] at hi;exact ⟨oi,hi⟩
  obtain ⟨Kv,dT⟩:=key hi;obtain ⟨Ku,YI⟩:=key hj;exact hh.inj i j Kv Ku pi pj dT YI bP fU e
 ·intro b hb;rw [hw.size];exact hh.slt b hb
 ·intro i q hq;rw [hw.size];exact hh.blt i q hq
 ·intro b hb
  rw [hw.other b (fun e=>by have:=hh.low id p hm;omega)];exact hh.lJ b hb
 ·rw [hw.size];exact hh.fF
 ·intro b _ hb;exact hw.other b (fun e=>hb (e▸Io ho hm))
def zq (O:bk) (m:Mp) (S:Nat->Prop) (w:yi) (a:Act) (hp:Hp) (ct:Nat) (o:yX) (v:AV) (ap:Hp) (a7:Nat):Prop:=
 ∃n u w' m' S',(execOp a.eval o).run O.P w= .ok n w'/\(n= .value u\/(n= .skip/\u=undef))/\aU O m' S' w' ap a7/\ah O.af m' S' w' v u/\de m m'/\ck m S w hp m' S' w' ap ct
def aqV {af:Nat->Nat} {v:AV} {u:yg} (h:ah af m S w v u) (ho:dh v=true):u.oneCell'=true:=by
 cases v with
 | fn f a b=>
  cases f with
  | f g=>simp only [ah] at h;obtain ⟨_,_,rfl,_⟩:=h;rfl
  | y l=>simp only [ah] at h;obtain ⟨_,_,rfl⟩:=h;rfl
 | int k n=>simp only [ah] at h;subst h;rfl
 | bool b=>simp only [ah] at h;subst h;rfl
 | bS k n=>simp only [ah] at h;subst h;rfl
 | str s=>simp only [ah] at h;obtain ⟨_,rfl,_⟩:=h;rfl
 | kN=>simp only [ah] at h;subst h;rfl
 | ptr i k=>simp only [ah] at h;obtain ⟨_,_,rfl⟩:=h;rfl
 | b5 cs=>simp only [ah] at h;obtain ⟨_,_,rfl,_⟩:=h;rfl
 | aa=>simp only [ah] at h;subst h;rfl
 | aA e n cs=>simp only [ah] at h;rcases h with ⟨_,_,_,rfl,_⟩ | ⟨_,rfl,_,_⟩<;>rfl
 | bD _ _ _ _=>simp [dh] at ho
 | aB i k n=>simp only [ah] at h;obtain ⟨_,_,_,rfl,_⟩:=h;rfl
 | iS=>simp only [ah] at h;subst h;rfl
 | j0=>simp only [ah] at h;subst h;rfl
 | map i=>simp only [ah] at h;obtain ⟨_,_,rfl⟩:=h;rfl
 | jw ks vs=>simp only [ah] at h;obtain ⟨_,_,_,rfl,_⟩:=h;rfl
 | it i=>simp only [ah] at h;obtain ⟨_,_,rfl⟩:=h;rfl
 | agg cs=>simp [dh] at ho
 | ae cs=>simp [dh] at ho
 | undef=>simp [dh] at ho
def LM {af:Nat->Nat}:∀{vs:List AV} {us:List yg},az af m S w vs us->cy vs=true->∀u∈us,u.oneCell'=true
 | [],us,h,_,u,hu=>by simp only [az] at h;subst h;cases hu
 | v::r,us,h,ho,u,hu=>by
  obtain ⟨u',t,rfl,h1,h2⟩:=h;simp only [cy,ye] at ho;rcases List.mem_cons.1 hu with rfl | hu
  ·exact aqV h1 ho.1
  ·exact LM h2 ho.2 u hu
def acx {arr:Array yg} {t:yC} {p:Pl} {cs new:List AV} {vs:List yg} {o:Nat} {S':Nat->Prop} {m':Mp} (hb:w.heap[p.b]? =some (.cells arr t (0,0))) (hr:bT O.af m S w cs p.b p.o)
  (hv:az O.af m S w new vs) (hl:o+new.length<=cs.length) (hs:p.o+cs.length<=arr.size) {w':yi} (hm:de m m') (hS:∀b,S b->S' b) (aR:fA S w w')
  (hw:w'.heap[p.b]? =some (.cells (arr.toList.take (p.o+o)++vs++arr.toList.drop (p.o+o+vs.length)).toArray t (0,0))):bT O.af m' S' w' (over o new cs) p.b p.o:=by
 obtain ⟨us,h1,h2,h3⟩:=rh cs p.b p.o hr;have hvl:=gC _ _ hv;have h4:az O.af m S w (over o new cs) (us.take o++vs++us.drop (o+new.length)):=lj (lj (D4 o h1) hv) (HK _ h1);refine D8 _ _ _ (gB hm hS aR _ _ h4) (fun j u hj=>?_);have zt:∀k u,us[k]? =some u->arr[p.o+k]? =some u:=by
  intro k u hk
  have:=h3 k u hk
  simpa [World.cell?,hb] using this
 simp only [World.cell?,hw,yaa,yN,xf];rw [tV];have e1:(arr.toList.take (p.o+o)).length=p.o+o:=by rw [yI,vB];omega
 have e2:(us.take o).length=o:=by rw [yI];omega
 by_cases c1:j<o
 ·have g1:(us.take o++vs++us.drop (o+new.length))[j]? =us[j]? :=by
   rw [xq,wg (by omega),uk c1]
  rw [g1] at hj;rw [xq,wg (by omega),uk (by omega)];simpa using zt j u hj
 ·by_cases c2:j<o+vs.length
  ·have g1:(us.take o++vs++us.drop (o+new.length))[j]? =vs[j-o]? :=by
    rw [xq,xK (by omega),e2,wg (by omega)]
   rw [g1] at hj;rw [xq,xK (by omega),e1,wg (by omega),show p.o+j-(p.o+o)=j-o by omega];exact hj
  ·have g1:(us.take o++vs++us.drop (o+new.length))[j]? =us[j]? :=by
    rw [xq,xK (by omega),e2,xK (by omega),yan]
    congr 1
    omega
   rw [g1] at hj;rw [xq,xK (by omega),e1,xK (by omega),yan,show p.o+o+vs.length+(p.o+j-(p.o+o)-vs.length)=p.o+j by omega];simpa using zt j u hj
def L7 {o:Nat} {new cs:List AV} (hl:o+new.length<=cs.length):(over o new cs).length=cs.length:=by
 simp only [over,yL,yI,xP];omega
def aaR {o:Nat} {new cs:List AV} (h:aG cs=true) (h':aG new=true):aG (over o new cs)=true:=
 Cd (Cd (As _ h) h') (sO _ _ h)
def asZ {o:yX} {t:yC} {x y:xp} {sz:Nat} {v:AV} {ap:Hp} {a7:Nat} (hH:fc O H) (ht:b9 O m S w tm a.tmps) (hh:aU O m S w hp ct)
  (ho:o.op= .store t x y) (hz:cE O.P t=some sz) (hv:cJ tm hp ct (.st sz (aK H x) (aK H y))=some (v,ap,a7)):zq O m S w a hp ct o v ap a7:=by
 simp only [cJ] at hv;have rx:=cz hH ht x;cases hx:aD tm (aK H x)<;>rw [hx] at hv rx<;>simp only [reduceCtorEq] at hv
 rename_i id k;simp only [ah] at rx;obtain ⟨p,hm,ex⟩:=rx
 split at hv
 case h_2=>cases hv
 rename_i pu Pm z cs hg
 cases hc:(yu (cellsOf (aD tm (aK H y))).length sz&&yE (k+sz) cs.length&&cy (cellsOf (aD tm (aK H y)))) with
 | false=>rw [hc] at hv;cases hv
 | true=>
  rw [hc] at hv;simp only [yA,yd,yk] at hv;obtain ⟨rfl,rfl,rfl⟩:=hv;simp only [ye] at hc;have c1:=yj hc.1.1;have c2:=yv hc.1.2;have ry:=QG (cz hH ht y) hc.2;have hl:=gC _ _ ry;obtain ⟨p',arr,t',g1,g2,g3,g4,g5,g6,g7,g8,g9,g10⟩:=hh.obj id _ _ hg hm;rw [hm] at g1;injection g1 with g1
  subst g1;have er:=LM ry hc.2;have fo:=run_storeCells_at O.P p.b (p.o+k) t' (a.eval y).cells.toList 0 arr w g2 (by rw [hl];omega) er;simp only [y8] at fo;have azc:(a.eval y).cells.size=sz:=by simp_all
  have om:eW O m S (w.setRow p.b (arr.toList.take (p.o+k)++(a.eval y).cells.toList++arr.toList.drop (p.o+k+(a.eval y).cells.toList.length)).toArray) id
    (.cells true (pu&&aG (cellsOf (aD tm (aK H y)))) Pm z (over k (cellsOf (aD tm (aK H y))) cs)):=by
   refine ⟨p,_,t',hm,setRow_heap w p.b arr _ t' _ g2,g3,by rw [L7 (by omega)];exact g4,?_,fun h=>by rw [L7 (by omega)];exact g6 h,?_,?_,fun _=>g9 rfl,by simp⟩
   ·grind
   ·exact acx g2 g7 ry (by omega) (by omega) de.refl (fun _ h=>h) (fun b hb=>setRow_other w p.b b _ (fun e=>g9 rfl (e▸hb))) (setRow_heap w p.b arr _ t' _ g2)
   ·intro h;simp only [ye] at h;exact aaR (g8 h.1) h.2
  obtain ⟨e1,e2⟩:=HS hh hg hm (g9 rfl) (Qs w p.b _) om (fun r hr=>by rw [g2] at hr;cases hr);refine ⟨.skip,undef,_,m,S,?_,.inr ⟨rfl,rfl⟩,e1,by simp [ah,az,undef],de.refl,e2⟩;simp only [execOp,ho,Instr.storeAt,ex,Instr.sureAddr,Sem.run_bind,Sem.run_pure,Result.andThen_ok,storeVar,nG hz,azc,ne_eq,ybP,xf];simp [fo]
def aaS {d:vJ} {k k':yg} (h:Instr.sameNow d k k'=some true):k=k':=by
 unfold Instr.sameNow at h
 split at h
 ·grind
 ·rename_i p q;simp only [yd] at h;have h2:(p.data==q.data)=true:=by cases p;exact h
  cases p;cases q
  grind
 ·grind
 ·cases h
def sameBits_self {d:vJ} {k k':yg} (h:Instr.sameNow d k k'=some true) (n:Nat):Instr.sameBits n k' k=true:=by
 have e:=aaS h;subst e;unfold Instr.sameNow at h
 split at h
 ·simp [Instr.sameBits]
 ·simp only [yd] at h;simp [Instr.sameBits,h]
 ·simp [Instr.sameBits]
 ·cases h
def Put (af:Nat->Nat) (m:Mp) (S:Nat->Prop) (w:yi) (d:vJ) (k x:yg) (es:List uO) (i:Nat) (j8 dZ:List AV):Prop:=
 (Instr.findNow d k es i=some none/\az af m S w j8 (es.map (·.key)++[k])/\az af m S w dZ (es.map (·.val)++[x]))\/
 ∃(j:Nat) (e0:uO),Instr.findNow d k es i=some (some (i+j,e0.val))/\es[j]? =some e0/\Instr.sameNow d k e0.key=some true/\az af m S w j8 (es.map (·.key))/\az af m S w dZ ((es.map (·.val)).set j x)
def adI {af:Nat->Nat} {vk vx:AV} {k x:yg} {d:vJ} (hk:ah af m S w vk k) (hx:ah af m S w vx x) (hd:fits d vk=true):∀(ks vs:List AV) (es:List uO) (i:Nat) (j8 dZ:List AV),
  az af m S w ks (es.map (·.key))->az af m S w vs (es.map (·.val))->Be vk vx ks vs=some (j8,dZ)->Put af m S w d k x es i j8 dZ
 | [],[],es,i,j8,dZ,h1,h2,h=>by
  simp only [az,List.map_eq_nil_iff] at h1;subst h1;obtain ⟨rfl,rfl⟩:=h;exact .inl ⟨rfl,by simp [az,hk],by simp [az,hx]⟩
 | [],_::_,es,i,j8,dZ,h1,h2,h=>by simp [Be] at h
 | _::_,[],es,i,j8,dZ,h1,h2,h=>by simp [Be] at h
 | c::ks,v::vs,es,i,j8,dZ,h1,h2,h=>by
  cases es with
  | nil=>simp [az] at h1
  | cons e es=>
   obtain ⟨u,t,⟨rfl,rfl⟩,hc,Pk⟩:=h1;obtain ⟨u',t',⟨rfl,rfl⟩,hv,z8⟩:=h2;simp only [Be] at h
   cases mK:EQ vk c with
   | none=>simp [mK] at h
   | some b=>
    have hs:=acu (d:=d) hk hc mK hd
    cases b with
    | true=>
     simp only [mK,yd,yk] at h;obtain ⟨rfl,rfl⟩:=h;refine .inr ⟨0,e,by simp [Instr.findNow,hs],rfl,hs,?_,?_⟩
     ·simp only [xc,az];exact ⟨_,_,rfl,hc,Pk⟩
     ·simp only [xc,List.set_cons_zero,az];exact ⟨_,_,rfl,hx,z8⟩
    | false=>
     simp only [mK] at h
     cases hm:Be vk vx ks vs with
     | none=>simp [hm] at h
     | some q=>
      obtain ⟨k1,v1⟩:=q;simp only [hm,yd,yk] at h;obtain ⟨rfl,rfl⟩:=h;rcases adI hk hx hd ks vs es (i+1) k1 v1 Pk z8 hm with ⟨g1,g2,g3⟩ | ⟨j,e0,g1,g2,g3,g4,g5⟩
      ·refine .inl ⟨by simp [Instr.findNow,hs,g1],?_,?_⟩
       ·simp only [xc,xm,az];exact ⟨_,_,rfl,hc,g2⟩
       ·simp only [xc,xm,az];exact ⟨_,_,rfl,hv,g3⟩
      ·refine .inr ⟨j+1,e0,?_,by simpa using g2,g3,?_,?_⟩
       ·simp only [Instr.findNow,hs,g1]
        grind
       ·simp only [xc,az];exact ⟨_,_,rfl,hc,g4⟩
       ·simp only [xc,List.set_cons_succ,az];exact ⟨_,_,rfl,hv,g5⟩
def D0 (w:yi) (g:Nat) (o:tp):One w {w with heap:=w.heap.setIfInBounds g o} g:=
 ⟨rfl,rfl,rfl,by simp,fun b hb=>by simp [Array.getElem?_setIfInBounds_ne (fun e=>hb e.symm)]⟩
def Lu {g:Nat} {o q:tp} (h:w.heap[g]? =some q):({w with heap:=w.heap.setIfInBounds g o}:yi).heap[g]? =some o:=by grind
def acy {o:yX} {t kt e:yC} {x k y:xp} {kk:Nat} {v:AV} {ap:Hp} {a7:Nat} (hH:fc O H) (ht:b9 O m S w tm a.tmps) (hh:aU O m S w hp ct)
  (ho:o.op= .mapUpdate t x k y\/o.op= .insert t x k y) (hu:O.P.underlying t=some (.map kt e)) (qP:VE.keyOf O.P kt=some kk) (hv:cJ tm hp ct (.pK kk (aK H x) (aK H k) (aK H y))=some (v,ap,a7)):zq O m S w a hp ct o v ap a7:=by
 simp only [cJ] at hv;have rx:=cz hH ht x;cases hx:aD tm (aK H x)<;>rw [hx] at hv rx<;>simp only [reduceCtorEq] at hv
 rename_i id;simp only [ah] at rx;obtain ⟨p,hm,ex⟩:=rx
 split at hv
 case h_2=>cases hv
 rename_i ks vs hg
 cases hc:sZ kk (aD tm (aK H k)) with
 | false=>simp [hc] at hv
 | true=>
  simp only [hc,Bool.not_true,yS] at hv
  cases bj:Be (aD tm (aK H k)) (aD tm (aK H y)) ks vs with
  | none=>simp [bj] at hv
  | some q=>
   obtain ⟨j8,dZ⟩:=q;simp only [bj,yd,yk] at hv;obtain ⟨rfl,rfl,rfl⟩:=hv;obtain ⟨d,jb,fq,YE⟩:=aaO qP hc;obtain ⟨p',es,clock,g1,g2,g3,g4,g5,g6⟩:=hh.obj id _ _ hg hm;rw [hm] at g1;injection g1 with g1
   subst g1;have aAH:=adI (d:=d) (cz hH ht k) (cz hH ht y) YE ks vs es.toList 0 j8 dZ g3 g4 bj
   have fin:∀(Dq:Array uO) (c':Nat),(Instr.mapUpdate t (a.eval x) (a.eval k) (a.eval y)).run O.P w= .ok () {w with heap:=w.heap.setIfInBounds p.b (.map Dq c')}->
     az O.af m S w j8 (Dq.toList.map (·.key))->az O.af m S w dZ (Dq.toList.map (·.val))->zq O m S w a hp ct o (.ae []) (bc hp id (.mp true j8 dZ)) ct:=by
    intro Dq c' fo h1 h2
    have aR:fA S w {w with heap:=w.heap.setIfInBounds p.b (.map Dq c')}:=fun b hb=>(D0 w p.b _).other b (fun e=>g5 rfl (e▸hb))
    have om:eW O m S {w with heap:=w.heap.setIfInBounds p.b (.map Dq c')} id (.mp true j8 dZ):=
     ⟨p,Dq,c',hm,Lu g2,gB (fun _ _ h=>h) (fun _ h=>h) aR _ _ h1,gB (fun _ _ h=>h) (fun _ h=>h) aR _ _ h2,fun _=>g5 rfl,by simp⟩
    obtain ⟨e1,e2⟩:=HS hh hg hm (g5 rfl) (D0 w p.b _) om (fun r hr=>by rw [g2] at hr;cases hr);refine ⟨.skip,undef,_,m,S,?_,.inr ⟨rfl,rfl⟩,e1,by simp [ah,az,undef],de.refl,e2⟩;rcases ho with ho | ho<;>simp [execOp,ho,fo]
   have nv:=Lm (P:=O.P) (w:=w) jb fq false (a.eval k);rcases aAH with ⟨h1,h2,h3⟩ | ⟨j,e0,h1,h2,h3,h4,h5⟩
   ·refine fin (es.push ⟨a.eval k,a.eval y,clock⟩) (clock+1) ?_ (by simpa using h2) (by simpa using h3);rw [ex];simp [Instr.mapUpdate,run_underlying hu,MapKept.run_getObj_map g2,nv,Instr.findKey,run_underlying jb,h1,MapKept.run_setObj_map _ g2]
   ·have hj:es[j]? =some e0:=by simp_all
    simp only [yf] at h1;have ajj:=aaS h3
    refine fin (es.modify j fun e=>{e with key:=a.eval k,val:=a.eval y}) clock ?_ ?_ ?_
    ·rw [ex];have hsb:Instr.sameBits 10000 (a.eval k) (a.eval k)=true:=by have:=sameBits_self h3 10000;rwa [<-ajj] at this
     simp [Instr.mapUpdate,run_underlying hu,MapKept.run_getObj_map g2,nv,Instr.findKey,run_underlying jb,h1,MapKept.run_setObj_map _ g2,hj,Instr.keyThatStays,hsb,ajj.symm]
    ·have:(es.modify j fun e=>{e with key:=a.eval k,val:=a.eval y}).toList.map (·.key)=es.toList.map (·.key):=by
      apply yav
      grind
     grind
    ·have:(es.modify j fun e=>{e with key:=a.eval k,val:=a.eval y}).toList.map (·.val)=(es.toList.map (·.val)).set j (a.eval y):=by
      apply yav
      grind
     grind
def as3 (t:ByteArray) (i:Nat):(t.get! i).toNat=(t.data.toList.map xb).getD i 0:=by
 have:t.get! i=t.data[i]! :=by cases t;rfl
 rw [this];by_cases h:i<t.data.size
 ·grind
 ·simp only [Array.getElem!_eq_getD,Array.getD_eq_getD_getElem?,List.getD_eq_getElem?_getD,List.getElem?_map,Array.getElem?_toList];rw [Array.getElem?_eq_none (by omega)];rfl
def apa (t:ByteArray) (i:Nat):decodeL (t.data.toList.map xb) i=Utf8.decode t i:=by
 have eG:(t.data.toList.map xb).length=t.size:=by simp
 simp only [decodeL,Utf8.decode,as3,eG]
def aqW {o:yX} {x:xp} {v:AV} {ap:Hp} {a7:Nat} (hH:fc O H) (ht:b9 O m S w tm a.tmps) (hh:aU O m S w hp ct)
  (ho:o.op= .next x true) (hv:cJ tm hp ct (.pM (aK H x))=some (v,ap,a7)):zq O m S w a hp ct o v ap a7:=by
 simp only [cJ] at hv;have rx:=cz hH ht x;cases hx:aD tm (aK H x)<;>rw [hx] at hv rx<;>simp only [reduceCtorEq] at hv
 rename_i id;simp only [ah] at rx;obtain ⟨p,hm,ex⟩:=rx
 split at hv
 case h_2=>cases hv
 rename_i s pos hg;obtain ⟨p',t,g1,g2,g3,g4⟩:=hh.obj id _ _ hg hm;rw [hm] at g1;injection g1 with g1
 subst g1;have aq:(getObj p.b).run O.P w= .ok (.stringIter t pos) w:=by simp [getObj,Sem.run,g2]
 have hlen:s.length=t.size:=by rw [<-g3];simp
 cases hc:yR pos s.length with
 | false=>
  rw [hc] at hv;simp only [yS,yd,yk] at hv;obtain ⟨rfl,rfl,rfl⟩:=hv;have aX:¬pos<t.size:=by
   intro h
   have:yR pos s.length=true:=by simp [yR];omega
   grind
  refine ⟨.value (.tuple #[.bool false]),.tuple #[.bool false],w,m,S,?_,.inl rfl,hh,by simp [ah,az],de.refl,ck.refl⟩;simp [execOp,ho,ex,Instr.next,aq,aX]
 | true=>
  rw [hc] at hv;simp only [yA] at hv;have aX:pos<t.size:=by
   simp_all
  cases hdc:decodeL s pos with | mk c wd=>
  rw [hdc] at hv;simp only [yd,yk] at hv;obtain ⟨rfl,rfl,rfl⟩:=hv;have hd:Utf8.decode t pos=(c,wd):=by rw [<-apa,g3,hdc]
  have om:eW O m S {w with heap:=w.heap.setIfInBounds p.b (.stringIter t (pos+wd))} id (.si s (pos+wd)):=⟨p,t,hm,Lu g2,g3,g4⟩;obtain ⟨e1,e2⟩:=HS hh hg hm g4 (D0 w p.b _) om (fun r hr=>by rw [g2] at hr;cases hr);refine ⟨.value (.tuple #[.bool true,goInt pos,.int .i32 c]),_,_,m,S,?_,.inl rfl,e1,by simp [ah,az,goInt],de.refl,e2⟩
  have bc:(setObj p.b (.stringIter t (pos+wd))).run O.P w= .ok () {w with heap:=w.heap.setIfInBounds p.b (.stringIter t (pos+wd))}:=by simp [setObj,Sem.run,g2]
  simp [execOp,ho,ex,Instr.next,aq,aX,hd,bc]
end
end
section
open Go
def HL {hp:Hp} {id i:Nat}:aq (dP hp id) i=if id=i then none else aq hp i:=by
 induction hp with
 | nil=>simp [dP,aq]
 | cons x r ih=>
  obtain ⟨j,q⟩:=x;simp only [dP];by_cases hj:j=id
  ·subst hj;simp only [wV,yA,ih,aq];by_cases hi:j=i
   ·grind
   ·have:yu j i=false:=by
     cases hq:yu j i with
     | false=>rfl
     | true=>exact absurd (yj hq) hi
    grind
  ·have hb:yu j id=false:=by
    cases hq:yu j id with
    | false=>rfl
    | true=>exact absurd (yj hq) hj
   simp only [hb,yS];rw [show aq ((j,q)::dP r id) i=bif yu j i then some q else aq (dP r id) i from rfl,ih];by_cases hi:j=i
   ·subst hi
    have:¬id=j:=fun h=>hj h.symm
    simp [wV,this,aq]
   ·have so:yu j i=false:=by
     cases hq:yu j i with
     | false=>rfl
     | true=>exact absurd (yj hq) hi
    simp [so,aq]
section
variable {O:bk} {H:Hint} {m:Mp} {S:Nat->Prop} {w:yi} {tm:Env} {a:Act} {hp:Hp} {ct:Nat}
def Src (P:y5) (w:yi) (size n:Nat) (news:List yg) (x:yg):Prop:=
 (∀w',(Builtin.lenOf x).run P w'= .ok n w')/\news.length=n*size/\
 ∀w',w'.heap=w.heap->∀k,k<=n->(Builtin.firstCells size k x).run P w'= .ok (news.take (k*size)).toArray w'
def D5 {P:y5} {size n c:Nat} {b:Addr} {news:List yg} (hl:news.length=n*size) (hc:∀j u,news[j]? =some u->w.cell? (b.add j)=some u):
  Src P w size n news (.slice (some b) n c):=by
 refine ⟨fun w'=>by simp [Builtin.lenOf],hl,fun w' hw k hk=>?_⟩;have hle:k*size<=news.length:=by rw [hl];exact yV _ hk
 refine run_firstCells_some (P:=P) w' size k b n c (news.take (k*size)) (by rw [yI];omega) (fun j v hv=>?_);rw [List.getElem?_take] at hv
 split at hv
 ·have:=hc j v hv
  simpa [World.cell?,hw] using this
 ·cases hv
def adJ {P:y5} {size:Nat}:Src P w size 0 [] (.slice none 0 0):=
 ⟨fun w'=>by simp [Builtin.lenOf],by simp,fun w' _ k hk=>by simp [Builtin.firstCells]⟩
def aoh (s:ByteArray) (k:Nat):(s.extract 0 k).data.map (fun b=>Value.int .u8 b.toNat)=((s.data.toList.map fun b=>Value.int .u8 (b.toNat:Int)).take k).toArray:=by
 have:(s.extract 0 k).data=s.data.extract 0 k:=by simp
 grind
def as4 {P:y5} {s:ByteArray}:Src P w 1 s.size (s.data.toList.map fun b=>Value.int .u8 (b.toNat:Int)) (.string s):=by
 refine ⟨fun w'=>by simp [Builtin.lenOf],by simp,fun w' _ k hk=>?_⟩;simp only [Builtin.firstCells,Sem.run_pure,Nat.mul_one];rw [aoh]
def aav {af:Nat->Nat}:∀l:List UInt8,az af m S w (Mo (l.map xb)) (l.map fun b=>Value.int .u8 (b.toNat:Int))
 | []=>by simp [Mo,az]
 | b::r=>by
  exact ⟨_,_,rfl,by simp [ah],aav r⟩
def aaT {size n:Nat} {vx:AV} {x:yg} {cs:List AV} (hh:aU O m S w hp ct) (hx:ah O.af m S w vx x) (h:jD hp size vx=some (n,cs)):
  ∃us,az O.af m S w cs us/\Src O.P w size n us x:=by
 cases vx<;>simp only [jD,reduceCtorEq] at h
 case aa=>
  obtain ⟨rfl,rfl⟩:=h;subst hx;exact ⟨[],by simp [az],adJ⟩
 case aA ex n' dF=>
  cases hc:yu dF.length (n'*size) with
  | false=>rw [hc] at h;cases h
  | true=>
   rw [hc] at h;obtain ⟨rfl,rfl⟩:=h;have hl:=yj hc;rcases hx with ⟨b,o,c,rfl,h1,h2,h3,h4,h5⟩ | ⟨ad,rfl,rfl,rfl⟩
   ·obtain ⟨us,g1,g2,g3⟩:=rh _ b o h5;exact ⟨us,g1,D5 (by omega) (fun j u hj=>by rw [nN];exact g3 j u hj)⟩
   ·exact ⟨[],by simp [az],D5 (by simp) (fun j u hj=>by simp at hj)⟩
 case aB id o n'=>
  cases hg:aq hp id with
  | none=>simp [hg] at h
  | some ob=>
   cases ob<;>simp only [hg,reduceCtorEq] at h
   rename_i rw pu ex z dF
   cases hc:yE (o+n'*size) dF.length with
   | false=>rw [hc] at h;cases h
   | true=>
    rw [hc] at h;simp only [yA,yd,yk] at h;obtain ⟨rfl,rfl⟩:=h;have hl:=yv hc;obtain ⟨p,c,hm,rfl,h1,h2⟩:=hx;have hr:=Q2 (o:=0) (n:=0) hh hg hm;have mO:=Av (n'*size) _ _ _ (p8 o _ _ _ hr);obtain ⟨us,g1,g2,g3⟩:=rh _ p.b (p.o+o) mO;refine ⟨us,g1,D5 ?_ (fun j u hj=>by rw [nN];exact g3 j u hj)⟩
    grind
def abC {size n:Nat} {vx:AV} {x:yg} {cs:List AV} (hh:aU O m S w hp ct) (hx:ah O.af m S w vx x) (h:jt hp size vx=some (n,cs)):
  ∃us,az O.af m S w cs us/\Src O.P w size n us x:=by
 cases vx<;>try exact aaT hh hx h
 simp only [jt] at h
 cases hc:yu size 1 with
 | false=>rw [hc] at h;cases h
 | true=>
  rw [hc] at h;obtain ⟨rfl,rfl⟩:=h
  have:=yj hc
  subst this;obtain ⟨t,rfl,rfl⟩:=hx;refine ⟨_,aav _,?_⟩
  have:(List.map xb t.data.toList).length=t.size:=by simp
  rw [this];exact as4
def anw {P:y5} {t u ty e:yC} {i:ybQ} (ht:P.underlying t=some (.slice e)) (hu:(∃e',P.underlying u=some (.slice e'))\/P.underlying u=some .string) (hi:P.info? e=some i)
  {g o iy qF:Nat} {Ky:Array yg} {te:yC} (hg:w.heap[g]? =some (.cells Ky te (0,0))) {x:yg} {n:Nat} {news:List yg} (hs:Src P w i.size n news x) (h1:∀u∈news,u.oneCell'=true)
  (ES:iy+n<=qF) (S9:o+iy*i.size+news.length<=Ky.size):
  (Builtin.append_ #[t,u] ty #[.slice (some ⟨g,o,none⟩) iy qF,x]).run P w=
   .ok (.slice (some ⟨g,o,none⟩) (iy+n) qF) (w.setRow g (Ky.toList.take (o+iy*i.size)++news++Ky.toList.drop (o+iy*i.size+news.length)).toArray):=by
 obtain ⟨ns,Ab,YK⟩:=hs;have hf:=YK w rfl n (yr _);rw [yG (by omega)] at hf;have aR:=run_storeCells_at P g (o+iy*i.size) te news 0 Ky w hg (by omega) h1;rcases hu with ⟨e',hd⟩ | hd<;>
  simp [Builtin.append_,run_underlying ht,run_underlying hd,vL,typeInfo,hi,ns,ES,hf,nN,aR]
def Lp {P:y5} {t u ty e:yC} {i:ybQ} {z:yg} (ht:P.underlying t=some (.slice e)) (hu:(∃e',P.underlying u=some (.slice e'))\/P.underlying u=some .string) (hi:P.info? e=some i) (hz:i.zero=some z)
  {s:yg} {base:Option Addr} {iy qF:Nat} (es:s= .slice base iy qF) {lK:List yg} (ho:Src P w i.size iy lK s) {x:yg} {n:Nat} {news:List yg} (hs:Src P w i.size n news x)
  (hg:qF<iy+n) (h63:iy+n<=1099511627776) (YJ:(iy+n)*i.bytes<=1099511627776):
  (Builtin.append_ #[t,u] ty #[s,x]).run P w=
   .ok (.slice (some ⟨w.heap.size,0,none⟩) (iy+n) (grownCap w (iy+n) qF e))
    (w.drew.alloc (.cells ((lK++news).toArray++Builtin.zeroCells z.cells (grownCap w (iy+n) qF e-(iy+n))) e)):=by
 obtain ⟨ns,Ab,YK⟩:=hs;obtain ⟨ho1,YL,ho3⟩:=ho;have hf:=YK w.drew rfl n (yr _);rw [yG (by omega)] at hf;have hfo:=ho3 w.drew rfl iy (yr _);have hn:¬(iy+n<=qF):=by omega
 have aAI:¬(9223372036854775807<((iy:Int)+(n:Int))):=by omega
 have S9:=growslice_fits (need:=iy+n) (old:=qF) (bytes:=i.bytes) hg (by omega);have aAJ:¬(281474976710656<Builtin.nextslicecap (iy+n) qF*i.bytes):=by omega
 subst es;rcases hu with ⟨e',hd⟩ | hd
 all_goals
  simp [Builtin.append_,run_underlying ht,run_underlying hd,vL,typeInfo,zeroValue,hi,hz,ns,hn,aAI,aAJ,Question.forced,hf,hfo,newRow,askRoom,grownCap]
  grind
def QJ {e:yC} {z:yg} {sz need cap:Nat} {cs:List AV} {us:List yg} (hh:aU O m S w hp ct) (hr:az O.af m S w cs us) (hl:us.length=need*sz) (hz:z.cells.size=sz)
  (CT:Bool) (YM:CT=true->aG cs=true) (hc:need<=cap):
  let w':=w.drew.alloc (.cells (us.toArray++Builtin.zeroCells z.cells (cap-need)) e)
  let p:Pl:=⟨w.heap.size,0,cap*sz,sz⟩
  ∀m',de m m'->m' ct=some p->eW O m' S w' ct (.cells true CT false sz cs):=by
 intro w' p m' hm hi;have aR:fA S w w':=fun b hb=>by
  have:=hh.slt b hb
  exact RowKit.Below.heap_alloc w.drew _ b (by simpa using this)
 have iV:w'.heap[w.heap.size]? =some (.cells (us.toArray++Builtin.zeroCells z.cells (cap-need)) e (0,0)):=heap_alloc_new w.drew _;have gP:=gC _ _ hr;refine ⟨p,_,e,hi,iV,rfl,?_,?_,by simp,?_,YM,?_,by simp⟩
 ·show cs.length<=cap*sz
  rw [<-gP,hl];exact yV _ hc
 ·show 0+cap*sz<=_
  rw [Array.size_append,uC,size_zeroCells,hz,hl,<-wL]
  grind
 ·refine LL iV cs us 0 (gB hm (fun _ h=>h) aR _ _ hr) (fun j u hj=>?_)
  grind
 ·intro _ hS
  have:=hh.slt _ hS
  grind
def ani (hh:aU O m S w hp ct) (g:tp):fA S w (w.drew.alloc g):=fun b hb=>by
 have:=hh.slt b hb
 exact RowKit.Below.heap_alloc w.drew _ b (by simpa using this)
def QK (hh:aU O m S w hp ct) {hp0:Hp} {g:tp} {p:Pl} {o:Obj} (Nx:∀i q,aq hp0 i=some q->aq hp i=some q) (hb:p.b=w.heap.size)
  (ho:∀m',de m m'->m' ct=some p->eW O m' S (w.drew.alloc g) ct o):
  aU O (fp m ct p) S (w.drew.alloc g) ((ct,o)::hp0) (ct+1)/\ck m S w hp (fp m ct p) S (w.drew.alloc g) ((ct,o)::hp0) ct:=by
 have hn:m ct=none:=by
  cases h:m ct with
  | none=>rfl
  | some q=>have:=hh.lt _ _ h;omega
 have hle:=jr hn (p:=p);have aR:=ani hh g;have hold:∀b,b<w.heap.size->(w.drew.alloc g).heap[b]? =w.heap[b]? :=fun b hb=>RowKit.Below.heap_alloc w.drew _ b (by simpa using hb)
 have eG:(w.drew.alloc g).heap.size=w.heap.size+1:=by simp
 have et:∀i q,aq ((ct,o)::hp0) i=some q->i≠ct->aq hp i=some q:=fun i q h hi=>by
  rw [fy,yB (fun e=>hi e.symm)] at h
  grind
 refine ⟨⟨?_,?_,?_,?_,?_,?_,?_,?_,fun i q hq=>(by
  by_cases hc:i=ct
  ·omega
  ·have:=hh.aX _ _ (et i q hq hc);omega)⟩,⟨rfl,rfl,rfl,by omega,?_,fun _ h=>h,fun b hb=>aR b hb,fun b hb=> .inl hb,?_,fun i q _ h=>hle i q h,fun b r hb=>⟨r,(hold b (xt.1 hb).1).trans hb⟩⟩⟩
 ·intro i q pi hi bP;by_cases hc:i=ct
  ·subst hc;rw [fy] at hi;simp only [xC,yd] at hi;subst hi;exact ho _ hle dN
  ·rw [ed hc] at bP;exact ri hle (fun _ h=>h) aR (fun q' bL=>hold _ (hh.blt i q' bL)) (fun _ _ h=>h) (hh.obj i q pi (et i q hi hc) bP)
 ·intro i q bP;by_cases hc:i=ct
  ·omega
  ·rw [ed hc] at bP;have:=hh.lt i q bP;omega
 ·intro i j oi oj pi pj hi hj bP fU e;by_cases ci:i=ct
  ·by_cases cj:j=ct
   ·grind
   ·subst ci;rw [dN] at bP;rw [ed cj] at fU;injection bP with bP
    subst bP
    have:=hh.blt j pj fU
    omega
  ·rw [ed ci] at bP;by_cases cj:j=ct
   ·subst cj;rw [dN] at fU;injection fU with fU
    subst fU
    have:=hh.blt i pi bP
    omega
   ·rw [ed cj] at fU;exact hh.inj i j oi oj pi pj (et i oi hi ci) (et j oj hj cj) bP fU e
 ·intro b hb;have:=hh.slt b hb;omega
 ·intro i q bP;by_cases hc:i=ct
  ·subst hc;rw [dN] at bP;injection bP with bP
   subst bP;omega
  ·rw [ed hc] at bP;have:=hh.blt i q bP;omega
 ·intro i q bP;have h0:=hh.fF;by_cases hc:i=ct
  ·subst hc;rw [dN] at bP;injection bP with bP
   subst bP;omega
  ·rw [ed hc] at bP;exact hh.low i q bP
 ·intro b hb;have h0:=hh.fF;exact (hold b (by omega)).trans (hh.lJ b hb)
 ·have h0:=hh.fF;omega
 ·intro b hb _;exact hold b hb
 ·rintro b ⟨i,q,pi,h1,h2,h3⟩;by_cases hc:i=ct
  ·subst hc;rw [dN] at h2;injection h2 with h2
   subst h2;exact .inr (by omega)
  ·rw [ed hc] at h2;exact .inl ⟨i,q,pi,et i q h1 hc,h2,h3⟩
def apb (hh:aU O m S w hp ct) {id:Nat} {o o':Obj} {p p':Pl} {w':yi} (hg:aq hp id=some o) (hm:m id=some p) (hn:¬S p.b) (hw:One w w' p.b) (hk:∀r:uN,w.heap[p.b]? =some (.loop r)->∃r':uN,w'.heap[p.b]? =some (.loop r')) (hb:p'.b=p.b)
  (ho:∀m',de m m'->m' ct=some p'->eW O m' S w' ct o'):
  aU O (fp m ct p') S w' ((ct,o')::dP hp id) (ct+1)/\ck m S w hp (fp m ct p') S w' ((ct,o')::dP hp id) ct:=by
 have jd:m ct=none:=by
  cases h:m ct with
  | none=>rfl
  | some q=>have:=hh.lt _ _ h;omega
 have hle:=jr jd (p:=p');have aR:fA S w w':=fun b hb=>hw.other b (fun e=>hn (e▸hb))
 have et:∀i q,aq ((ct,o')::dP hp id) i=some q->i≠ct->aq hp i=some q/\i≠id:=fun i q h hi=>by
  rw [fy,yB (fun e=>hi e.symm),HL] at h
  grind
 have ajk:∀i q pi,aq hp i=some q->i≠id->m i=some pi->pi.b≠p.b:=fun i q pi h hi bP e=>hi (hh.inj i id q o pi p h hg bP hm e)
 refine ⟨⟨?_,?_,?_,?_,?_,?_,?_,?_,fun i q hq=>(by
  by_cases hc:i=ct
  ·omega
  ·have:=hh.aX _ _ (et i q hq hc).1;omega)⟩,⟨hw.os,hw.tape,hw.output,by rw [hw.size];exact yr _,?_,fun _ h=>h,fun b hb=>aR b hb,fun b hb=> .inl hb,?_,fun i q _ h=>hle i q h,fun b r hb=>(by
  by_cases hc:b=p.b
  ·grind
  ·exact ⟨r,(hw.other b hc).trans hb⟩)⟩⟩
 ·intro i q pi hi bP;by_cases hc:i=ct
  ·subst hc;rw [fy] at hi;simp only [xC,yd] at hi;subst hi;exact ho _ hle dN
  ·rw [ed hc] at bP;obtain ⟨h1,h2⟩:=et i q hi hc;exact ri hle (fun _ h=>h) aR (fun q' bL=>hw.other _ (ajk i q q' h1 h2 bL)) (fun _ _ h=>h) (hh.obj i q pi h1 bP)
 ·intro i q bP;by_cases hc:i=ct
  ·omega
  ·rw [ed hc] at bP;have:=hh.lt i q bP;omega
 ·intro i j oi oj pi pj hi hj bP fU e;by_cases ci:i=ct
  ·by_cases cj:j=ct
   ·grind
   ·subst ci;rw [dN] at bP;rw [ed cj] at fU
    grind
  ·rw [ed ci] at bP;obtain ⟨h1,h2⟩:=et i oi hi ci;by_cases cj:j=ct
   ·subst cj;rw [dN] at fU;injection fU with fU
    subst fU;exact (ajk i oi pi h1 h2 bP (by rw [e,hb])).elim
   ·rw [ed cj] at fU;exact hh.inj i j oi oj pi pj h1 (et j oj hj cj).1 bP fU e
 ·intro b hb;rw [hw.size];exact hh.slt b hb
 ·intro i q bP;rw [hw.size];by_cases hc:i=ct
  ·subst hc;rw [dN] at bP;injection bP with bP
   subst bP;rw [hb];exact hh.blt id p hm
  ·rw [ed hc] at bP;exact hh.blt i q bP
 ·intro i q bP;by_cases hc:i=ct
  ·subst hc;rw [dN] at bP;injection bP with bP
   subst bP;rw [hb];exact hh.low id p hm
  ·rw [ed hc] at bP;exact hh.low i q bP
 ·intro b hb
  rw [hw.other b (fun e=>by have:=hh.low id p hm;omega)];exact hh.lJ b hb
 ·rw [hw.size];exact hh.fF
 ·intro b _ cw;exact hw.other b (fun e=>cw (e▸Io hg hm))
 ·rintro b ⟨i,q,pi,h1,h2,h3⟩;by_cases hc:i=ct
  ·subst hc;rw [dN] at h2;injection h2 with h2
   subst h2;exact .inl ⟨id,o,p,hg,hm,by rw [<-h3,hb]⟩
  ·rw [ed hc] at h2;exact .inl ⟨i,q,pi,(et i q h1 hc).1,h2,h3⟩
def adK {P:y5} {e:yC} {s by':Nat} {z:AV} (hs:cE P e=some s) (hb:se P e=some by') (hz:lH P e=some z):
  ∃ti zv,P.info? e=some ti/\ti.size=s/\ti.bytes=by'/\ti.zero=some zv/\z=eB zv:=by
 unfold cE at hs;unfold se at hb;unfold lH at hz
 cases hi:P.info? e with
 | none=>simp [hi] at hs
 | some ti=>
  simp only [hi,yd] at hs hb hz
  cases eY:ti.zero with
  | none=>simp [eY] at hz
  | some zv=>
   grind
def HT {o:yX} {v:AV} {u:yg} {w':yi} {m':Mp} {S':Nat->Prop} {ap:Hp} {a7:Nat} (h1:(execOp a.eval o).run O.P w= .ok (.value u) w') (h2:aU O m' S' w' ap a7) (h3:ah O.af m' S' w' v u)
  (h4:de m m') (h5:ck m S w hp m' S' w' ap ct):zq O m S w a hp ct o v ap a7:=⟨_,u,w',m',S',h1,.inl rfl,h2,h3,h4,h5⟩
def aqX {o:yX} {b':yC} {t u e:yC} {sz by':Nat} {z:AV} {x y:xp} {v:AV} {ap:Hp} {a7:Nat} (hH:fc O H) (ht:b9 O m S w tm a.tmps) (hh:aU O m S w hp ct)
  (fo:(execOp a.eval o).run O.P w=((do pure (.value (<-Builtin.append_ #[t,u] b' #[a.eval x,a.eval y])):Sem yau)).run O.P w)
  (ss:O.P.underlying t=some (.slice e)) (hu:(∃e',O.P.underlying u=some (.slice e'))\/O.P.underlying u=some .string) (hs:cE O.P e=some sz) (hb:se O.P e=some by') (hz:lH O.P e=some z) (qR:(cellsOf z).length=sz)
  (hv:cJ tm hp ct (.aO sz by' (aK H x) (aK H y))=some (v,ap,a7)):zq O m S w a hp ct o v ap a7:=by
 simp only [cJ] at hv;obtain ⟨ti,zv,nt,rfl,rfl,Kz,rfl⟩:=adK hs hb hz;have aP:∀u' w',(Builtin.append_ #[t,u] b' #[a.eval x,a.eval y]).run O.P w= .ok u' w'->(execOp a.eval o).run O.P w= .ok (.value u') w':=fun u' w' h=>by
  rw [fo,Sem.run_bind,h];rfl
 have rL:m ct=none:=by
  cases h:m ct with
  | none=>rfl
  | some q=>have:=hh.lt _ _ h;omega
 have Dp:zv.cells.size=ti.size:=by
  have:=gC _ _ (Cc (af:=O.af) (m:=m) (S:=S) (w:=w) zv)
  rw [<-qR,<-this];simp
 cases mz:jt hp ti.size (aD tm (aK H y)) with
 | none=>simp [mz] at hv
 | some q=>
  obtain ⟨n,new⟩:=q;simp only [mz] at hv;obtain ⟨news,ij,dK⟩:=abC hh (cz hH ht y) mz;have BK:=gC _ _ ij;have rx:=cz hH ht x
  cases hx:aD tm (aK H x) with
  | aa=>
   rw [hx] at hv rx;simp only at hv;simp only [ah] at rx
   cases h0:yu n 0 with
   | true=>
    rw [h0] at hv;simp only [yA,yd,yk] at hv;obtain ⟨rfl,rfl,rfl⟩:=hv;have BL:=yj h0;subst BL;have SI:news=[]:=yx (by rw [dK.2.1];simp)
    subst SI;have hf:=dK.2.2 w rfl 0 (yr _);have j9:=dK.1 w;refine ⟨.value (.slice none 0 0),.slice none 0 0,w,m,S,?_,.inl rfl,hh,by simp [ah],de.refl,ck.refl⟩;rw [fo,rx];rcases hu with ⟨e',hu⟩ | hu<;>
     simp [Builtin.append_,run_underlying ss,run_underlying hu,vL,typeInfo,nt,j9,hf]
   | false=>
    rw [h0] at hv;simp only [yS] at hv
    cases hc:(yE n room&&(yE (n*ti.bytes) room&&yR 0 ti.size)) with
    | false=>rw [hc] at hv;cases hv
    | true=>
     rw [hc] at hv;simp only [yA,yd,yk] at hv;obtain ⟨rfl,rfl,rfl⟩:=hv;simp only [ye] at hc;have c1:=yv hc.1;have c2:=yv hc.2.1;simp only [room] at c1 c2;have BL:0<n:=by
      rcases xk n with h | h
      ·subst h;simp at h0
      ·exact h
     have hr:=Lp (P:=O.P) (ty:=b') (w:=w) ss hu nt Kz (s:= .slice none 0 0) rfl (adJ (P:=O.P) (size:=ti.size)) dK (by omega) (by omega) (by simpa using c2);simp only [yf,List.nil_append] at hr;have jO:=grownCap_ge w n 0 e;have iV:=QJ (e:=e) (z:=zv) (cap:=grownCap w n 0 e) hh ij (need:=n) (sz:=ti.size) dK.2.1 Dp (aG new) (fun h=>h) jO;obtain ⟨k1,k2⟩:=QK hh (hp0:=hp) (p:=⟨w.heap.size,0,grownCap w n 0 e*ti.size,ti.size⟩) (fun _ _ h=>h) rfl iV;exact HT (aP _ _ (by rw [rx];exact hr)) k1 (by simp only [ah];exact ⟨_,_,dN,rfl,jO,by simp⟩) (jr rL) k2
  | aA ex k cs=>
   rw [hx] at hv rx
   cases ex with
   | false=>simp at hv
   | true=>
    simp only at hv;have rx0:=rx;simp only [ah] at rx;have rx1:∃ad lK,a.eval x= .slice (some ad) k k/\az O.af m S w cs lK/\lK.length=cs.length/\(∀(j:Nat) (u:yg),lK[j]? =some u->w.cell? (ad.add j)=some u)/\aG cs=true:=by
     rcases rx with ⟨bb,oo,c,ex,h1,h2,h3,h4,h5⟩ | ⟨ad,ex,rfl,rfl⟩
     ·have nv:c=k:=h2 (by trivial);subst nv;obtain ⟨lK,g1,g2,g3⟩:=rh cs bb oo h5;exact ⟨_,lK,ex,g1,g2,fun j u hj=>by rw [nN];exact g3 j u hj,h4⟩
     ·exact ⟨ad,[],ex,by simp [az],rfl,fun j u hj=>by simp at hj,rfl⟩
    obtain ⟨ad,lK,ex,g1,g2,g3,h4⟩:=rx1
    cases h0:yu n 0 with
    | true=>
     rw [h0] at hv;simp only [yA,yd,yk] at hv;obtain ⟨rfl,rfl,rfl⟩:=hv;have BL:=yj h0;subst BL;have SI:news=[]:=yx (by rw [dK.2.1];simp)
     subst SI;have hf:=dK.2.2 w rfl 0 (yr _);have j9:=dK.1 w;refine ⟨.value (a.eval x),a.eval x,w,m,S,?_,.inl rfl,hh,rx0,de.refl,ck.refl⟩;rw [fo,ex];rcases hu with ⟨e',hu⟩ | hu<;>
      simp [Builtin.append_,run_underlying ss,run_underlying hu,vL,typeInfo,nt,j9,hf,storeCells]
    | false=>
     rw [h0] at hv;simp only [yS] at hv
     cases hc:(yE (k+n) room&&(yE ((k+n)*ti.bytes) room&&(yu cs.length (k*ti.size)&&yR 0 ti.size))) with
     | false=>rw [hc] at hv;cases hv
     | true=>
      rw [hc] at hv;simp only [yA,yd,yk] at hv;obtain ⟨rfl,rfl,rfl⟩:=hv;simp only [ye] at hc;have c1:=yv hc.1;have c2:=yv hc.2.1;have c3:=yj hc.2.2.1;simp only [room] at c1 c2;have BL:0<n:=by
       rcases xk n with h | h
       ·subst h;simp at h0
       ·exact h
      have KA:Src O.P w ti.size k lK (.slice (some ad) k k):=D5 (by omega) g3;have hr:=Lp (P:=O.P) (ty:=b') (w:=w) ss hu nt Kz rfl KA dK (by omega) c1 c2;have jO:=grownCap_ge w (k+n) k e;have iV:=QJ (e:=e) (z:=zv) (cap:=grownCap w (k+n) k e) hh (lj g1 ij) (need:=k+n) (sz:=ti.size) (by rw [yL,g2,c3,dK.2.1,wL]) Dp (aG cs&&aG new)
       (fun h=>by simp only [ye] at h;exact Cd h.1 h.2) jO
      obtain ⟨k1,k2⟩:=QK hh (hp0:=hp) (p:=⟨w.heap.size,0,grownCap w (k+n) k e*ti.size,ti.size⟩) (fun _ _ h=>h) rfl iV;exact HT (aP _ _ (by rw [ex];exact hr)) k1 (by simp only [ah];exact ⟨_,_,dN,rfl,jO,by simp⟩) (jr rL) k2
  | aB id o0 k=>
   rw [hx] at hv rx;simp only at hv;simp only [ah] at rx;obtain ⟨p,c,hm,ex,h1,h2⟩:=rx
   split at hv
   case h_2=>cases hv
   rename_i pu Pm zz cs hg
   cases hc:(yu zz ti.size&&(yE (k+n) room&&(yE ((k+n)*ti.bytes) room&&(yE (o0+k*ti.size) cs.length&&(yR 0 ti.size&&cy new))))) with
   | false=>rw [hc] at hv;cases hv
   | true=>
    rw [hc] at hv;simp only [yA,yd,yk] at hv;obtain ⟨rfl,rfl,rfl⟩:=hv;simp only [ye] at hc;have c0:=yj hc.1;have c1:=yv hc.2.1;have c2:=yv hc.2.2.1;have c3:=yv hc.2.2.2.1;have c4:=hc.2.2.2.2.2;simp only [room] at c1 c2;obtain ⟨p',arr,t',g1,g2,g3,g4,g5,g6,g7,g8,g9,g10⟩:=hh.obj id _ _ hg hm;rw [hm] at g1;injection g1 with g1
    subst g1;subst c0;rw [g3] at h2;have FZ:bT O.af m S w (slice o0 (k*ti.size) cs) p.b (p.o+o0):=Av _ _ _ _ (p8 _ _ _ _ g7);obtain ⟨lK,f1,f2,f3⟩:=rh _ _ _ FZ;have Ny:(slice o0 (k*ti.size) cs).length=k*ti.size:=by simp only [slice,yI,xP];omega
    have gQ:(pu&&aG new)=true->aG (slice o0 (k*ti.size) cs++new)=true:=fun h=>by
     simp only [ye] at h;exact Cd (As _ (sO _ _ (g8 h.1))) h.2
    by_cases ES:k+n<=c
    ·have er:=LM ij c4;have S9:p.o+o0+k*ti.size+news.length<=arr.size:=by
      rw [dK.2.1]
      have:(k+n)*ti.size<=c*ti.size:=yV _ ES
      rw [wL] at this;omega
     have hr:=anw (P:=O.P) (ty:=b') (w:=w) ss hu nt g2 dK er ES S9;have ho:∀m',de m m'->m' ct=some ⟨p.b,p.o+o0,c*ti.size,ti.size⟩->
       eW O m' S (w.setRow p.b (arr.toList.take (p.o+o0+k*ti.size)++news++arr.toList.drop (p.o+o0+k*ti.size+news.length)).toArray) ct
        (.cells true (pu&&aG new) false ti.size (slice o0 (k*ti.size) cs++new)):=by
      intro m' hle hi;have aR:fA S w (w.setRow p.b (arr.toList.take (p.o+o0+k*ti.size)++news++arr.toList.drop (p.o+o0+k*ti.size+news.length)).toArray):=fun b hb=>setRow_other w p.b b _ (fun e=>g9 rfl (e▸hb))
      refine ⟨_,_,t',hi,setRow_heap w p.b arr _ t' _ g2,rfl,?_,?_,by simp,?_,gQ,fun _=>g9 rfl,by simp⟩
      ·show (slice o0 (k*ti.size) cs++new).length<=c*ti.size
       rw [yL,Ny,<-BK,dK.2.1,<-wL];exact yV _ ES
      ·show p.o+o0+c*ti.size<=_
       rw [uC,yL,yL,yI,xP,vB];omega
      ·refine D8 _ (lK++news) _ (lj (gB hle (fun _ h=>h) aR _ _ f1) (gB hle (fun _ h=>h) aR _ _ ij)) (fun j u hj=>?_);show World.cell? _ ⟨p.b,p.o+o0+j,none⟩=some u
       simp only [World.cell?,setRow_heap w p.b arr _ t' _ g2,yaa,yN,xf];rw [tV];have e1:(arr.toList.take (p.o+o0+k*ti.size)).length=p.o+o0+k*ti.size:=by rw [yI,vB];omega
       by_cases YH:j<k*ti.size
       ·rw [wg (by omega)] at hj;rw [xq,wg (by omega),uk (by omega)]
        have:=f3 j u hj
        simpa [World.cell?,g2] using this
       ·rw [xK (by omega)] at hj;have hjl:=(List.getElem?_eq_some_iff.1 hj).1;rw [xq,xK (by omega),e1,wg (by omega),show p.o+o0+j-(p.o+o0+k*ti.size)=j-lK.length by omega];exact hj
     obtain ⟨k1,k2⟩:=apb (p':=⟨p.b,p.o+o0,c*ti.size,ti.size⟩) hh hg hm (g9 rfl) (Qs w p.b _) (fun r hr=>by rw [g2] at hr;cases hr) rfl ho;exact HT (aP _ _ (by rw [ex];exact hr)) k1 (by simp only [ah];exact ⟨_,c,dN,rfl,ES,by simp⟩) (jr rL) k2
    ·have KA:Src O.P w ti.size k lK (.slice (some ⟨p.b,p.o+o0,none⟩) k c):=D5 (by omega) (fun j u hj=>by rw [nN];exact f3 j u hj)
     have hr:=Lp (P:=O.P) (ty:=b') (w:=w) ss hu nt Kz rfl KA dK (by omega) c1 c2;have jO:=grownCap_ge w (k+n) c e;have iV:=QJ (e:=e) (z:=zv) (cap:=grownCap w (k+n) c e) hh (lj f1 ij) (need:=k+n) (sz:=ti.size) (by rw [yL,f2,Ny,dK.2.1,wL]) Dp (pu&&aG new) gQ jO;obtain ⟨k1,k2⟩:=QK hh (hp0:=dP hp id) (p:=⟨w.heap.size,0,grownCap w (k+n) c e*ti.size,ti.size⟩) (fun i q h=>by
      rw [HL] at h;by_cases hi:id=i
      ·simp [hi] at h
      ·simpa only [hi,xf] using h) rfl iV
     exact HT (aP _ _ (by rw [ex];exact hr)) k1 (by simp only [ah];exact ⟨_,_,dN,rfl,jO,by simp⟩) (jr rL) k2
  | _=>rw [hx] at hv;simp at hv
end
end
section
open Go
section
variable {O:bk} {H:Hint} {m:Mp} {S:Nat->Prop} {w:yi} {tm:Env} {a:Act} {hp:Hp} {ct:Nat}
def anM {n:Nat} {cs:List AV} (h:aG cs=true):aG (cs.take n)=true:=As n h
def aak:∀(n:Nat) {cs:List AV},cy cs=true->cy (cs.take n)=true
 | 0,_,_=>by simp [cy]
 | n+1,[],_=>by simp [cy]
 | n+1,c::cs,h=>by
  simp only [wz,cy,ye] at h ⊢;exact ⟨h.1,aak n h.2⟩
def aqY {o:yX} {b':yC} {t u e:yC} {sz:Nat} {x y:xp} {v:AV} {ap:Hp} {a7:Nat} (hH:fc O H) (ht:b9 O m S w tm a.tmps) (hh:aU O m S w hp ct)
  (fo:(execOp a.eval o).run O.P w=((do pure (.value (<-Builtin.copy_ #[t,u] b' #[a.eval x,a.eval y])):Sem yau)).run O.P w)
  (ss:O.P.underlying t=some (.slice e)) (hs:cE O.P e=some sz)
  (hv:cJ tm hp ct (.mJ sz (aK H x) (aK H y))=some (v,ap,a7)):zq O m S w a hp ct o v ap a7:=by
 simp only [cJ] at hv
 cases mz:jD hp sz (aD tm (aK H y)) with
 | none=>simp [mz] at hv
 | some q=>
  obtain ⟨n,new⟩:=q;simp only [mz] at hv;obtain ⟨news,ij,dK⟩:=aaT hh (cz hH ht y) mz;have BK:=gC _ _ ij;have rx:=cz hH ht x;cases hx:aD tm (aK H x)<;>rw [hx] at hv rx<;>simp only [reduceCtorEq] at hv
  rename_i id o0 k;simp only [ah] at rx;obtain ⟨p,c,hm,ex,h1,h2⟩:=rx
  split at hv
  case h_2=>cases hv
  rename_i pu Pm zz cs hg
  cases hc:(yu zz sz&&(yE (o0+k*sz) cs.length&&cy new)) with
  | false=>rw [hc] at hv;cases hv
  | true=>
   rw [hc] at hv;simp only [yA,yd,yk] at hv;obtain ⟨rfl,rfl,rfl⟩:=hv;simp only [ye] at hc;have c0:=yj hc.1;have c1:=yv hc.2.1;subst c0;obtain ⟨p',arr,t',g1,g2,g3,g4,g5,g6,g7,g8,g9,g10⟩:=hh.obj id _ _ hg hm;rw [hm] at g1;injection g1 with g1
   subst g1;have ajl:min n k*zz<=k*zz:=yV _ (Nat.min_le_right _ _);have aHF:min n k*zz<=n*zz:=yV _ (yaP _ _);have rt:=D4 (min n k*zz) ij;have lV:(news.take (min n k*zz)).length=min n k*zz:=by rw [yI,dK.2.1];omega
   have E2:(new.take (min n k*zz)).length=min n k*zz:=by rw [yI,<-BK,dK.2.1];omega
   have er:=LM rt (aak _ hc.2.2);have hf:=dK.2.2 w rfl (min n k) (yaP _ _);have aR:=run_storeCells_at O.P p.b (p.o+o0) t' (news.take (min n k*zz)) 0 arr w g2 (by rw [lV];omega) er;simp only [y8] at aR;have om:eW O m S (w.setRow p.b (arr.toList.take (p.o+o0)++news.take (min n k*zz)++arr.toList.drop (p.o+o0+(news.take (min n k*zz)).length)).toArray) id
     (.cells true (pu&&aG new) Pm zz (over o0 (new.take (min n k*zz)) cs)):=by
    refine ⟨p,_,t',hm,setRow_heap w p.b arr _ t' _ g2,g3,by rw [L7 (by omega)];exact g4,?_,fun h=>by rw [L7 (by omega)];exact g6 h,?_,?_,fun _=>g9 rfl,by simp⟩
    ·rw [uC,yL,yL,yI,xP,vB,lV];omega
    ·exact acx g2 g7 rt (by omega) (by omega) de.refl (fun _ h=>h) (fun b hb=>setRow_other w p.b b _ (fun e=>g9 rfl (e▸hb))) (setRow_heap w p.b arr _ t' _ g2)
    ·intro h;simp only [ye] at h;exact aaR (g8 h.1) (anM h.2)
   obtain ⟨e1,e2⟩:=HS hh hg hm (g9 rfl) (Qs w p.b _) om (fun r hr=>by rw [g2] at hr;cases hr)
   refine HT (u:=goInt ((min n k:Nat):Int)) (m':=m) (S':=S) ?_ e1 (by simp [ah,goInt]) de.refl e2;rw [fo,ex];simp [Builtin.copy_,run_underlying ss,dK.1 w,nG hs,show Nat.min n k=min n k from rfl,hf,aR]
def as5 {o:yX} {k:Nat} {v:AV} {ap:Hp} {a7:Nat} (hH:fc O H) (ht:b9 O m S w tm a.tmps) (hh:aU O m S w hp ct)
  (hv:cJ tm hp ct (aW O.P H k o)=some (v,ap,a7)):zq O m S w a hp ct o v ap a7:=by
 have hZ:∀{r:AV×Hp×Nat},cJ tm hp ct bad=some r->False:=fun h=>by simp [bad,cJ] at h
 cases ho:o.op with
 | call c=>
  obtain ⟨callee,args,ts⟩:=c;simp only [aW,ho] at hv
  split at hv
  ·cases Kt:H.mode k<;>simp [Kt,cJ] at hv
  ·rename_i _ b
   split at hv
   ·rename_i x y t u fG mL;obtain ⟨al⟩:=args;obtain ⟨tl⟩:=ts;simp only at fG mL;subst fG;subst mL;obtain ⟨cs,fo⟩:=DX (O:=O) (w:=w) (a:=a) ho;have I2:(execOp a.eval o).run O.P w=((do pure (.value (<-Builtin.append_ #[t,u] o.type #[a.eval x,a.eval y])):Sem yau)).run O.P w:=by
     rw [fo];simp [builtin]
    have key:∀{z:AV} {sz by':Nat} {e:yC},O.P.underlying t=some (.slice e)->((∃e',O.P.underlying u=some (.slice e'))\/O.P.underlying u=some .string)->cE O.P e=some sz->se O.P e=some by'->lH O.P e=some z->
      cJ tm hp ct (bif yu (cellsOf z).length sz then .aO sz by' (aK H x) (aK H y) else bad)=some (v,ap,a7)->zq O m S w a hp ct o v ap a7:=by
     intro z sz by' e h1 h2 h3 h4 h5 h
     cases hb:yu (cellsOf z).length sz with
     | false=>rw [hb] at h;exact (hZ h).elim
     | true=>
      rw [hb] at h;exact aqX hH ht hh I2 h1 h2 h3 h4 h5 (yj hb) h
    split at hv
    ·rename_i e e' h1 h2
     split at hv
     ·rename_i sz by' z h3 h4 h5
      exact key h1 (.inl ⟨_,h2⟩) h3 h4 h5 hv
     ·exact (hZ hv).elim
    ·rename_i e h1 h2
     split at hv
     ·rename_i sz by' z h3 h4 h5
      exact key h1 (.inr h2) h3 h4 h5 hv
     ·exact (hZ hv).elim
    ·exact (hZ hv).elim
   ·repeat' split at hv
    all_goals simp [cJ,bad] at hv
   ·rename_i x y t u fG mL;obtain ⟨al⟩:=args;obtain ⟨tl⟩:=ts;simp only at fG mL;subst fG;subst mL;obtain ⟨cs,fo⟩:=DX (O:=O) (w:=w) (a:=a) ho;have I2:(execOp a.eval o).run O.P w=((do pure (.value (<-Builtin.copy_ #[t,u] o.type #[a.eval x,a.eval y])):Sem yau)).run O.P w:=by
     rw [fo];simp [builtin]
    split at hv
    ·rename_i e h1
     split at hv
     ·rename_i sz h3;exact aqY hH ht hh I2 h1 h3 hv
     ·exact (hZ hv).elim
    ·exact (hZ hv).elim
   ·simp [cJ] at hv
   ·simp [cJ] at hv
   ·exact (hZ hv).elim
  ·exact (hZ hv).elim
 | store t x y=>
  simp only [aW,ho] at hv
  split at hv
  ·rename_i s hs;exact asZ hH ht hh ho hs hv
  ·exact (hZ hv).elim
 | mapUpdate t x k y=>
  simp only [aW,ho] at hv
  split at hv
  ·rename_i kt e hu
   split at hv
   ·rename_i kk qP;exact acy hH ht hh (.inl ho) hu qP hv
   ·exact (hZ hv).elim
  ·exact (hZ hv).elim
 | insert t x k y=>
  simp only [aW,ho] at hv
  split at hv
  ·rename_i kt e hu
   split at hv
   ·rename_i kk qP;exact acy hH ht hh (.inr ho) hu qP hv
   ·exact (hZ hv).elim
  ·exact (hZ hv).elim
 | next x b=>
  cases b with
  | false=>simp only [aW,ho] at hv;exact (hZ hv).elim
  | true=>exact aqW hH ht hh ho (by simpa only [aW,ho] using hv)
 | binOp op t x y ty=>
  cases op<;>simp only [aW,ho,nM,oU] at hv
  case eql=>
        repeat' split at hv
        all_goals first
         | (simp [cJ,bad] at hv;done)
         | (cases hb:(O.P.stoodInHeld t||O.P.eqGuardType O.P.depth t)<;>rw [hb] at hv<;>simp [cJ,bad] at hv)
  case neq=>
        repeat' split at hv
        all_goals first
         | (simp [cJ,bad] at hv;done)
         | (cases hb:(O.P.stoodInHeld t||O.P.eqGuardType O.P.depth t)<;>rw [hb] at hv<;>simp [cJ,bad] at hv)
  all_goals simp [cJ] at hv
 | buildSlice t n parts=>
  simp only [aW,ho] at hv
  repeat' split at hv
  all_goals first
   | (simp [cJ,bad] at hv;done)
   | (
     revert hv;generalize yE _ _=bb;intro hv;cases bb<;>simp [cJ,bad] at hv
     try (split at hv<;>simp [cJ,bad] at hv))
 | makeMap t r=>
  cases r<;>simp only [aW,ho] at hv
  ·repeat' split at hv
   all_goals simp [cJ,bad] at hv
  ·exact (hZ hv).elim
 | _=>
  simp only [aW,ho] at hv
  (repeat' split at hv)
  all_goals first
   | contradiction
   | (simp [cJ,bad] at hv;done)
end
end
section
section
variable {hp H:Hp} {tm tm':Env}
def adL (hl:cU hp H) {id:Nat} {rw pu ex:Bool} {sz:Nat} {cs:List AV} (h:aq hp id=some (.cells rw pu ex sz cs)):∃rw',aq H id=some (.cells rw' pu ex sz cs):=by
 obtain ⟨o',h1,rw',rfl,_⟩:=hl id _ h;exact ⟨rw',h1⟩
def adM (hl:cU hp H) {id:Nat} {rw:Bool} {ks vs:List AV} (h:aq hp id=some (.mp rw ks vs)):∃rw',aq H id=some (.mp rw' ks vs):=by
 obtain ⟨o',h1,rw',rfl,_⟩:=hl id _ h;exact ⟨rw',h1⟩
def adN (hl:cU hp H) {sz:Nat} {ag:Bool} {x v:AV} (h:iU hp sz ag x=some v):iU H sz ag x=some v:=by
 cases x<;>simp only [iU,reduceCtorEq] at h ⊢
 ·rename_i id o
  cases hg:aq hp id with
  | none=>simp [hg] at h
  | some ob=>
   cases ob<;>simp only [hg,reduceCtorEq] at h
   obtain ⟨r,h1⟩:=adL hl hg;simp only [h1];exact h
 ·exact h
def aqZ (hl:cU hp H) {k x:AV} {v:Option AV} (h:A2 hp k x=some v):A2 H k x=some v:=by
 cases x<;>simp only [A2,reduceCtorEq] at h ⊢
 ·exact h
 ·rename_i id
  cases hg:aq hp id with
  | none=>simp [hg] at h
  | some ob=>
   cases ob<;>simp only [hg,reduceCtorEq] at h
   obtain ⟨r,h1⟩:=adM hl hg;simp only [h1];exact h
 ·exact h
def aq0 (hl:cU hp H) {k:Nat} {x v:AV} (h:fP hp k x=some v):fP H k x=some v:=by
 unfold fP at h ⊢
 split at h
 all_goals first
  | exact h
  | cases h
  | skip
 rename_i id
 cases hg:aq hp id with
 | none=>simp [hg] at h
 | some ob=>
  cases ob<;>simp only [hg,reduceCtorEq] at h
  obtain ⟨r,h1⟩:=adM hl hg;simp only [h1];exact h
def aq1 (hl:cU hp H) {k:Cut} {x v:AV} {lo hi:Option X} (h:eV hp k x tm lo hi=some v):eV H k x tm lo hi=some v:=by
 unfold eV at h ⊢
 split at h
 all_goals first
  | exact h
  | cases h
  | skip
 rename_i sz id o n
 cases hg:aq hp id with
 | none=>simp [hg] at h
 | some ob=>
  cases ob<;>simp only [hg,reduceCtorEq] at h
  obtain ⟨r,h1⟩:=adL hl hg;simp only [h1];exact h
def apc (hl:cU hp H) {o:Op} {v:AV} (h:bw tm hp o=some v):bw tm H o=some v:=by
 cases o<;>simp only [bw,reduceCtorEq] at h ⊢<;>first
  | exact h
  | exact adN hl h
  | exact aq0 hl h
  | exact aq1 hl h
  | skip
 rename_i kk zero ok m k
 cases hk:sZ kk (aD tm k) with
 | false=>rw [hk] at h;cases h
 | true=>
  rw [hk] at h;simp only [yA] at h ⊢
  cases hr:A2 hp (aD tm k) (aD tm m) with
  | none=>simp [hr] at h
  | some r=>rw [aqZ hl hr];simpa only [hr] using h
def ape {o:Op} (hk:bA o=0) (hp H:Hp):bw tm hp o=bw tm H o:=by
 cases o with
 | dS k x lo hi=>
  cases k with
  | str=>simp only [bw,eV];cases aD tm x<;>rfl
  | sl sz=>simp [bA] at hk
  | ar n sz=>simp [bA] at hk
 | len k x=>
  match k,hk with
  | 0,_=>simp only [bw];unfold fP;split<;>simp_all
  | 1,_=>simp only [bw];unfold fP;split<;>simp_all
  | k+2,hk=>simp [bA] at hk
 | call md f xs=>cases md<;>simp [bA] at hk
 | _=>first
  | rfl
  | simp [bA] at hk
end
section
variable {tm tm':Env}
def dG {x:X} (h:∀t,t∈iO x->ai tm' t=ai tm t):aD tm' x=aD tm x:=by
 cases x with
 | t i=>exact h i (by simp [iO])
 | c v=>rfl
def Cg:∀{xs:List X},(∀t,t∈zh xs->ai tm' t=ai tm t)->dw tm' xs=dw tm xs
 | [],_=>rfl
 | x::r,h=>by
  simp only [dw]
  rw [dG (x:=x) (fun t ht=>h t (by simp [zh,ht])),Cg (fun t ht=>h t (by simp [zh,ht]))]
def QM:∀{ps:List (Nat×Nat×X)} {z:List AV},(∀t,t∈IY ps->ai tm' t=ai tm t)->fill tm' z ps=fill tm z ps
 | [],_,_=>rfl
 | (o,s,x)::r,z,h=>by
  simp only [fill]
  rw [dG (x:=x) (fun t ht=>h t (by simp [IY,ht]))]
  rw [QM (ps:=r) (fun t ht=>h t (by simp [IY,ht]))]
def aaU {d:Nat} {x:Option X} (h:∀t,t∈IX x->ai tm' t=ai tm t):cY tm' d x=cY tm d x:=by
 cases x with
 | none=>rfl
 | some x=>simp only [cY];rw [dG h]
def aoi {hp:Hp} {k:Cut} {x:AV} {lo hi:Option X} (h1:∀t,t∈IX lo->ai tm' t=ai tm t) (h2:∀t,t∈IX hi->ai tm' t=ai tm t):
  eV hp k x tm' lo hi=eV hp k x tm lo hi:=by
 unfold eV;simp only [aaU h1,aaU h2]
def anN {hp:Hp} {o:Op} (h:∀t,t∈jW o->ai tm' t=ai tm t):bw tm' hp o=bw tm hp o:=by
 cases o<;>simp only [jW,wj] at h<;>simp only [bw]
 case pick c a b=>rw [dG (x:=c) fun t ht=>h t (.inl ht),dG (x:=a) fun t ht=>h t (.inr (.inl ht)),dG (x:=b) fun t ht=>h t (.inr (.inr ht))]
 case fO z ps=>rw [QM h]
 case Dl f a b=>rw [Cg (xs:=a) fun t ht=>h t (.inl ht),Cg (xs:=b) fun t ht=>h t (.inr ht)]
 case dS k x lo hi=>rw [dG (x:=x) fun t ht=>h t (.inl ht),aoi (fun t ht=>h t (.inr (.inl ht))) (fun t ht=>h t (.inr (.inr ht)))]
 case mn xs=>rw [Cg h]
 case mx xs=>rw [Cg h]
 case bin op x y=>rw [dG (x:=x) fun t ht=>h t (.inl ht),dG (x:=y) fun t ht=>h t (.inr ht)]
 case eq n k x y=>rw [dG (x:=x) fun t ht=>h t (.inl ht),dG (x:=y) fun t ht=>h t (.inr ht)]
 case aQ s x y=>rw [dG (x:=x) fun t ht=>h t (.inl ht),dG (x:=y) fun t ht=>h t (.inr ht)]
 case FQ l s x y=>rw [dG (x:=x) fun t ht=>h t (.inl ht),dG (x:=y) fun t ht=>h t (.inr ht)]
 case kT x y=>rw [dG (x:=x) fun t ht=>h t (.inl ht),dG (x:=y) fun t ht=>h t (.inr ht)]
 case FR l s g x y=>rw [dG (x:=x) fun t ht=>h t (.inl ht),dG (x:=y) fun t ht=>h t (.inr ht)]
 case Pg kk z ok x y=>rw [dG (x:=x) fun t ht=>h t (.inl ht),dG (x:=y) fun t ht=>h t (.inr ht)]
 all_goals first
  | rfl
  | (rename_i x;rw [dG (x:=x) h])
def Hv {hp ap:Hp} {ct:Nat} {o:Op} (h:∀t,t∈jW o->ai tm' t=ai tm t):cP tm' ap ct o=cP tm hp ct o:=by
 cases o<;>simp only [jW,wj] at h<;>simp only [cP]
 case box s x=>rw [dG (x:=x) h]
 case cZ n s z ps=>rw [QM h]
 case gj s b z x y=>rw [dG (x:=x) fun t ht=>h t (.inl ht),dG (x:=y) fun t ht=>h t (.inr ht)]
 case pL x=>rw [dG (x:=x) h]
def Ce {hp:Hp} {ct:Nat} {o:Op} (h:∀t,t∈jW o->ai tm' t=ai tm t):cJ tm' hp ct o=cJ tm hp ct o:=by
 cases o<;>simp only [jW,wj] at h<;>simp only [cJ]
 case st s x y=>rw [dG (x:=x) fun t ht=>h t (.inl ht),dG (x:=y) fun t ht=>h t (.inr ht)]
 case pK kk c a b=>rw [dG (x:=c) fun t ht=>h t (.inl ht),dG (x:=a) fun t ht=>h t (.inr (.inl ht)),dG (x:=b) fun t ht=>h t (.inr (.inr ht))]
 case pM x=>rw [dG (x:=x) h]
 case aO s b x y=>rw [dG (x:=x) fun t ht=>h t (.inl ht),dG (x:=y) fun t ht=>h t (.inr ht)]
 case mJ s x y=>rw [dG (x:=x) fun t ht=>h t (.inl ht),dG (x:=y) fun t ht=>h t (.inr ht)]
end
end
section
open Go
structure Calm (w w':yi):Prop where
 os:w'.os=w.os
 tape:w'.tape=w.tape
 output:w'.output=w.output
 size:w.heap.size<=w'.heap.size
 same:∀b,b<w.heap.size->w'.heap[b]? =w.heap[b]?
def Calm.refl {w:yi}:Calm w w:=⟨rfl,rfl,rfl,yr _,fun _ _=>rfl⟩
def A3 (O:bk) (w:yi):Prop:=(∀b,b<O.w0.heap.size->w.heap[b]? =O.w0.heap[b]?)/\O.w0.heap.size<=w.heap.size
def eM:Mp:=fun _=>none
def ia (af:Nat->Nat) (S:Nat->Prop) (w:yi) (lo:Nat):AV->yg->List Nat->Prop
 | .bD ex sz n cs,u,bs=>∃b o c arr t,bs=[b]/\u= .slice (some ⟨b,o,none⟩) n c/\n<=c/\(ex=true->c=n)/\lo<=b/\¬S b/\w.heap[b]? =some (.cells arr t (0,0))/\cs.length=n*sz/\
   o+c*sz<=arr.size/\bT af eM S w cs b o/\aG cs=true
 | r,u,bs=>bs=[]/\ah af eM S w r u/\a6 r=true
def kO (af:Nat->Nat) (S:Nat->Prop) (w:yi) (lo:Nat):List AV->List yg->List Nat->Prop
 | [],us,bs=>us=[]/\bs=[]
 | v::r,us,bs=>∃u t b1 b2,us=u::t/\bs=b1++b2/\ia af S w lo v u b1/\kO af S w lo r t b2
def nj (af:Nat->Nat) (S:Nat->Prop) (w:yi) (lo:Nat) (r:AV) (u:yg):Prop:=
 match r with
 | .ae vs=>∃(us:Array yg) (bs:List Nat),u= .tuple us/\kO af S w lo vs us.toList bs/\bs.Nodup
 | r=>∃bs,ia af S w lo r u bs
def AL (P:y5) (f:FuncId) (args:Array yg) (w:yi) (R:yaQ->yi->Prop):Prop:=
 ((callFunc f args).run P w= .ok (.enter f args) w/\CallsIn Fence.wide 0 P f args w R)\/∃u w',(callFunc f args).run P w= .ok (.value u) w'/\R (.returned u) w'
def acz (O:bk) (w:yi) (S:Nat->Prop) (r:AV) (e:yaQ) (w':yi):Prop:=
 ∃u S',e= .returned u/\Calm w w'/\(∀b,S b->S' b)/\(∀b,S' b->S b\/w.heap.size<=b)/\(∀b,S' b->b<w'.heap.size)/\nj O.af S' w' w.heap.size r u
def ep (O:bk) (n:Nat) (av:List AV) (r:AV):Prop:=
 ∀(w:yi) (S:Nat->Prop) (args:Array yg),A3 O w->(∀b,S b->b<w.heap.size)->az O.af eM S w av args.toList->aG av=true->
  AL O.P (O.af n) args w (acz O w S r)
def sU (O:bk) (m:Mp) (S:Nat->Prop) (w:yi) (hp:Hp) (ct:Nat) (v:AV) (ap:Hp) (a7:Nat) (e:yaQ) (w':yi):Prop:=
 ∃u m' S',e= .returned u/\aU O m' S' w' ap a7/\ct<=a7/\ah O.af m' S' w' v u/\ck m S w hp m' S' w' ap ct
def A4 (O:bk) (n:Nat) (hp:Hp) (ct:Nat) (av:List AV) (v:AV) (ap:Hp) (a7:Nat):Prop:=
 ∀(m:Mp) (S:Nat->Prop) (w:yi) (args:Array yg),aU O m S w hp ct->az O.af m S w av args.toList->AL O.P (O.af n) args w (sU O m S w hp ct v ap a7)
section
variable {af:Nat->Nat} {m m':Mp} {S S':Nat->Prop} {w w':yi}
mutual
def qg (hS:∀b,S b->S' b) (hw:fA S w w'):∀(v:AV) (u:yg),a6 v=true->ah af m S w v u->ah af m' S' w' v u
 | .int _ _,_,_,h | .bool _,_,_,h | .bS _ _,_,_,h | .str _,_,_,h | .kN,_,_,h | .aa,_,_,h | .iS,_,_,h | .j0,_,_,h | .undef,_,_,h=>by
  simpa only [ah] using h
 | .ptr id o,u,hp,h=>by simp [a6] at hp
 | .b5 cs,u,hp,h=>by
  simp only [ah] at h ⊢;obtain ⟨b,o,h1,h2,h3,h4⟩:=h;refine ⟨b,o,h1,h2.imp id (hS b),h3,?_⟩;rcases h2 with rfl | h2
  ·simp only [bT]
  ·exact Qt hS hw cs b o h3 h2 h4
 | .aA ex n cs,u,hp,h=>by
  simp only [ah] at h ⊢;rcases h with ⟨b,o,c,h1,h2,h3,h4,h5,h6⟩ | h
  ·refine .inl ⟨b,o,c,h1,h2,h3,h4.imp id (hS b),h5,?_⟩;rcases h4 with rfl | h4
   ·simp only [bT]
   ·exact Qt hS hw cs b o h5 h4 h6
  ·exact .inr h
 | .bD _ _ _ _,u,hp,h=>by simp [a6] at hp
 | .aB id o n,u,hp,h=>by simp [a6] at hp
 | .fn (.f g) first cap,u,hp,h=>by
  simp only [ah] at h ⊢;simp only [a6,ye] at hp;obtain ⟨fi,ca,h1,h2,h3⟩:=h;exact ⟨fi,ca,h1,sQ hS hw first _ hp.1 h2,sQ hS hw cap _ hp.2 h3⟩
 | .fn (.y l) _ _,u,hp,h=>by simp [a6] at hp
 | .map id,u,hp,h=>by simp [a6] at hp
 | .jw ks vs,u,hp,h=>by
  simp only [ah] at h ⊢;obtain ⟨b,es,clock,h1,h2,h3,h4,h5,h6,h7⟩:=h;exact ⟨b,es,clock,h1,hS b h2,h3,h4,(hw b h2).trans h5,sQ hS hw ks _ h3 h6,sQ hS hw vs _ h4 h7⟩
 | .it id,u,hp,h=>by simp [a6] at hp
 | .agg cs,u,hp,h=>by
  simp only [ah] at h ⊢;simp only [a6] at hp;obtain ⟨xs,h1,h2⟩:=h;exact ⟨xs,h1,sQ hS hw cs _ hp h2⟩
 | .ae cs,u,hp,h=>by
  simp only [ah] at h ⊢;simp only [a6] at hp;obtain ⟨xs,h1,h2⟩:=h;exact ⟨xs,h1,sQ hS hw cs _ hp h2⟩
def sQ (hS:∀b,S b->S' b) (hw:fA S w w'):∀(vs:List AV) (us:List yg),aG vs=true->az af m S w vs us->az af m' S' w' vs us
 | [],us,_,h=>by simpa only [az] using h
 | v::r,us,hp,h=>by
  simp only [az] at h ⊢;simp only [aG,ye] at hp;obtain ⟨u,t,h1,h2,h3⟩:=h;exact ⟨u,t,h1,qg hS hw v u hp.1 h2,sQ hS hw r t hp.2 h3⟩
def Qt (hS:∀b,S b->S' b) (hw:fA S w w'):∀(cs:List AV) (b o:Nat),aG cs=true->S b->bT af m S w cs b o->bT af m' S' w' cs b o
 | [],_,_,_,_,_=>by simp only [bT]
 | c::cs,b,o,hp,hb,h=>by
  simp only [bT] at h ⊢;simp only [aG,ye] at hp;obtain ⟨⟨u,h1,h2⟩,h3⟩:=h;exact ⟨⟨u,(Lo (hw b hb)).trans h1,qg hS hw c u hp.1 h2⟩,Qt hS hw cs b (o+1) hp.2 hb h3⟩
end
def Cf (hS:∀b,S b->S' b) (hw:fA S w w'):∀(cs:List AV) (b o:Nat),aG cs=true->w'.heap[b]? =w.heap[b]? ->bT af m S w cs b o->bT af m' S' w' cs b o
 | [],_,_,_,_,_=>by simp only [bT]
 | c::cs,b,o,hp,hb,h=>by
  simp only [aG,ye] at hp;obtain ⟨⟨u,h1,h2⟩,h3⟩:=h;exact ⟨⟨u,(Lo hb).trans h1,qg hS hw c u hp.1 h2⟩,Cf hS hw cs b (o+1) hp.2 hb h3⟩
end
section
variable {O:bk} {m:Mp} {S S':Nat->Prop} {w w':yi} {hp:Hp} {ct:Nat}
def apf (hh:aU O m S w hp ct) (hw:Calm w w'):fA S w w':=fun b hb=>hw.same b (hh.slt b hb)
def Ci (hh:aU O m S w hp ct) (hw:Calm w w') (hS:∀b,S b->S' b) (hn:∀b,S' b->S b\/w.heap.size<=b) (hl:∀b,S' b->b<w'.heap.size):aU O m S' w' hp ct where
 obj id o p ho hm:=ri (fun _ _ h=>h) hS (apf hh hw) (fun q hq=>hw.same _ (hh.blt id q hq)) (fun q hq hs=>(hn _ hs).resolve_right (by have:=hh.blt id q hq;omega)) (hh.obj id o p ho hm)
 lt:=hh.lt
 inj:=hh.inj
 slt:=hl
 blt id p h:=yT (hh.blt id p h) hw.size
 low:=hh.low
 lJ b hb:=(hw.same b (yT hb hh.fF)).trans (hh.lJ b hb)
 fF:=Nat.le_trans hh.fF hw.size
 aX:=hh.aX
def AB {base:Nat} (hh:aU O m S w hp ct) (hw:Calm w w') (hS:∀b,S b->S' b) (hn:∀b,S' b->S b\/w.heap.size<=b):ck m S w hp m S' w' hp base where
 os:=hw.os
 tape:=hw.tape
 output:=hw.output
 size:=hw.size
 same b hb _:=hw.same b hb
 sub:=hS
 still b hb:=hw.same b (hh.slt b hb)
 new b hb:=(hn b hb).imp id .inr
 own b hb:= .inl hb
 old _ _ _ h:=h
 loops b r hb:=⟨r,(hw.same b (xt.1 hb).1).trans hb⟩
def aq2 {i:Nat} (hh:aU O m S w hp ct) (hi:m i=none) (FV:i<ct) {p:Pl} (hb:p.b<w.heap.size) (bi:O.w0.heap.size<=p.b) (FX:¬S p.b) (ot:∀j q,m j=some q->q.b≠p.b)
  (hf:∀o,aq hp i=some o->(eW O (fp m i p) S w i o/\¬iq o)\/(iq o/\eW O (fp m i p) (fun b=>S b\/b=p.b) w i o)):
  ∃S',aU O (fp m i p) S' w hp ct/\(∀b,S b->S' b)/\∀b,S' b->S b\/b=p.b:=by
 have aR:fA S w w:=fun _ _=>rfl
 have gen:∀S':Nat->Prop,(∀b,S b->S' b)->(∀b,S' b->S b\/b=p.b)->(∀o,aq hp i=some o->eW O (fp m i p) S' w i o)->aU O (fp m i p) S' w hp ct:=by
  intro S' h1 h2 h3;refine ⟨?_,?_,?_,?_,?_,?_,hh.lJ,hh.fF,hh.aX⟩
  ·intro id o q ho hm;by_cases hc:id=i
   ·grind
   ·rw [ed hc] at hm;refine ri (jr hi) h1 aR (fun _ _=>rfl) (fun q' bL hs=>?_) (hh.obj id o q ho hm)
    grind
  ·intro id q hm;by_cases hc:id=i
   ·grind
   ·rw [ed hc] at hm;exact hh.lt id q hm
  ·intro a b oa ob pa pb ha cw Dn zF e;by_cases ca:a=i
   ·by_cases cb:b=i
    ·grind
    ·subst ca;rw [dN] at Dn;rw [ed cb] at zF
     grind
   ·rw [ed ca] at Dn;by_cases cb:b=i
    ·subst cb;rw [dN] at zF
     grind
    ·rw [ed cb] at zF;exact hh.inj a b oa ob pa pb ha cw Dn zF e
  ·intro b hs;rcases h2 b hs with h | h
   ·exact hh.slt b h
   ·grind
  ·intro id q hm;by_cases hc:id=i
   ·subst hc;rw [dN] at hm
    grind
   ·rw [ed hc] at hm;exact hh.blt id q hm
  ·intro id q hm;by_cases hc:id=i
   ·subst hc;rw [dN] at hm
    grind
   ·rw [ed hc] at hm;exact hh.low id q hm
 cases ho:aq hp i with
 | none=>exact ⟨S,gen S (fun _ h=>h) (fun _ h=> .inl h) (fun o h=>by rw [ho] at h;cases h),fun _ h=>h,fun _ h=> .inl h⟩
 | some o=>
  rcases hf o ho with ⟨h1,_⟩ | ⟨_,h1⟩
  ·exact ⟨S,gen S (fun _ h=>h) (fun _ h=> .inl h) (fun o' h=>by rw [ho] at h;injection h with h;subst h;exact h1),fun _ h=>h,fun _ h=> .inl h⟩
  ·exact ⟨_,gen (fun b=>S b\/b=p.b) (fun _ h=> .inl h) (fun _ h=>h) (fun o' h=>by rw [ho] at h;injection h with h;subst h;exact h1),fun _ h=> .inl h,fun _ h=>h⟩
def abD {af:Nat->Nat} {lo:Nat} {r:AV} {u:yg} {bs:List Nat} (h:ia af S w lo r u bs) (m:Mp) (hS:∀b,S b->S' b) (hbs:∀b,b∈bs->S' b):ah af m S' w (bH r) u:=by
 have aR:fA S w w:=fun _ _=>rfl
 cases r with
 | bD ex sz n cs=>
  obtain ⟨b,o,c,arr,t,rfl,rfl,h1,h2,h3,h4,h5,h6,h7,h8,h9⟩:=h;exact .inl ⟨b,o,c,rfl,h1,h2,.inr (hbs b (by simp)),h9,Cf hS aR cs b o h9 rfl h8⟩
 | _=>simp only [ia] at h;exact qg hS aR _ _ h.2.2 h.2.1
def abE {af:Nat->Nat} {lo:Nat} (m:Mp) (hS:∀b,S b->S' b):∀{vs:List AV} {us:List yg} {bs:List Nat},kO af S w lo vs us bs->(∀b,b∈bs->S' b)->az af m S' w (CP vs) us
 | [],us,bs,h,_=>by simp only [kO] at h;exact h.1
 | v::r,us,bs,h,hb=>by
  obtain ⟨u,t,b1,b2,rfl,rfl,h1,h2⟩:=h;exact ⟨u,t,rfl,abD h1 m hS (fun b cw=>hb b (by simp [cw])),abE m hS h2 (fun b cw=>hb b (by simp [cw]))⟩
def RM {af:Nat->Nat} {lo:Nat} {r:AV} {u:yg} {bs:List Nat} (h:ia af S w lo r u bs):∀b,b∈bs->lo<=b/\b<w.heap.size:=by
 intro b hb
 cases r with
 | bD ex sz n cs=>
  simp only [ia] at h
  grind
 | _=>simp only [ia] at h;rw [h.1] at hb;cases hb
def RN {af:Nat->Nat} {lo:Nat}:∀{vs:List AV} {us:List yg} {bs:List Nat},kO af S w lo vs us bs->∀b,b∈bs->lo<=b/\b<w.heap.size
 | [],us,bs,h,b,hb=>by simp only [kO] at h;rw [h.2] at hb;cases hb
 | v::r,us,bs,h,b,hb=>by
  obtain ⟨u,t,b1,b2,rfl,rfl,h1,h2⟩:=h;rcases wj.1 hb with hb | hb
  ·exact RM h1 b hb
  ·exact RN h2 b hb
def abF {af:Nat->Nat} {lo:Nat} {r:AV} {u:yg} (h:nj af S w lo r u) (m:Mp):∃S',(∀b,S b->S' b)/\(∀b,S' b->S b\/(lo<=b/\b<w.heap.size))/\ah af m S' w (shut r) u:=by
 have one:∀(r:AV) (bs:List Nat),shut r=bH r->ia af S w lo r u bs->∃S',(∀b,S b->S' b)/\(∀b,S' b->S b\/(lo<=b/\b<w.heap.size))/\ah af m S' w (shut r) u:=by
  intro r bs hs h;refine ⟨fun b=>S b\/b∈bs,fun _ h=> .inl h,fun b hb=>hb.imp (fun x=>x) (fun hb=>RM h b hb),?_⟩;rw [hs];exact abD h m (fun _ h=> .inl h) (fun _ h=> .inr h)
 cases r with
 | ae vs=>
  obtain ⟨us,bs,rfl,h1,h2⟩:=h;refine ⟨fun b=>S b\/b∈bs,fun _ h=> .inl h,fun b hb=>hb.imp (fun x=>x) (fun hb=>RN h1 b hb),?_⟩;exact ⟨us,rfl,abE m (fun _ h=> .inl h) h1 (fun _ h=> .inr h)⟩
 | _=>
  obtain ⟨bs,h⟩:=h;exact one _ bs rfl h
end
end
section
open Go
section
variable {O:bk} {m:Mp} {S:Nat->Prop} {w:yi} {H:Hp} {cH:Nat}
def Mu {hp:Hp} {ct:Nat} {r:AV}:ct<=(fe hp ct r).2.2:=by
 cases r<;>simp only [fe]<;>omega
def Mv:∀{vs:List AV} {hp:Hp} {ct:Nat},ct<=(jH hp ct vs).2.2
 | [],hp,ct=>by simp [jH]
 | v::r,hp,ct=>by
  simp only [jH];have h1:=Mu (hp:=hp) (ct:=ct) (r:=v);have h2:=Mv (vs:=r) (hp:=(fe hp ct v).2.1) (ct:=(fe hp ct v).2.2);omega
def RO {hp:Hp} {ct:Nat} {r:AV} (hf:∀id o,aq hp id=some o->id<ct):∀id o,aq hp id=some o->aq (fe hp ct r).2.1 id=some o:=by
 intro id o h;cases r<;>simp only [fe]<;>try exact h
 rw [fy,yB (by have:=hf id o h;omega)];exact h
def adO {hp:Hp} {ct lo:Nat} {r:AV} {u:yg} {bs:List Nat} (hh:aU O m S w H cH) (hl:cU (fe hp ct r).2.1 H) (fT:(fe hp ct r).2.2<=cH) (hn:∀id,ct<=id->id<(fe hp ct r).2.2->m id=none)
  (hr:ia O.af S w lo r u bs) (bi:O.w0.heap.size<=lo) (ot:∀j q,m j=some q->q.b∉bs):
  ∃m' S',aU O m' S' w H cH/\de m m'/\(∀id p,m' id=some p->m id=some p\/(ct<=id/\id<(fe hp ct r).2.2/\p.b∈bs))/\ah O.af m' S' w (fe hp ct r).1 u/\(∀b,S b->S' b)/\(∀b,S' b->S b\/b∈bs):=by
 have aR:fA S w w:=fun _ _=>rfl
 cases r with
 | bD ex sz n cs=>
  simp only [fe] at hl fT hn;obtain ⟨b,o,c,arr,t,rfl,rfl,h1,h2,h3,h4,h5,h6,h7,h8,h9⟩:=hr;have bP:m ct=none:=hn ct (yr _) (Nat.lt_succ_self _);have aAK:b<w.heap.size:=(xt.1 h5).1;have om:eW O (fp m ct ⟨b,o,c*sz,sz⟩) S w ct (.cells true true ex sz cs):=by
   refine ⟨_,arr,t,dN,h5,rfl,?_,h7,fun hx=>?_,Cf (fun _ h=>h) aR cs b o h9 rfl h8,fun _=>h9,fun _=>h4,by simp⟩
   ·show cs.length<=c*sz
    rw [h6];exact yV _ h1
   ·grind
  obtain ⟨S',k1,k2,k3⟩:=aq2 (p:=⟨b,o,c*sz,sz⟩) hh bP (by omega) aAK (by show _<=b;omega) h4 (fun j q hq e=>ot j q hq (by rw [e];simp)) (fun o' jL=>by
   obtain ⟨YG,g1,g2⟩:=hl ct (.cells true true ex sz cs) (by rw [fy];simp)
   rw [jL] at g1;injection g1 with g1
   subst g1
   exact Qi (p:=⟨b,o,c*sz,sz⟩) g2 dN om (by simp [iq]))
  refine ⟨_,S',k1,jr bP,fun id p ap=>?_,?_,k2,fun b' cw=>(k3 b' cw).imp (fun h=>h) (fun h=>by rw [h];simp)⟩
  ·by_cases hc:id=ct
   ·subst hc;rw [dN] at ap;injection ap with ap
    subst ap;exact .inr ⟨yr _,by simp [fe],by simp⟩
   ·rw [ed hc] at ap;exact .inl ap
  ·simp only [fe,ah];exact ⟨_,c,dN,by simp,h1,by simp⟩
 | _=>
  exact ⟨m,S,hh,de.refl,fun _ _ h=> .inl h,qg (fun _ h=>h) aR _ _ hr.2.2 hr.2.1,fun _ h=>h,fun _ h=> .inl h⟩
def H9 {hp:Hp} {ct:Nat} {r:AV} (hf:∀id o,aq hp id=some o->id<ct):∀id o,aq (fe hp ct r).2.1 id=some o->id<(fe hp ct r).2.2:=by
 intro id o h;cases r<;>simp only [fe] at h ⊢<;>try exact hf id o h
 rw [fy] at h
 grind
def Mw:∀{vs:List AV} {hp:Hp} {ct:Nat},(∀id o,aq hp id=some o->id<ct)->∀id o,aq hp id=some o->aq (jH hp ct vs).2.1 id=some o
 | [],hp,ct,_,id,o,h=>by simpa [jH] using h
 | v::r,hp,ct,hf,id,o,h=>by
  exact Mw (H9 hf) id o (RO hf id o h)
def adP {lo:Nat} (bi:O.w0.heap.size<=lo):∀{vs:List AV} {us:List yg} {bs:List Nat} {hp:Hp} {ct:Nat} {m:Mp} {S:Nat->Prop},aU O m S w H cH->cU (jH hp ct vs).2.1 H->(jH hp ct vs).2.2<=cH->
  (∀id o,aq hp id=some o->id<ct)->(∀id,ct<=id->id<(jH hp ct vs).2.2->m id=none)->
  kO O.af S w lo vs us bs->bs.Nodup->(∀j q,m j=some q->q.b∉bs)->
  ∃m' S',aU O m' S' w H cH/\de m m'/\(∀id p,m' id=some p->m id=some p\/(ct<=id/\id<(jH hp ct vs).2.2/\p.b∈bs))/\az O.af m' S' w (jH hp ct vs).1 us/\(∀b,S b->S' b)/\(∀b,S' b->S b\/b∈bs)
 | [],us,bs,hp,ct,m,S,hh,hl,fT,hf,hn,hr,lY,ot=>by
  simp only [kO] at hr;exact ⟨m,S,hh,de.refl,fun _ _ h=> .inl h,by simp only [jH,az];exact hr.1,fun _ h=>h,fun _ h=> .inl h⟩
 | v::r,us,bs,hp,ct,m,S,hh,hl,fT,hf,hn,hr,lY,ot=>by
  simp only [kO] at hr;obtain ⟨u,t,b1,b2,rfl,rfl,h1,h2⟩:=hr;simp only [jH] at hl fT hn ⊢;have ef:=Mu (hp:=hp) (ct:=ct) (r:=v);have su:=Mv (vs:=r) (hp:=(fe hp ct v).2.1) (ct:=(fe hp ct v).2.2);rw [List.nodup_append] at lY;obtain ⟨m1,S1,k1,k2,k3,k4,k5,k6⟩:=adO (hp:=hp) (ct:=ct) (lo:=lo) hh ((fun id o h=>hl id o (Mw (H9 hf) id o h))) (by omega) (fun id g1 g2=>hn id g1 (by omega)) h1 bi
   (fun j q hq hb=>ot j q hq (by simp [hb]))
  have YN:kO O.af S1 w lo r t b2:=by
   clear k4;have Ta:∀b,S1 b->S b\/b∈b1:=k6;have hd:∀b,b∈b2->b∉b1:=fun b hb jB=>lY.2.2 b jB b hb rfl
   have one:∀{v:AV} {u:yg} {bb:List Nat},(∀b,b∈bb->b∉b1)->ia O.af S w lo v u bb->ia O.af S1 w lo v u bb:=by
    intro v u bb ol h
    cases v with
    | bD ex sz n cs=>
     simp only [ia] at h ⊢;obtain ⟨b,o,c,arr,tt,rfl,rfl,g1,g2,g3,g4,g5,g6,g7,g8,g9⟩:=h;exact ⟨b,o,c,arr,tt,rfl,rfl,g1,g2,g3,fun hs=>(Ta b hs).elim g4 (ol b (by simp)),g5,g6,g7,Cf k5 (fun _ _=>rfl) cs b o g9 rfl g8,g9⟩
    | _=>simp only [ia] at h ⊢;exact ⟨h.1,qg k5 (fun _ _=>rfl) _ _ h.2.2 h.2.1,h.2.2⟩
   clear k1 k2 k3 hl fT hn ot lY;revert hd h2;generalize b2=bb
   induction r generalizing t bb with
   | nil=>intro h2 hd;simpa only [kO] using h2
   | cons v' r ih=>
    intro h2 hd;simp only [kO] at h2 ⊢;obtain ⟨u',t',c1,c2,rfl,rfl,g1,g2⟩:=h2
    exact ⟨u',t',c1,c2,rfl,rfl,one (fun b hb=>hd b (by simp [hb])) g1,ih _ (by
     have:=Mv (vs:=r) (hp:=(fe hp ct v).2.1) (ct:=(fe hp ct v).2.2)
     exact this) _ g2 (fun b hb=>hd b (by simp [hb]))⟩
  obtain ⟨m2,S2,g1,g2,g3,g4,g5,g6⟩:=adP bi (vs:=r) (us:=t) (bs:=b2) (m:=m1) (S:=S1) k1 hl fT (H9 hf) (fun id q1 q2=>by
   cases hq:m1 id with
   | none=>rfl
   | some p=>
    rcases k3 id p hq with h | ⟨_,h,_⟩
    ·rw [hn id (by omega) q2] at h;cases h
    ·omega) YN lY.2.1 (fun j q hq hb=>by
     rcases k3 j q hq with h | ⟨_,_,h⟩
     ·exact ot j q h (by simp [hb])
     ·exact lY.2.2 q.b h q.b hb rfl)
  refine ⟨m2,S2,g1,k2.trans g2,fun id p ap=>?_,?_,fun b hb=>g5 b (k5 b hb),fun b hb=>?_⟩
  ·rcases g3 id p ap with h | ⟨a1,a2,a3⟩
   ·rcases k3 id p h with h | ⟨a1,a2,a3⟩
    ·exact .inl h
    ·exact .inr ⟨a1,by omega,by simp [a3]⟩
   ·exact .inr ⟨by omega,a2,by simp [a3]⟩
  ·simp only [az];exact ⟨u,t,rfl,lz g2 g5 (fun _ _=>rfl) _ _ k4,g4⟩
  ·rcases g6 b hb with h | h
   ·exact (k6 b h).imp (fun h=>h) (fun h=>by simp [h])
   ·exact .inr (by simp [h])
def avm {hp:Hp} {ct lo:Nat} {r:AV} {u:yg} (hh:aU O m S w H cH) (hl:cU (own hp ct r).2.1 H) (fT:(own hp ct r).2.2<=cH) (hf:∀id o,aq hp id=some o->id<ct)
  (hn:∀id,ct<=id->id<(own hp ct r).2.2->m id=none) (hr:nj O.af S w lo r u) (bi:O.w0.heap.size<=lo) (Kw:∀j q,m j=some q->q.b<lo):
  ∃m' S',aU O m' S' w H cH/\de m m'/\(∀id p,m' id=some p->m id=some p\/(ct<=id/\id<(own hp ct r).2.2/\lo<=p.b))/\ah O.af m' S' w (own hp ct r).1 u/\(∀b,S b->S' b)/\(∀b,S' b->S b\/lo<=b):=by
 have one:∀(r:AV) (bs:List Nat),own hp ct r=fe hp ct r->ia O.af S w lo r u bs->cU (own hp ct r).2.1 H->(own hp ct r).2.2<=cH->(∀id,ct<=id->id<(own hp ct r).2.2->m id=none)->
   ∃m' S',aU O m' S' w H cH/\de m m'/\(∀id p,m' id=some p->m id=some p\/(ct<=id/\id<(own hp ct r).2.2/\lo<=p.b))/\ah O.af m' S' w (own hp ct r).1 u/\(∀b,S b->S' b)/\(∀b,S' b->S b\/lo<=b):=by
  intro r bs he hr hl fT hn;rw [he] at hl fT hn ⊢;have C0:=RM hr;obtain ⟨m',S',k1,k2,k3,k4,k5,k6⟩:=adO hh hl fT hn hr bi (fun j q hq hb=>by have:=Kw j q hq;have:=(C0 _ hb).1;omega)
  exact ⟨m',S',k1,k2,fun id p h=>(k3 id p h).imp (fun h=>h) (fun h=>⟨h.1,h.2.1,(C0 _ h.2.2).1⟩),k4,k5,fun b hb=>(k6 b hb).imp (fun h=>h) (fun h=>(C0 _ h).1)⟩
 cases r with
 | ae vs=>
  simp only [own] at hl fT hn ⊢;simp only [nj] at hr;obtain ⟨us,bs,rfl,h1,h2⟩:=hr;have C0:=RN h1;obtain ⟨m',S',k1,k2,k3,k4,k5,k6⟩:=adP bi hh hl fT hf hn h1 h2 (fun j q hq hb=>by have:=Kw j q hq;have:=(C0 _ hb).1;omega)
  exact ⟨m',S',k1,k2,fun id p h=>(k3 id p h).imp (fun h=>h) (fun h=>⟨h.1,h.2.1,(C0 _ h.2.2).1⟩),by simp only [ah];exact ⟨us,rfl,k4⟩,k5,fun b hb=>(k6 b hb).imp (fun h=>h) (fun h=>(C0 _ h).1)⟩
 | _=>
  simp only [nj] at hr;obtain ⟨bs,hr⟩:=hr;exact one _ bs rfl hr hl fT hn
end
end
section
open Go
section
variable {O:bk} {m m':Mp} {S:Nat->Prop} {w:yi} {f:Nat->Option Nat}
def ET (f:Nat->Option Nat) (m m':Mp):Prop:=∀id j,f id=some j->m' j=m id
mutual
def adQ {af:Nat->Nat} (hf:ET f m m'):∀(v:AV) (u:yg),ah af m S w v u->ah af m' S w (cd f v) u
 | .int _ _,_,h | .bool _,_,h | .bS _ _,_,h | .str _,_,h | .kN,_,h | .aa,_,h | .iS,_,h | .j0,_,h | .undef,_,h=>by
  simpa only [cd,ah] using h
 | .ptr id o,u,h=>by
  simp only [cd]
  cases hi:f id with
  | none=>simp only [ah]
  | some j=>
   simp only [ah] at h ⊢;rw [hf id j hi];exact h
 | .b5 cs,u,h=>by
  simp only [cd];exact qg (fun _ h=>h) (fun _ _=>rfl) _ _ (by simp [a6]) h
 | .aA ex n cs,u,h=>by
  simp only [cd];exact qg (fun _ h=>h) (fun _ _=>rfl) _ _ (by simp [a6]) h
 | .bD _ _ _ _,u,h=>by simp only [ah] at h
 | .aB id o n,u,h=>by
  simp only [cd]
  cases hi:f id with
  | none=>simp only [ah]
  | some j=>
   simp only [ah] at h ⊢;rw [hf id j hi];exact h
 | .fn (.f g) first cap,u,h=>by
  simp only [cd,ah] at h ⊢;obtain ⟨fi,ca,h1,h2,h3⟩:=h;exact ⟨fi,ca,h1,AD hf first _ h2,AD hf cap _ h3⟩
 | .fn (.y l) first cap,u,h=>by
  simp only [cd]
  cases hi:f l with
  | none=>simp only [ah]
  | some j=>
   simp only [ah] at h ⊢;rw [hf l j hi];exact h
 | .map id,u,h=>by
  simp only [cd]
  cases hi:f id with
  | none=>simp only [ah]
  | some j=>
   simp only [ah] at h ⊢;rw [hf id j hi];exact h
 | .jw ks vs,u,h=>by
  simp only [cd];exact qg (fun _ h=>h) (fun _ _=>rfl) _ _ (by simp [a6]) h
 | .it id,u,h=>by
  simp only [cd]
  cases hi:f id with
  | none=>simp only [ah]
  | some j=>
   simp only [ah] at h ⊢;rw [hf id j hi];exact h
 | .agg cs,u,h=>by
  simp only [cd,ah] at h ⊢;obtain ⟨xs,h1,h2⟩:=h;exact ⟨xs,h1,AD hf cs _ h2⟩
 | .ae cs,u,h=>by
  simp only [cd,ah] at h ⊢;obtain ⟨xs,h1,h2⟩:=h;exact ⟨xs,h1,AD hf cs _ h2⟩
def AD {af:Nat->Nat} (hf:ET f m m'):∀(vs:List AV) (us:List yg),az af m S w vs us->az af m' S w (eK f vs) us
 | [],us,h=>by simpa only [eK,az] using h
 | v::r,us,h=>by
  simp only [eK,az] at h ⊢;obtain ⟨u,t,h1,h2,h3⟩:=h;exact ⟨u,t,h1,adQ hf v u h2,AD hf r t h3⟩
end
def apg {af:Nat->Nat} (hf:ET f m m') {cs:List AV} {b o:Nat} (h:bT af m S w cs b o):bT af m' S w (eK f cs) b o:=by
 obtain ⟨us,h1,_,h3⟩:=rh cs b o h;exact D8 _ us o (AD hf cs us h1) h3
def Q7:∀cs:List AV,(eK f cs).length=cs.length
 | []=>rfl
 | c::r=>by simp [eK,Q7 r]
def acA:∀(tm:Env) (i:Nat),ai (iT f tm) i=cd f (ai tm i)
 | [],i=>by simp [iT,ai,cd]
 | (j,v)::r,i=>by
  simp only [iT,ai]
  cases yu j i with
  | true=>rfl
  | false=>exact acA r i
def abG (tm:Env) (i:Nat):∀live:List Nat,ai (da tm live) i=ai tm i\/ai (da tm live) i= .undef
 | []=> .inr rfl
 | j::r=>by
  simp only [da,ai]
  cases hb:yu j i with
  | true=>rw [yj hb];exact .inl rfl
  | false=>exact abG tm i r
def acB {tm:Env} {tmps:Array yg} (hf:ET f m m') (h:b9 O m S w tm tmps):b9 O m' S w (iT f tm) tmps:=fun i=>by
 rw [acA];exact adQ hf _ _ (h i)
def aq3 {id j:Nat} {o:Obj} {p:Pl} (hf:ET f m m') (hm:m id=some p) (hj:m' j=some p) (h:eW O m S w id o):eW O m' S w j (jx f o):=by
 cases o with
 | cells rw pu ex sz cs=>
  obtain ⟨q,arr,t,h1,h2,h3,h4,h5,h6,h7,h8,h9,iE⟩:=h;rw [hm] at h1;injection h1 with h1;subst h1
  cases pu with
  | true=>exact ⟨p,arr,t,hj,h2,h3,h4,h5,h6,Cf (fun _ h=>h) (fun _ _=>rfl) _ _ _ (h8 rfl) rfl h7,h8,h9,iE⟩
  | false=>exact ⟨p,arr,t,hj,h2,h3,by rw [yS,Q7];exact h4,h5,by rw [yS,Q7];exact h6,apg hf h7,by simp,h9,iE⟩
 | mp rw ks vs=>
  obtain ⟨q,es,clock,h1,h2,h3,h4,h5,h6⟩:=h;rw [hm] at h1;injection h1 with h1;subst h1
  exact ⟨p,es,clock,hj,h2,AD hf _ _ h3,AD hf _ _ h4,h5,h6⟩
 | si s pos=>
  obtain ⟨q,t,h1,h2,h3,h4⟩:=h;rw [hm] at h1;injection h1 with h1;subst h1
  exact ⟨p,t,hj,h2,h3,h4⟩
 | lp tm ps cK body st pe=>
  obtain ⟨q,l,hi,h1,h2,h3,h4,h5,h6,h7,h8⟩:=h;rw [hm] at h1;injection h1 with h1;subst h1
  exact ⟨p,l,hi,hj,h2,h3,h4,h5,h6,acB hf h7,h8⟩
def abH {i:Nat}:∀{l:List Nat} {k j:Nat},hX i l k=some j->k<=j/\l[j-k]? =some i
 | [],k,j,h=>by simp [hX] at h
 | x::r,k,j,h=>by
  simp only [hX] at h
  cases hb:yu x i with
  | true=>
   simp_all
  | false=>
   rw [hb] at h;obtain ⟨h1,h2⟩:=abH h
   grind
def zc {a b:Nat}:yR a b=true↔a<b:=by simp_all
def Lv {hp:Hp} {j:Nat} {o':Obj}:∀{l:List Nat} {k:Nat} {acc:Hp},aq (gG hp f l k acc) j=some o'->
  (∃i id o,l[i]? =some id/\j=k+i/\aq hp id=some o/\o'=jx f o)\/aq acc j=some o'
 | [],k,acc,h=> .inr h
 | x::r,k,acc,h=>by
  simp only [gG] at h
  cases hx:aq hp x with
  | none=>
   simp only [hx] at h;rcases Lv h with ⟨i,id,o,h1,h2,h3,h4⟩ | h
   ·exact .inl ⟨i+1,id,o,by simpa using h1,by omega,h3,h4⟩
   ·grind
  | some o=>
   simp only [hx] at h;rcases Lv h with ⟨i,id,o,h1,h2,h3,h4⟩ | h
   ·exact .inl ⟨i+1,id,o,by simpa using h1,by omega,h3,h4⟩
   ·rw [fy] at h;by_cases hc:k=j
    ·simp only [hc,xC,yd] at h;exact .inl ⟨0,x,o,by simp,by omega,hx,h.symm⟩
    ·grind
def Lw {base:Nat} {j:Nat} {o':Obj}:∀{hp:Hp},aq (mv base f hp) j=some o'->j<base/\∃o,aq hp j=some o/\o'=jx f o
 | [],h=>by simp [mv,aq] at h
 | (i,q)::r,h=>by
  simp only [mv] at h
  cases hb:yR i base with
  | true=>
   rw [hb] at h;simp only [yA] at h;rw [fy] at h;by_cases hc:i=j
   ·simp only [hc,xC,yd] at h;exact ⟨by rw [<-hc];exact zc.1 hb,q,by rw [fy];simp [hc],h.symm⟩
   ·simp only [hc,xf] at h;obtain ⟨h1,o,h2,h3⟩:=Lw h;exact ⟨h1,o,by rw [fy];simp [hc,h2],h3⟩
  | false=>
   rw [hb] at h;obtain ⟨h1,o,h2,h3⟩:=Lw h;have hc:¬i=j:=fun e=>by
    have:=zc.2 h1
    grind
   exact ⟨h1,o,by rw [fy];simp [hc,h2],h3⟩
def px (m:Mp) (base:Nat) (seen:List Nat):Mp:=fun j=>
 if j<base then m j else match seen[j-base]? with
  | some id=>if kG base seen id=some j then m id else none
  | none=>none
def QN {base:Nat} {seen:List Nat} {j:Nat} {p:Pl} (h:px m base seen j=some p):∃id,kG base seen id=some j/\m id=some p/\(j<base->id=j):=by
 unfold px at h
 split at h
 ·rename_i hj;exact ⟨j,by simp [kG,zc.2 hj],h,fun _=>rfl⟩
 ·grind
def aq4 {base:Nat} {seen:List Nat}:ET (kG base seen) m (px m base seen):=by
 intro id j h;have h0:=h;unfold kG at h
 cases hb:yR id base with
 | true=>
  rw [hb] at h;simp only [yA,yd] at h;subst h;simp [px,zc.1 hb]
 | false=>
  rw [hb] at h;obtain ⟨h1,h2⟩:=abH h
  have:¬j<base:=by omega
  simp only [px,this,xf,h2,h0,xC]
def Qu {s:St} {tmps:Array yg} {live:List Nat} (ht:b9 O m S w s.tm tmps) (hh:aU O m S w s.hp s.ct) (hb:s.base<=s.ct):
  ∃m',b9 O m' S w (aS live s).tm tmps/\aU O m' S w (aS live s).hp (aS live s).ct/\(aS live s).base=s.base/\s.base<=(aS live s).ct/\ck m S w s.hp m' S w (aS live s).hp s.base:=by
 simp only [aS];generalize aix:reach s.hp s.base 100000 (gF (da s.tm live)++jq s.base s.hp) []=seen;have hr:=aq4 (m:=m) (base:=s.base) (seen:=seen);have aX:∀j p,px m s.base seen j=some p->j<s.base+seen.length:=by
  intro j p h;unfold px at h
  grind
 have back:∀j o' p,aq (gG s.hp (kG s.base seen) seen s.base (mv s.base (kG s.base seen) s.hp)) j=some o'->px m s.base seen j=some p->
   ∃id o,kG s.base seen id=some j/\aq s.hp id=some o/\m id=some p/\o'=jx (kG s.base seen) o:=by
  intro j o' p ho hm;obtain ⟨id,h1,h2,h3⟩:=QN hm;rcases Lv ho with ⟨i,YO,o,g1,g2,g3,g4⟩ | ho
  ·have hj:¬j<s.base:=by omega
   have:px m s.base seen j=if kG s.base seen YO=some j then m YO else none:=by
    simp only [px,hj,xf,show j-s.base=i by omega,g1]
   grind
  ·obtain ⟨g1,o,g2,g3⟩:=Lw ho
   grind
 refine ⟨px m s.base seen,?_,⟨?_,aX,?_,hh.slt,?_,?_,hh.lJ,hh.fF,fun j o' ho=>(by
  rcases Lv ho with ⟨i,YO,o,g1,g2,g3,g4⟩ | ho
  ·grind
  ·have:=(Lw ho).1;omega)⟩,by trivial,by omega,⟨rfl,rfl,rfl,yr _,fun _ _ _=>rfl,fun _ h=>h,fun _ _=>rfl,fun _ h=> .inl h,?_,?_,fun _ r h=>⟨r,h⟩⟩⟩
 ·refine acB hr (fun i=>?_);rcases abG s.tm i live with h | h
  ·rw [h];exact ht i
  ·rw [h];simp only [ah]
 ·intro j o' p ho hm;obtain ⟨id,o,h1,h2,h3,rfl⟩:=back j o' p ho hm;exact aq3 hr h3 hm (hh.obj id o p h2 h3)
 ·intro i j oi oj pi pj hi hj bP fU e;obtain ⟨idi,o1,a1,a2,a3,_⟩:=back i oi pi hi bP;obtain ⟨idj,o2,b1,b2,b3,_⟩:=back j oj pj hj fU
  have:=hh.inj idi idj o1 o2 pi pj a2 b2 a3 b3 e
  grind
 ·intro j p hm;obtain ⟨id,_,h2,_⟩:=QN hm;exact hh.blt id p h2
 ·intro j p hm;obtain ⟨id,_,h2,_⟩:=QN hm;exact hh.low id p h2
 ·rintro b ⟨j,o',p,h1,h2,h3⟩;obtain ⟨id,o,_,g2,g3,_⟩:=back j o' p h1 h2;exact .inl ⟨id,o,p,g2,g3,h3⟩
 ·intro id p hid hm;simp [px,hid,hm]
end
end
end VE
