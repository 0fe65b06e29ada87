import Derived.Laws.Tables
import Derived.IntWalk
import Derived.Laws.CopyOwn
import Derived.Test.YtjemkccfpkgopaaGreatDoorWaa
set_option linter.all false
set_option maxRecDepth 100000
open Array renaming getElem?_eq_some_iff→xz,length_toList→vB,range→uK
open Bool renaming and_eq_true→yg,false_eq_true→yI
open Go renaming Ending→yaY,Loop→uR,MapEntry→uS,Next→yaC,Obj→tu,Oper→yX,Operand→xu,Program→y5,TypeDesc→vI,TypeId→yC,TypeInfo→ybW,Value→yh,World→yi,sizeOf→vK
open List renaming append_assoc→xy,cons_append→xk,eq_nil_of_length_eq_zero→yB,ext_getElem?→yaE,flatten_append→yao,flatten_cons→vA,getElem?_append_left→wu,getElem?_append_right→xP,getElem?_drop→yaw,getElem?_take_of_lt→uv,getElem?_toArray→yad,length_append→yG,length_drop→xT,length_take→yE,map_cons→xa,mem_append→xZ,range→xe,replicate→yj,replicate_succ→wo,size_toArray→uD,take_of_length_le→yN,take_succ_cons→wD
open Nat renaming add_mul→wJ,add_zero→yY,beq→yv,beq_refl→wW,ble→yF,blt→yQ,eq_of_beq_eq_true→yp,eq_zero_or_pos→xp,le_of_ble_eq_true→yy,le_refl→yu,lt_of_lt_of_le→yU,min_le_left→yaX,mul_comm→xL,mul_le_mul_right→yV,zero_add→ye
open Option renaming isSome_none→yai
open Option.some renaming injEq→yd
open Prod.mk renaming injEq→yo
open UInt8 renaming toNat→xc
namespace VE
section
open Go
section
variable {O:bl} {H:Hint} {m:Mp} {S:Nat->Prop} {w:yi} {tm:Env} {a:Act} {hp:Hp} {ct:Nat}
def Eh {o:yX} {b:Builtin} {args:Array xu} {ts:Array yC} (ho:o.op= .call {callee:= .builtin b,args:=args,argTypes:=ts}):
  ∃cs,(execOp a.eval o).run O.P w=(builtin b ts o.type cs (args.map a.eval)).run O.P w:=by
 exact ⟨_,by simp only [execOp,ho,resolve,Sem.run_bind,Sem.run_pure,Result.andThen_ok,invoke];rfl⟩
def apH {o:yX} {c:Call} {k:Nat} {v:AV} (hH:fw O H) (ht:b8 O m S w tm a.tmps) (hh:aU O m S w hp ct) (ho:o.op= .call c)
  (hv:bA tm hp (aX O.P H k o)=some v):Reads O m S w a o v:=by
 obtain ⟨callee,args,ts⟩:=c;simp only [aX,ho] at hv
 split at hv
 ·cases KH:H.mode k<;>simp [KH,bA] at hv
 ·rename_i _ b
  split at hv
  ·have key:∀{bb:Bool} {sz by':Nat} {x y:X},bA tm hp (bif bb then .aR sz by' x y else bad)=some v->False:=by
    intro bb sz by' x y h
    cases bb
    ·exact dL h
    ·simp [bA] at h
   split at hv
   ·split at hv
    ·exact (key hv).elim
    ·simp_all
   ·split at hv
    ·exact (key hv).elim
    ·simp_all
   ·simp_all
  ·rename_i x t fV mF;obtain ⟨al⟩:=args;obtain ⟨tl⟩:=ts;simp only at fV mF;subst fV;subst mF;obtain ⟨cs,fD⟩:=Eh (O:=O) (w:=w) (a:=a) ho;have fin:(∃u,(Builtin.len_ #[t] o.type #[a.eval x]).run O.P w= .ok u w/\ah O.af m S w v u)->Reads O m S w a o v:=by
    rintro ⟨u,h1,h2⟩;refine ⟨u,?_,h2⟩;rw [fD];simp [builtin,h1]
   split at hv
   ·rename_i n e hu;simp only [bA,aA,yd] at hv;subst hv;exact fin ⟨_,by simp [Builtin.len_,run_underlying hu];rfl,by simp [ah,goInt]⟩
   ·rename_i hu;simp only [bA] at hv;exact fin (SM hh (cy hH ht x) (.inl ⟨rfl,hu⟩) hv)
   ·rename_i e hu;simp only [bA] at hv;exact fin (SM hh (cy hH ht x) (.inr (.inl ⟨rfl,e,hu⟩)) hv)
   ·rename_i kt e hu;simp only [bA] at hv;exact fin (SM hh (cy hH ht x) (.inr (.inr ⟨rfl,kt,e,hu⟩)) hv)
   ·exact (dL hv).elim
  ·split at hv
   ·split at hv
    ·simp [bA] at hv
    ·exact (dL hv).elim
   ·exact (dL hv).elim
  ·simp only [bA] at hv;obtain ⟨cs,fD⟩:=Eh (O:=O) (w:=w) (a:=a) ho;have hl:=CJ hH ht args.toList
   cases hx:dD tm (gY H args.toList) with
   | nil=>simp [hx] at hv
   | cons c r=>
    simp only [hx] at hv;rw [hx] at hl;simp only [ay] at hl;obtain ⟨u,us,h1,h2,h3⟩:=hl;obtain ⟨q,h4,h5⟩:=Sf (O:=O) (g:=Builtin.min2) (fun va vb v x y hx hy h=>atw hx hy h) r us c v u h2 h3 hv;refine ⟨q,?_,h5⟩;rw [fD];simp [builtin,Builtin.min_,h1,h4]
  ·simp only [bA] at hv;obtain ⟨cs,fD⟩:=Eh (O:=O) (w:=w) (a:=a) ho;have hl:=CJ hH ht args.toList
   cases hx:dD tm (gY H args.toList) with
   | nil=>simp [hx] at hv
   | cons c r=>
    simp only [hx] at hv;rw [hx] at hl;simp only [ay] at hl;obtain ⟨u,us,h1,h2,h3⟩:=hl;obtain ⟨q,h4,h5⟩:=Sf (O:=O) (g:=Builtin.max2) (fun va vb v x y hx hy h=>atx hx hy h) r us c v u h2 h3 hv;refine ⟨q,?_,h5⟩;rw [fD];simp [builtin,Builtin.max_,h1,h4]
  ·exact (dL hv).elim
 ·exact (dL hv).elim
def abw {kt:yC} {kk:Nat} {vk:AV} (hk:keyOf O.P kt=some kk) (h:zk kk vk=true):∃d,O.P.underlying kt=some d/\NU d=true/\fits d vk=true:=by
 unfold keyOf at hk
 split at hk
 ·rename_i hu;simp only [yd] at hk;subst hk;refine ⟨_,hu,rfl,?_⟩;cases vk<;>simp_all [zk,fits]
 ·rename_i hu;simp only [yd] at hk;subst hk;refine ⟨_,hu,rfl,?_⟩;cases vk<;>simp_all [zk,fits]
 ·rename_i hu;simp only [yd] at hk;subst hk;refine ⟨_,hu,rfl,?_⟩;cases vk<;>simp_all [zk,fits]
 ·cases hk
def aet {o:yX} {k:Nat} {v:AV} (hH:fw O H) (ht:b8 O m S w tm a.tmps) (hh:aU O m S w hp ct)
  (hv:bA tm hp (aX O.P H k o)=some v):Reads O m S w a o v:=by
 cases ho:o.op with
 | call c=>exact apH hH ht hh ho hv
 | binOp op t x y ty=>exact aro hH ht ho hv
 | move x=>
  simp only [aX,ho,bA,yd] at hv;subst hv;exact ⟨_,by simp only [execOp,ho,Sem.run_pure],cy hH ht x⟩
 | assign x=>
  simp only [aX,ho,bA,yd] at hv;subst hv;exact ⟨_,by simp only [execOp,ho,Sem.run_pure],cy hH ht x⟩
 | pick c x y=>
  simp only [aX,ho,bA] at hv;have rc:=cy hH ht c;cases hc:aA tm (aQ H c)<;>rw [hc] at hv<;>simp only [reduceCtorEq] at hv
  rename_i b;rw [hc] at rc;simp only [ah] at rc;simp only [yd] at hv;subst hv
  cases b with
  | true=>exact ⟨a.eval x,by simp [execOp,ho,rc,asBool],cy hH ht x⟩
  | false=>exact ⟨a.eval y,by simp [execOp,ho,rc,asBool],cy hH ht y⟩
 | load t x=>
  simp only [aX,ho] at hv
  split at hv
  ·rename_i s ag hz ha;simp only [bA] at hv;exact jY (by simp only [execOp,ho]) (azL hh hz ha (cy hH ht x) hv)
  ·exact (dL hv).elim
 | fieldAddr t x i=>
  simp only [aX,ho] at hv
  split at hv
  ·rename_i fs hu
   split at hv
   ·rename_i f hf
    split at hv
    ·rename_i s hz;simp only [bA] at hv;exact jY (by simp only [execOp,ho]) (avQ hu hf hz (cy hH ht x) hv)
    ·exact (dL hv).elim
   ·exact (dL hv).elim
  ·exact (dL hv).elim
 | field t x i=>
  simp only [aX,ho] at hv
  split at hv
  ·rename_i fs hu
   split at hv
   ·rename_i f hf
    split at hv
    ·rename_i s ag hz ha;simp only [bA] at hv;exact jY (by simp only [execOp,ho]) (avR hu hf hz ha (cy hH ht x) hv)
    ·exact (dL hv).elim
   ·exact (dL hv).elim
  ·exact (dL hv).elim
 | nilCheck x=>
  simp only [aX,ho,bA] at hv;have rx:=cy hH ht x;cases hx:aA tm (aQ H x)<;>rw [hx] at hv rx<;>simp only [reduceCtorEq,yd] at hv
  ·subst hv;have r':=rx;simp only [ah] at r';obtain ⟨p,_,e⟩:=r';exact ⟨a.eval x,by simp only [execOp,ho,e,Sem.run_pure],rx⟩
  ·subst hv;have r':=rx;simp only [ah] at r';obtain ⟨b,o',e,_⟩:=r';exact ⟨a.eval x,by simp only [execOp,ho,e,Sem.run_pure],rx⟩
  ·subst hv;rename_i f _ _
   cases f with
   | f g=>
    have r':=rx;simp only [ah] at r';obtain ⟨fi,ca,e,_⟩:=r';exact ⟨a.eval x,by simp only [execOp,ho,e,Sem.run_pure],rx⟩
   | y l=>
    have r':=rx;simp only [ah] at r';obtain ⟨p,_,e⟩:=r';exact ⟨a.eval x,by simp only [execOp,ho,e,Sem.run_pure],rx⟩
 | unOp op t x=>
  simp only [aX,ho,bA] at hv;exact jY (by simp only [execOp,ho]) (atv (cy hH ht x) hv)
 | convert s d x=>
  simp only [aX,ho] at hv
  split at hv
  ·rename_i k1 k2 hs hd;simp only [bA] at hv;exact jY (by simp only [execOp,ho]) (adg hd (.inl ⟨_,hs⟩) (cy hH ht x) hv)
  ·rename_i k1 k2 hs hd;simp only [bA] at hv;exact jY (by simp only [execOp,ho]) (adg hd (.inr ⟨_,hs⟩) (cy hH ht x) hv)
  ·rename_i k1 k2 hs hd;simp only [bA] at hv;exact jY (by simp only [execOp,ho]) (adh hd (.inl ⟨_,hs⟩) (cy hH ht x) hv)
  ·rename_i k1 k2 hs hd;simp only [bA] at hv;exact jY (by simp only [execOp,ho]) (adh hd (.inr ⟨_,hs⟩) (cy hH ht x) hv)
  ·rename_i hs hd;simp only [bA] at hv;exact jY (by simp only [execOp,ho]) (arl hd hs (cy hH ht x) hv)
  ·exact (dL hv).elim
 | makeFunc fn first cap=>
  cases fn with
  | func f=>
   simp only [aX,ho] at hv
   split at hv
   ·rename_i g hg;simp only [bA,yd] at hv;subst hv;refine ⟨.func (.func f) (first.map a.eval) (cap.map a.eval),by simp [execOp,ho,Instr.makeFunc],?_⟩;simp only [ah];exact ⟨_,_,by rw [hH f g hg],by simpa using CJ hH ht first.toList,by simpa using CJ hH ht cap.toList⟩
   ·exact (dL hv).elim
  | _=>simp only [aX,ho] at hv;exact (dL hv).elim
 | slice t x lo hi mx=>
  cases mx with
  | some q=>simp only [aX,ho] at hv;exact (dL hv).elim
  | none=>
   simp only [aX,ho] at hv
   split at hv
   ·rename_i hu;simp only [bA] at hv;exact jY (by simp only [execOp,ho];rfl) (apF hH ht hu (cy hH ht x) hv)
   ·rename_i e hu
    split at hv
    ·rename_i s hz;simp only [bA] at hv;exact jY (by simp only [execOp,ho];rfl) (arm hH ht hu hz hh (cy hH ht x) hv)
    ·exact (dL hv).elim
   ·split at hv
    ·simp only [bA] at hv;cases hx:aA tm (aQ H x)<;>rw [hx] at hv<;>simp [ff] at hv
    ·exact (dL hv).elim
   ·exact (dL hv).elim
 | indexAddr t x i=>
  simp only [aX,ho] at hv
  split at hv
  ·rename_i e hu
   split at hv
   ·rename_i s hz;simp only [bA] at hv
    cases hk:dE (aA tm (aQ H i)) with
    | none=>simp [hk] at hv
    | some j=>
     simp only [hk] at hv;exact jY (by simp only [execOp,ho]) (avS hu hz (cy hH ht x) (cy hH ht i) hk hv)
   ·exact (dL hv).elim
  ·rename_i n e hu
   split at hv
   ·rename_i s hz;simp only [bA] at hv
    cases hk:dE (aA tm (aQ H i)) with
    | none=>simp [hk] at hv
    | some j=>
     simp only [hk] at hv;exact jY (by simp only [execOp,ho]) (avT hu hz (cy hH ht x) (cy hH ht i) hk hv)
   ·exact (dL hv).elim
  ·exact (dL hv).elim
 | index t x i=>
  simp only [aX,ho] at hv
  split at hv
  ·rename_i hu;simp only [bA] at hv
   cases hk:dE (aA tm (aQ H i)) with
   | none=>simp [hk] at hv
   | some j=>
    simp only [hk] at hv;exact jY (by simp only [execOp,ho]) (avV hu (cy hH ht x) (cy hH ht i) hk hv)
  ·rename_i n e hu
   split at hv
   ·rename_i s ag hz ha;simp only [bA] at hv
    cases hk:dE (aA tm (aQ H i)) with
    | none=>simp [hk] at hv
    | some j=>
     simp only [hk] at hv;exact jY (by simp only [execOp,ho]) (avU hu hz ha (cy hH ht x) (cy hH ht i) hk hv)
   ·exact (dL hv).elim
  ·exact (dL hv).elim
 | lookup t x i ok=>
  simp only [aX,ho] at hv
  split at hv
  ·rename_i kt e hu
   split at hv
   ·rename_i kk z sH hz;simp only [bA] at hv
    cases hf:zk kk (aA tm (aQ H i)) with
    | false=>simp [hf] at hv
    | true=>
     simp only [hf,yA] at hv;obtain ⟨d,jh,fF,Zn⟩:=abw sH hf;obtain ⟨zv,mG,rfl⟩:=Ew (w:=w) hz
     cases hr:Be hp (aA tm (aQ H i)) (aA tm (aQ H x)) with
     | none=>simp [hr] at hv
     | some r=>
      refine jY (by simp only [execOp,ho]) (avW (ok:=ok) (r:=r) (z:=eK zv) hh hu jh fF Zn mG (cy hH ht x) (cy hH ht i) (MO zv) hr ?_);cases r<;>simpa [hr] using hv
   ·exact (dL hv).elim
  ·exact (dL hv).elim
 | extract x i=>
  simp only [aX,ho,bA] at hv;have rx:=cy hH ht x;cases hx:aA tm (aQ H x)<;>rw [hx] at hv rx<;>simp only [reduceCtorEq] at hv
  simp only [ah] at rx;obtain ⟨xs,e,hr⟩:=rx;obtain ⟨u,h1,h2⟩:=RH hr hv;refine ⟨u,?_,h2⟩;have Zo:xs[i]? =some u:=by simpa using h1
  simp [execOp,ho,e,Instr.extract,Zo]
 | build t parts=>
  simp only [aX,ho] at hv
  split at hv
  ·rename_i fs z hu hz
   split at hv
   ·rename_i pl aBk;have dP:=run_places (P:=O.P) w fs.toList pl aBk
    split at hv
    case h_2=>exact (dL hv).elim
    rename_i ps iz;simp only [bA] at hv
    cases hf:fill tm z ps with
    | none=>simp [hf] at hv
    | some cs=>
     simp only [hf,yd] at hv;subst hv;obtain ⟨zv,mG,jR⟩:=Ew (w:=w) hz;have Am:ay O.af m S w z zv.cells.toList:=by
      have:=Cp (af:=O.af) (m:=m) (S:=S) (w:=w) zv
      rw [<-jR] at this;exact this
     obtain ⟨out,h1,h2⟩:=MQ hH ht (place:=fun i=>pl[i]?) parts.toList ps z cs zv.cells iz Am hf;refine ⟨.agg out,?_,by simp only [ah];exact ⟨out,rfl,h2⟩⟩
     have hm:(Array.mapM (fun f=>Functor.map (Prod.mk f.offset) (vK f.type)) fs:Sem (Array (Nat×Nat))).run O.P w= .ok pl.toArray w:=by
      rw [Array.mapM_eq_mapM_toList];simp [dP]
     simp [execOp,ho,Instr.build,mG,run_underlying hu,hm,h1]
   ·exact (dL hv).elim
  ·rename_i n e z hu hz
   split at hv
   ·rename_i s hs
    split at hv
    ·rename_i ps iz;simp only [bA] at hv
     cases hf:fill tm z ps with
     | none=>simp [hf] at hv
     | some cs=>
      simp only [hf,yd] at hv;subst hv;obtain ⟨zv,mG,jR⟩:=Ew (w:=w) hz;have Am:ay O.af m S w z zv.cells.toList:=by
       have:=Cp (af:=O.af) (m:=m) (S:=S) (w:=w) zv
       rw [<-jR] at this;exact this
      obtain ⟨out,h1,h2⟩:=MQ hH ht (place:=fun i=>some (i*s,s)) parts.toList ps z cs zv.cells iz Am hf;refine ⟨.agg out,?_,by simp only [ah];exact ⟨out,rfl,h2⟩⟩
      simp [execOp,ho,Instr.build,mG,run_underlying hu,nM hs,h1]
    ·exact (dL hv).elim
   ·exact (dL hv).elim
  ·exact (dL hv).elim
 | alloc t=>simp only [aX,ho] at hv;split at hv<;>simp [bA,bad] at hv
 | box t x=>simp only [aX,ho] at hv;split at hv<;>simp [bA,bad] at hv
 | buildSlice t n parts=>
  simp only [aX,ho] at hv
  split at hv
  ·split at hv
   ·rename_i s z _ _
    cases hc:yF (n*s) 16777216 with
    | false=>rw [hc] at hv;exact (dL hv).elim
    | true=>
     rw [hc] at hv;simp only [yA] at hv
     split at hv
     ·simp [bA] at hv
     ·exact (dL hv).elim
   ·exact (dL hv).elim
  ·exact (dL hv).elim
 | makeMap t r=>
  cases r<;>simp only [aX,ho] at hv
  ·repeat' split at hv
   all_goals simp [bA,bad] at hv
  ·exact (dL hv).elim
 | makeSlice t l c=>
  simp only [aX,ho] at hv
  repeat' split at hv
  all_goals simp [bA,bad] at hv
 | insert t x k y=>
  simp only [aX,ho] at hv
  repeat' split at hv
  all_goals simp [bA,bad] at hv
 | mapUpdate t x k y=>
  simp only [aX,ho] at hv
  repeat' split at hv
  all_goals simp [bA,bad] at hv
 | store t x y=>simp only [aX,ho] at hv;split at hv<;>simp [bA,bad] at hv
 | range t x=>simp only [aX,ho] at hv;split at hv<;>simp [bA,bad] at hv
 | next x b=>cases b<;>simp [aX,ho,bA,bad] at hv
 | _=>simp [aX,ho,bA,bad] at hv
end
end
section
open Go
def fE (m:Mp) (id:Nat) (p:Pl):Mp:=fun i=>if i=id then some p else m i
def dS {m:Mp} {id:Nat} {p:Pl}:fE m id p id=some p:=by simp [fE]
def er {m:Mp} {id i:Nat} {p:Pl} (h:i≠id):fE m id p i=m i:=by simp [fE,h]
section
variable {O:bl} {m:Mp} {S:Nat->Prop} {w:yi} {hp:Hp} {ct:Nat}
def dl (m m':Mp):Prop:=∀id p,m id=some p->m' id=some p
def dl.refl {m:Mp}:dl m m:=fun _ _ h=>h
def dl.trans {m m' KF:Mp} (h:dl m m') (k:dl m' KF):dl m KF:=fun id p hp=>k id p (h id p hp)
def jt {i:Nat} (h:m i=none) {p:Pl}:dl m (fE m i p):=by
 intro id q hq;rw [er]
 ·grind
 ·grind
def AN {tm:Env} {tmps:Array yh} {m':Mp} {S':Nat->Prop} {w':yi} (hm:∀id p,m id=some p->m' id=some p) (hS:∀b,S b->S' b) (hw:fK S w w')
  (h:b8 O m S w tm tmps):b8 O m' S' w' tm tmps:=fun i=>lz hm hS hw _ _ (h i)
def alloc_old {o:tu} {b:Nat} (hb:b<w.heap.size):(w.alloc o).heap[b]? =w.heap[b]? :=RowKit.Below.heap_alloc w o b hb
def rG {m':Mp} {S':Nat->Prop} {w':yi} {id:Nat} {o:Obj} (hm:∀id p,m id=some p->m' id=some p) (hS:∀b,S b->S' b) (hw:fK S w w') (hb:∀p,m id=some p->w'.heap[p.b]? =w.heap[p.b]?)
  (hn:∀p,m id=some p->S' p.b->S p.b) (h:fg O m S w id o):fg O m' S' w' id o:=by
 have rowAt:∀(cs:List AV) (b k:Nat),w'.heap[b]? =w.heap[b]? ->bU O.af m S w cs b k->bU O.af m' S' w' cs b k:=by
  intro cs
  induction cs with
  | nil=>intro b k _ _;simp only [bU]
  | cons c cs ih=>
   intro b k sJ hr;obtain ⟨⟨u,h1,h2⟩,h3⟩:=hr;exact ⟨⟨u,(LJ sJ).trans h1,lz hm hS hw _ _ h2⟩,ih b (k+1) sJ h3⟩
 cases o with
 | cells rw pu ex sz cs=>
  obtain ⟨p,arr,t,h1,h2,h3,h4,h5,h6,h7,h8,h9,iO⟩:=h;exact ⟨p,arr,t,hm _ _ h1,(hb p h1).trans h2,h3,h4,h5,h6,rowAt cs p.b p.o (hb p h1) h7,h8,fun hr hs=>h9 hr (hn p h1 hs),fun hr=>hS _ (iO hr)⟩
 | mp rw ks vs=>
  obtain ⟨p,es,clock,h1,h2,h3,h4,h5,h6⟩:=h;exact ⟨p,es,clock,hm _ _ h1,(hb p h1).trans h2,gS hm hS hw _ _ h3,gS hm hS hw _ _ h4,fun hr hs=>h5 hr (hn p h1 hs),fun hr=>hS _ (h6 hr)⟩
 | si s pos=>
  obtain ⟨p,t,h1,h2,h3,h4⟩:=h;exact ⟨p,t,hm _ _ h1,(hb p h1).trans h2,h3,fun hs=>h4 (hn p h1 hs)⟩
 | lp tm ps cM body st pe=>
  obtain ⟨p,l,hi,h1,h2,h3,h4,h5,h6,h7,h8⟩:=h;exact ⟨p,l,hi,hm _ _ h1,(hb p h1).trans h2,fun hs=>h3 (hn p h1 hs),h4,h5,h6,AN hm hS hw h7,h8⟩
def fI {id i:Nat} {o:Obj}:au ((id,o)::hp) i=if id=i then some o else au hp i:=by
 simp only [au]
 simp_all
def HR (hh:aU O m S w hp ct) (g:tu):fK S w (w.alloc g):=fun b hb=>alloc_old (hh.slt b hb)
def ji:Obj->Obj->Prop
 | .cells rw pu ex sz cs,o'=>∃rw',o'= .cells rw' pu ex sz cs/\(rw'=true->rw=true)
 | .mp rw ks vs,o'=>∃rw',o'= .mp rw' ks vs/\(rw'=true->rw=true)
 | .si s pos,o'=>o'= .si s pos
 | .lp tm ps cM body st pe,o'=>o'= .lp tm ps cM body st pe
def ji.refl:∀o,ji o o
 | .cells rw _ _ _ _=>⟨rw,rfl,fun h=>h⟩
 | .mp rw _ _=>⟨rw,rfl,fun h=>h⟩
 | .si _ _=>rfl
 | .lp _ _ _ _ _ _=>rfl
def ji.trans {a b c:Obj} (h:ji a b) (k:ji b c):ji a c:=by
 cases a with
 | cells rw pu ex sz cs=>
  obtain ⟨r1,rfl,h1⟩:=h;obtain ⟨r2,rfl,h2⟩:=k;exact ⟨r2,rfl,fun h=>h1 (h2 h)⟩
 | mp rw ks vs=>
  obtain ⟨r1,rfl,h1⟩:=h;obtain ⟨r2,rfl,h2⟩:=k;exact ⟨r2,rfl,fun h=>h1 (h2 h)⟩
 | si s pos=>simp only [ji] at h;subst h;exact k
 | lp tm ps cM body st pe=>simp only [ji] at h;subst h;exact k
def cZ (hp aj:Hp):Prop:=∀id o,au hp id=some o->∃o',au aj id=some o'/\ji o o'
def cZ.refl {hp:Hp}:cZ hp hp:=fun _ o h=>⟨o,h,ji.refl o⟩
def cZ.trans {a b c:Hp} (h:cZ a b) (k:cZ b c):cZ a c:=fun id o ho=>
 let ⟨o1,h1,l1⟩:=h id o ho
 let ⟨o2,h2,l2⟩:=k id o1 h1
 ⟨o2,h2,l1.trans l2⟩
def iF:Obj->Prop
 | .cells rw _ _ _ _=>rw=false
 | .mp rw _ _=>rw=false
 | _=>False
def aeu {aj:Hp} {aM:Nat} (hh:aU O m S w hp ct) (hl:cZ hp aj) (hd:∀id o p,au aj id=some o->m id=some p->∃o',au hp id=some o') (eM:ct<=aM) (aBl:∀id o,au aj id=some o->id<aM):
  ∃S',aU O m S' w aj aM/\(∀b,S b->S' b)/\∀b,S' b->S b\/ek m hp b:=by
 refine ⟨fun b=>S b\/∃id p o,m id=some p/\p.b=b/\au aj id=some o/\iF o,?_,fun b h=> .inl h,?_⟩
 ·refine ⟨?_,fun id p h=>yU (hh.lt id p h) eM,?_,?_,hh.blt,hh.low,hh.lJ,hh.fU,aBl⟩
  ·intro id o' p jQ hm;obtain ⟨o,ho⟩:=hd id o' p jQ hm;obtain ⟨Zp,h1,h2⟩:=hl id o ho;rw [jQ] at h1;injection h1 with h1
   subst h1;have h3:=hh.obj id o p ho hm;have hS:∀b,S b->(S b\/∃id p o,m id=some p/\p.b=b/\au aj id=some o/\iF o):=fun b h=> .inl h
   have lQ:∀q,m id=some q->(∃id p o,m id=some p/\p.b=q.b/\au aj id=some o/\iF o)->iF o':=by
    rintro q hq ⟨j,pj,oj,Zq,hj2,hj3,hj4⟩;obtain ⟨KI,hj5⟩:=hd j oj pj hj3 Zq
    have:=hh.inj id j o KI q pj ho hj5 hq Zq hj2.symm
    grind
   have aO:fK S w w:=fun _ _=>rfl
   cases o with
   | cells rw pu ex sz cs=>
    obtain ⟨rw',rfl,q8⟩:=h2;obtain ⟨q,arr,t,h1,h2,h3,h4,h5,h6,h7,h8,h9,iO⟩:=h3;refine ⟨q,arr,t,h1,h2,h3,h4,h5,h6,?_,h8,?_,?_⟩
    ·clear h4 h6 h8;revert h7;generalize q.o=k
     induction cs generalizing k with
     | nil=>intro _;simp only [bU]
     | cons c cs ih=>
      intro hr;simp only [bU] at hr ⊢;obtain ⟨⟨u,g1,g2⟩,g3⟩:=hr
      exact ⟨⟨u,g1,lz (fun _ _ h=>h) hS aO _ _ g2⟩,by
       have DH:∀(cs:List AV) (b k:Nat),bU O.af m S w cs b k->bU O.af m (fun b=>S b\/∃id p o,m id=some p/\p.b=b/\au aj id=some o/\iF o) w cs b k:=by
        intro cs
        induction cs with
        | nil=>intro b k _;simp only [bU]
        | cons c cs ih=>
         intro b k hr;simp only [bU] at hr ⊢;obtain ⟨⟨u,g1,g2⟩,g3⟩:=hr;exact ⟨⟨u,g1,lz (fun _ _ h=>h) hS aO _ _ g2⟩,ih b (k+1) g3⟩
       exact DH _ _ _ g3⟩
    ·rintro hr (hs | hs)
     ·grind
     ·have:=lQ q h1 hs
      simp only [iF] at this
      grind
    ·intro hr;exact .inr ⟨id,q,_,h1,rfl,jQ,hr⟩
   | mp rw ks vs=>
    obtain ⟨rw',rfl,q8⟩:=h2;obtain ⟨q,es,clock,h1,h2,h3,h4,h5,h6⟩:=h3;refine ⟨q,es,clock,h1,h2,gS (fun _ _ h=>h) hS aO _ _ h3,gS (fun _ _ h=>h) hS aO _ _ h4,?_,?_⟩
    ·rintro hr (hs | hs)
     ·grind
     ·have:=lQ q h1 hs
      simp only [iF] at this
      grind
    ·intro hr;exact .inr ⟨id,q,_,h1,rfl,jQ,hr⟩
   | si s pos=>
    simp only [ji] at h2;subst h2;refine rG (fun _ _ h=>h) hS aO (fun _ _=>rfl) (fun q hq hs=>?_) h3;rcases hs with hs | hs
    ·grind
    ·exact (lQ q hq hs).elim
   | lp tm ps cM body st pe=>
    simp only [ji] at h2;subst h2;refine rG (fun _ _ h=>h) hS aO (fun _ _=>rfl) (fun q hq hs=>?_) h3;rcases hs with hs | hs
    ·grind
    ·exact (lQ q hq hs).elim
  ·intro i j oi oj pi pj hi hj bM gD e;obtain ⟨KJ,df⟩:=hd i oi pi hi bM;obtain ⟨KI,Zr⟩:=hd j oj pj hj gD;exact hh.inj i j KJ KI pi pj df Zr bM gD e
  ·rintro b (hb | ⟨id,p,o,h1,rfl,_,_⟩)
   ·exact hh.slt b hb
   ·exact hh.blt id p h1
 ·rintro b (hb | ⟨id,p,o,h1,rfl,h3,_⟩)
  ·exact .inl hb
  ·obtain ⟨o',jQ⟩:=hd id o p h3 h1;exact .inr ⟨id,o',p,jQ,h1,rfl⟩
def RJ {i:Nat} (hh:aU O m S w hp ct) (hi:m i=none) (Gg:i<ct) {g:tu} {p:Pl} (hb:p.b=w.heap.size)
  (hf:∀o,au hp i=some o->(fg O (fE m i p) S (w.alloc g) i o/\¬iF o)\/
   (iF o/\fg O (fE m i p) (fun b=>S b\/b=w.heap.size) (w.alloc g) i o)):
  ∃S',aU O (fE m i p) S' (w.alloc g) hp ct/\(∀b,S b->S' b)/\∀b,S' b->S b\/b=w.heap.size:=by
 have eT:(w.alloc g).heap.size=w.heap.size+1:=by simp
 have bh:O.w0.heap.size<=w.heap.size:=hh.fU;have gen:∀S':Nat->Prop,(∀b,S b->S' b)->(∀b,S' b->S b\/b=w.heap.size)->(∀o,au hp i=some o->fg O (fE m i p) S' (w.alloc g) i o)->aU O (fE m i p) S' (w.alloc g) hp ct:=by
  intro S' h1 h2 h3;have KK:∀id q,m id=some q->¬q.b=w.heap.size:=fun id q hq=>by have:=hh.blt id q hq;omega
  refine ⟨?_,?_,?_,?_,?_,?_,?_,?_,hh.aW⟩
  ·intro id o q ho hm;by_cases hc:id=i
   ·grind
   ·rw [er hc] at hm;refine rG (jt hi) h1 (HR hh g) (fun q' bR=>alloc_old (hh.blt id q' bR)) (fun q' bR hs=>?_) (hh.obj id o q ho hm)
    grind
  ·intro id q hm;by_cases hc:id=i
   ·grind
   ·rw [er hc] at hm;exact hh.lt id q hm
  ·intro a b oa ob pa pb ha cw DI zR e;by_cases ca:a=i
   ·by_cases cb:b=i
    ·grind
    ·subst ca;rw [dS] at DI;rw [er cb] at zR
     grind
   ·rw [er ca] at DI;by_cases cb:b=i
    ·subst cb;rw [dS] at zR
     grind
    ·rw [er cb] at zR;exact hh.inj a b oa ob pa pb ha cw DI zR e
  ·intro b hs;rcases h2 b hs with h | h
   ·have:=hh.slt b h;omega
   ·omega
  ·intro id q hm;by_cases hc:id=i
   ·subst hc;rw [dS] at hm
    grind
   ·rw [er hc] at hm
    have:=hh.blt id q hm
    omega
  ·intro id q hm;by_cases hc:id=i
   ·subst hc;rw [dS] at hm
    grind
   ·rw [er hc] at hm;exact hh.low id q hm
  ·intro b sJ;exact (alloc_old (by omega)).trans (hh.lJ b sJ)
  ·omega
 cases ho:au hp i with
 | none=>exact ⟨S,gen S (fun _ h=>h) (fun _ h=> .inl h) (fun o h=>by rw [ho] at h;cases h),fun _ h=>h,fun _ h=> .inl h⟩
 | some o=>
  rcases hf o ho with ⟨h1,_⟩ | ⟨_,h1⟩
  ·exact ⟨S,gen S (fun _ h=>h) (fun _ h=> .inl h) (fun o' h=>by rw [ho] at h;injection h with h;subst h;exact h1),fun _ h=>h,fun _ h=> .inl h⟩
  ·exact ⟨_,gen (fun b=>S b\/b=w.heap.size) (fun _ h=> .inl h) (fun _ h=>h) (fun o' h=>by rw [ho] at h;injection h with h;subst h;exact h1),fun _ h=> .inl h,fun _ h=>h⟩
def QO {id:Nat} {o o':Obj} {p:Pl} (hl:ji o o') (hm:m id=some p) (h:fg O m S w id o) (hn:¬iF o):
  (fg O m S w id o'/\¬iF o')\/(iF o'/\fg O m (fun b=>S b\/b=p.b) w id o'):=by
 have hS:∀b,S b->(S b\/b=p.b):=fun _ h=> .inl h
 have aO:fK S w w:=fun _ _=>rfl
 cases o with
 | cells rw pu ex sz cs=>
  obtain ⟨rw',rfl,q8⟩:=hl
  cases rw' with
  | true=>
   grind
  | false=>
   refine .inr ⟨rfl,?_⟩;obtain ⟨q,arr,t,h1,h2,h3,h4,h5,h6,h7,h8,h9,iO⟩:=h;rw [hm] at h1;injection h1 with h1
   subst h1;have DH:∀(cs:List AV) (b k:Nat),bU O.af m S w cs b k->bU O.af m (fun b=>S b\/b=p.b) w cs b k:=by
    intro cs
    induction cs with
    | nil=>intro b k _;simp only [bU]
    | cons c cs ih=>
     intro b k hr;obtain ⟨⟨u,g1,g2⟩,g3⟩:=hr;exact ⟨⟨u,g1,lz (fun _ _ h=>h) hS aO _ _ g2⟩,ih b (k+1) g3⟩
   exact ⟨p,arr,t,hm,h2,h3,h4,h5,h6,DH _ _ _ h7,h8,by simp,fun _=> .inr rfl⟩
 | mp rw ks vs=>
  obtain ⟨rw',rfl,q8⟩:=hl
  cases rw' with
  | true=>
   grind
  | false=>
   refine .inr ⟨rfl,?_⟩;obtain ⟨q,es,clock,h1,h2,h3,h4,h5,h6⟩:=h;rw [hm] at h1;injection h1 with h1
   subst h1;exact ⟨p,es,clock,hm,h2,gS (fun _ _ h=>h) hS aO _ _ h3,gS (fun _ _ h=>h) hS aO _ _ h4,by simp,fun _=> .inr rfl⟩
 | si s pos=>simp only [ji] at hl;subst hl;exact .inl ⟨h,hn⟩
 | lp tm ps cM body st pe=>simp only [ji] at hl;subst hl;exact .inl ⟨h,hn⟩
end
end
section
open Go
section
variable {O:bl} {H:Hint} {m:Mp} {S:Nat->Prop} {w:yi} {tm:Env} {a:Act} {hp:Hp} {ct cq:Nat}
def L8 {af:Nat->Nat} {b:Nat} {arr:Array yh} {t:yC} {fr:Nat×Nat} (hb:w.heap[b]? =some (.cells arr t fr)):∀(cs:List AV) (us:List yh) (o:Nat),
  ay af m S w cs us->(∀(j:Nat) (u:yh),us[j]? =some u->arr[o+j]? =some u)->bU af m S w cs b o
 | [],us,o,_,_=>by simp only [bU]
 | c::cs,us,o,h,hu=>by
  simp only [ay] at h;obtain ⟨u,r,rfl,h2,h3⟩:=h;simp only [bU];refine ⟨⟨u,?_,h2⟩,L8 hb cs r (o+1) h3 (fun j v hv=>?_)⟩
  ·have:=hu 0 u (by simp)
   simpa [World.cell?,hb] using this
  ·have:=hu (j+1) v (by simpa using hv)
   rw [show o+1+j=o+(j+1) by omega];exact this
def aty (hh:aU O m S w hp cq) {i:Nat} {arr:Array yh} {t:yC} {cs:List AV} {us:List yh} {pu ex:Bool} {sz:Nat} (hr:ay O.af m S w cs us)
  (hu:∀(j:Nat) (u:yh),us[j]? =some u->arr[j]? =some u) (hl:cs.length<=arr.size) (hex:ex=true->cs.length=arr.size) (iN:pu=true->aG cs=true)
  (m':Mp) (hm:dl m m') (hi:m' i=some ⟨w.heap.size,0,arr.size,sz⟩):fg O m' S (w.alloc (.cells arr t)) i (.cells true pu ex sz cs):=by
 refine ⟨⟨w.heap.size,0,arr.size,sz⟩,arr,t,hi,heap_alloc_new w _,rfl,hl,by simp,hex,?_,iN,?_,by simp⟩
 ·exact L8 (heap_alloc_new w _) cs us 0 (gS hm (fun _ h=>h) (HR hh _) _ _ hr) (by simpa using hu)
 ·intro _ hS
  have:=hh.slt _ hS
  simp at this
def Dc (O:bl) (m:Mp) (S:Nat->Prop) (w:yi) (a:Act) (ct:Nat) (o:yX) (v:AV) (b:Obj):Prop:=
 ∃u g p,(execOp a.eval o).run O.P w= .ok (.value u) (w.alloc g)/\p.b=w.heap.size/\¬iF b/\
  ∀m',dl m m'->m' ct=some p->fg O m' S (w.alloc g) ct b/\ah O.af m' S (w.alloc g) v u
def Re {o:yX} {arr:Array yh} {t:yC} {cs:List AV} {us:List yh} {pu ex:Bool} {sz:Nat} {v:AV} {u:yh} (hh:aU O m S w hp cq)
  (he:(execOp a.eval o).run O.P w= .ok (.value u) (w.alloc (.cells arr t))) (hr:ay O.af m S w cs us)
  (hu:∀(j:Nat) (u:yh),us[j]? =some u->arr[j]? =some u) (hl:cs.length<=arr.size) (hex:ex=true->cs.length=arr.size) (iN:pu=true->aG cs=true)
  (hv:∀m':Mp,m' ct=some ⟨w.heap.size,0,arr.size,sz⟩->ah O.af m' S (w.alloc (.cells arr t)) v u):Dc O m S w a ct o v (.cells true pu ex sz cs):=
 ⟨u,_,⟨w.heap.size,0,arr.size,sz⟩,he,rfl,by simp [iF],fun m' hm hi=>⟨aty hh hr hu hl hex iN m' hm hi,hv m' hi⟩⟩
def adj {o:yX} {t:yC} {x:yh} {vx v:AV} {b:Obj} {sz:Nat} (hh:aU O m S w hp cq) (he:(execOp a.eval o).run O.P w= .ok (.value (.pointer (some ⟨w.heap.size,0,none⟩))) (w.alloc (.cells x.cells t))) (hx:ay O.af m S w (cellsOf vx) x.cells.toList)
  (hv:(bif yv (cellsOf vx).length sz&&cp (cellsOf vx) then some (AV.ptr ct 0,Obj.cells true (aG (cellsOf vx)) true sz (cellsOf vx)) else none)=some (v,b)):Dc O m S w a ct o v b:=by
 cases hc:(yv (cellsOf vx).length sz&&cp (cellsOf vx)) with
 | false=>rw [hc] at hv;cases hv
 | true=>
  rw [hc] at hv;obtain ⟨rfl,rfl⟩:=hv;have hlen:=gU _ _ hx;refine Re hh he hx (fun j u hj=>by simpa using hj) (by rw [<-hlen];simp) (fun _=>by rw [<-hlen];simp) (fun h=>h) (fun m' hi=>?_)
  simp only [ah];exact ⟨_,hi,by simp⟩
def arp {o:yX} {t:yC} {r:Option xu} (hh:aU O m S w hp cq) (ho:o.op= .makeMap t r) (hr:r=none):Dc O m S w a ct o (.map ct) (.mp true [] []):=by
 subst hr;refine ⟨.map (some w.heap.size),.map #[] 0,⟨w.heap.size,0,0,0⟩,by simp [execOp,ho,Instr.makeMap],rfl,by simp [iF],fun m' _ hi=>⟨?_,?_⟩⟩
 ·refine ⟨_,#[],0,hi,heap_alloc_new w _,by simp [ay],by simp [ay],?_,by simp⟩;intro _ hS
  have:=hh.slt _ hS
  simp at this
 ·simp only [ah];exact ⟨_,hi,rfl⟩
def apI {o:yX} {t:yC} {x:xu} {s:List Nat} (hh:aU O m S w hp cq) (ho:o.op= .range t x) (hu:O.P.underlying t=some .string) (hx:ah O.af m S w (.str s) (a.eval x)):
  Dc O m S w a ct o (.it ct) (.si s 0):=by
 obtain ⟨b,e,rfl⟩:=hx;refine ⟨.pointer (some ⟨w.heap.size,0,none⟩),.stringIter b 0,⟨w.heap.size,0,0,0⟩,by simp [execOp,ho,Instr.range,run_underlying hu,e],rfl,by simp [iF],fun m' _ hi=>⟨?_,?_⟩⟩
 ·refine ⟨_,b,hi,heap_alloc_new w _,rfl,?_⟩;intro hS
  have:=hh.slt _ hS
  simp at this
 ·simp only [ah];exact ⟨_,hi,rfl⟩
end
def apJ (zero:Array yh):(xe zero.size).map (fun j=>zero[j]!)=zero.toList:=by
 apply List.ext_getElem
 ·simp
 ·grind
def abx (zero:Array yh):∀n:Nat,(xe (n*zero.size)).map (fun i=>zero[i%zero.size]!)=(yj n zero.toList).flatten
 | 0=>by simp
 | n+1=>by
  rw [wJ,Nat.one_mul,List.range_add,List.map_append,abx zero n,List.replicate_succ',yao]
  congr 1
  simp only [List.map_map,vA,List.flatten_nil,List.append_nil];rw [<-apJ zero];apply List.map_congr_left;intro j hj;simp at hj;simp [Function.comp,xL n,Nat.mod_eq_of_lt hj]
def RL {af:Nat->Nat} {m:Mp} {S:Nat->Prop} {w:yi} {cs:List AV} {us:List yh} (h:ay af m S w cs us):∀n,ay af m S w (yj n cs).flatten (yj n us).flatten
 | 0=>by simp [ay]
 | n+1=>by rw [wo,wo,vA,vA];exact lj h (RL h n)
section
variable {O:bl} {H:Hint} {m:Mp} {S:Nat->Prop} {w:yi} {tm:Env} {a:Act} {hp:Hp} {ct cq:Nat}
def ach (zero:Array yh) (n:Nat):(Array.map (fun i=>zero[i%zero.size]!) (uK (n*zero.size))).toList=(yj n zero.toList).flatten:=by
 rw [<-abx zero n]
 simp
def adk (tm:Env):∀(ps:List (Nat×Nat×X)) (zero cs:List AV),fill tm zero ps=some cs->cs.length=zero.length
 | [],zero,cs,h=>by simp only [fill,yd] at h;rw [h]
 | (o,sz,x)::r,zero,cs,h=>by
  simp only [fill] at h
  cases hc:(yv (cellsOf (aA tm x)).length sz&&yF (o+sz) zero.length&&cp (cellsOf (aA tm x))) with
  | false=>rw [hc] at h;cases h
  | true=>
   rw [hc] at h;simp only [yg] at hc;have h1:=yp hc.1.1;have h2:=yy hc.1.2;rw [adk tm r _ _ h];simp only [over,yG,yE,xT];omega
def Mr {α:Type} (l:List α):∀n,(yj n l).flatten.length=n*l.length
 | 0=>by simp
 | n+1=>by simp [wo,Mr l n,wJ,Nat.add_comm]
def apK {o:yX} {t e:yC} {n s:Nat} {z:AV} {parts:Array (Nat×xu)} {ps:List (Nat×Nat×X)} {v:AV} {b:Obj} (hH:fw O H) (ht:b8 O m S w tm a.tmps) (hh:aU O m S w hp cq)
  (ho:o.op= .buildSlice t n parts) (hu:O.P.underlying t=some (.slice e)) (hs:cF O.P e=some s) (hz:lG O.P e=some z) (hn:n*s<=16777216)
  (iz:partsOf H (fun i=>some (i*s,s)) parts.toList=some ps)
  (hv:cR tm hp ct (.cW n s (yj n (cellsOf z)).flatten ps)=some (v,b)):Dc O m S w a ct o v b:=by
 simp only [cR] at hv
 cases hf:fill tm (yj n (cellsOf z)).flatten ps with
 | none=>simp [hf] at hv
 | some cs=>
  simp only [hf] at hv
  cases hc:yv cs.length (n*s) with
  | false=>rw [hc] at hv;cases hv
  | true=>
   rw [hc] at hv;simp only [yA,yd,yo] at hv;obtain ⟨rfl,rfl⟩:=hv;have hlen:=yp hc;obtain ⟨zv,mG,rfl⟩:=Ew (w:=w) hz;have Am:ay O.af m S w (cellsOf (eK zv)) zv.cells.toList:=Cp zv;have q9:=gU _ _ Am;have Gh:=adk tm ps _ _ hf;rw [Mr] at Gh;have Gi:n*s=n*zv.cells.size:=by
    rw [<-hlen,Gh,<-q9];simp
   have key:∃zr:Array yh,(n*s=0->zr=#[])/\(n*s≠0->zr=zv.cells)/\ay O.af m S w (yj n (cellsOf (eK zv))).flatten ((uK (n*s)).map (fun x=>zr[x%zr.size]!)).toList:=by
    by_cases h0:n*s=0
    ·refine ⟨#[],fun _=>rfl,fun h=>(h h0).elim,?_⟩
     have:(yj n (cellsOf (eK zv))).flatten=[]:=by
      apply yB;rw [Mr,<-q9];simp only [vB];omega
     rw [this];simp [ay,h0]
    ·refine ⟨zv.cells,fun h=>(h0 h).elim,fun _=>rfl,?_⟩;rw [Gi,ach];exact RL Am n
   obtain ⟨zr,KL,nA,dh⟩:=key;obtain ⟨out,h1,h2⟩:=MQ hH ht (place:=fun i=>some (i*s,s)) parts.toList ps _ cs _ iz dh hf;have oE:=gU _ _ h2
   refine Re (arr:=out) (t:=e) (us:=out.toList) hh ?_ h2 (fun j u hj=>by simpa using hj) (by rw [<-oE];simp) (fun _=>by rw [<-oE];simp) (fun h=>h) (u:= .slice (some ⟨w.heap.size,0,none⟩) n n) ?_
   ·have iA:¬(n*s>2^24):=by omega
    by_cases h0:n*s=0
    ·have:=KL h0
     subst this;simp only [h0] at h1;simp [execOp,ho,Instr.buildSlice,run_underlying hu,nM hs,h0,newRow] at h1 ⊢;simp [h1]
    ·have:=nA h0
     subst this;simp [execOp,ho,Instr.buildSlice,run_underlying hu,nM hs,h0,iA,mG,newRow] at h1 ⊢;simp [h1]
   ·intro m' hi;simp only [ah];refine ⟨_,n,hi,by simp,yu _,?_⟩;simp only [ye];rw [<-hlen,<-oE];simp
def Cq:∀{a b:List AV},aG a=true->aG b=true->aG (a++b)=true
 | [],_,_,h=>h
 | c::r,b,h,k=>by
  simp only [aG,yg] at h;simp only [xk,aG,yg];exact ⟨h.1,Cq h.2 k⟩
def aci {z:List AV} (h:aG z=true):∀n,aG (yj n z).flatten=true
 | 0=>by simp [aG]
 | n+1=>by rw [wo,vA];exact Cq h (aci h n)
def arq {o:yX} {t e:yC} {s by':Nat} {z:AV} {l c:xu} {v:AV} {b:Obj} (hH:fw O H) (ht:b8 O m S w tm a.tmps) (hh:aU O m S w hp cq)
  (ho:o.op= .makeSlice t l c) (hu:O.P.underlying t=some (.slice e)) (hs:cF O.P e=some s) (hb:sF O.P e=some by') (hz:lG O.P e=some z)
  (hv:cR tm hp ct (.gO s by' (cellsOf z) (aQ H l) (aQ H c))=some (v,b)):Dc O m S w a ct o v b:=by
 simp only [cR] at hv
 cases hl:dE (aA tm (aQ H l)) with
 | none=>simp [hl] at hv
 | some ln=>
  cases hc:dE (aA tm (aQ H c)) with
  | none=>simp [hl,hc] at hv
  | some cn=>
   simp only [hl,hc] at hv
   cases hk:(yF ln cn&&(yF cn room&&(yF (cn*by') room&&(yv (cellsOf z).length s&&cp (cellsOf z))))) with
   | false=>rw [hk] at hv;cases hv
   | true=>
    rw [hk] at hv;simp only [yA,yd,yo] at hv;obtain ⟨rfl,rfl⟩:=hv;simp only [yg] at hk;have h1:=yy hk.1;have h2:=yy hk.2.1;have h3:=yy hk.2.2.1;have h4:=yp hk.2.2.2.1;simp only [room] at h2 h3;obtain ⟨kl,el⟩:=zn (cy hH ht l) hl;obtain ⟨kc,ec⟩:=zn (cy hH ht c) hc;obtain ⟨zv,mG,rfl⟩:=Ew (w:=w) hz;have Am:ay O.af m S w (cellsOf (eK zv)) zv.cells.toList:=Cp zv;have q9:=gU _ _ Am;have DJ:zv.cells.size=s:=by rw [<-h4,<-q9];simp
    have wrapN:∀k:Nat,k<=1099511627776->IntKind.i64.wrap (k:Int)=k:=fun k hk=>IntWalk.i64_in _ (by omega)
    obtain ⟨ti,rb,eT,Zs⟩:∃ti,O.P.info? e=some ti/\ti.size=s/\ti.bytes=by':=by
     unfold cF at hs;unfold sF at hb
     cases hi:O.P.info? e with
     | none=>simp [hi] at hs
     | some ti=>simp only [hi,yd] at hs hb;exact ⟨ti,rfl,hs,hb⟩
    have Dh:((uK (cn*s)).map (zv.cells[·%zv.cells.size]!)).toList=(yj ln zv.cells.toList).flatten++(yj (cn-ln) zv.cells.toList).flatten:=by
     rw [<-DJ,ach,<-yao,List.replicate_append_replicate]
     grind
    have fZ:(yj ln (cellsOf (eK zv))).flatten.length=ln*s:=by rw [Mr,h4]
    have hmul:ln*s<=cn*s:=yV _ h1
    refine Re (arr:=(uK (cn*s)).map (zv.cells[·%zv.cells.size]!)) (t:=e) (us:=(yj ln zv.cells.toList).flatten) hh (u:= .slice (some ⟨w.heap.size,0,none⟩) ln cn) ?_
     (RL Am ln) ?_ ?_ ?_ (fun h=>?_) ?_
    ·have aIV:by'*cn<=1099511627776:=by rw [xL];exact h3
     have sK:((by'*cn:Nat):Int)<=1099511627776:=by omega
     rw [Int.natCast_mul] at sK;have hlc:(ln:Int)<=(cn:Int):=by omega
     have g1:¬(281474976710656<(by':Int)*(cn:Int)):=by omega
     have g2:¬(((ln:Int)<0)):=by omega
     have g3:¬(((cn:Int)<0)):=by omega
     have g4:¬((ln:Int)>(cn:Int)):=by omega
     by_cases h0:cn*s=0
     ·simp [execOp,ho,Instr.makeSlice,run_underlying hu,el,ec,asInt,asIntOf,typeInfo,rb,Zs,wrapN ln (by omega),wrapN cn h2,g1,g2,g3,g4,nM hs,h0,newRow,askRoom,roomBytes]
      grind
     ·simp [execOp,ho,Instr.makeSlice,run_underlying hu,el,ec,asInt,asIntOf,typeInfo,rb,Zs,wrapN ln (by omega),wrapN cn h2,g1,g2,g3,g4,nM hs,h0,newRow,askRoom,roomBytes,mG]
    ·intro j u hj
     have:((uK (cn*s)).map (zv.cells[·%zv.cells.size]!)).toList[j]? =some u:=by
      grind
     grind
    ·grind
    ·simp_all
    ·exact aci h ln
    ·intro m' hi;simp only [ah];refine ⟨_,cn,hi,by simp,h1,?_⟩
     simp
def atz {o:yX} {k:Nat} {v:AV} {b:Obj} (hH:fw O H) (ht:b8 O m S w tm a.tmps) (hh:aU O m S w hp cq)
  (hv:cR tm hp ct (aX O.P H k o)=some (v,b)):Dc O m S w a ct o v b:=by
 cases ho:o.op with
 | call c=>
  obtain ⟨callee,args,ts⟩:=c;simp only [aX,ho] at hv
  repeat' split at hv
  all_goals first
   | (simp [cR,bad] at hv;done)
   | (revert hv;generalize yv _ _=bb;intro hv;cases bb<;>simp [cR,bad] at hv)
 | alloc t=>
  simp only [aX,ho] at hv
  split at hv
  ·rename_i s z hs hz;obtain ⟨zv,mG,rfl⟩:=Ew (w:=w) hz
   exact adj (x:=zv) (t:=t) hh (by simp [execOp,ho,Instr.alloc,mG,newVar,newRow]) (Cp zv) (by simpa only [cR,aA] using hv)
  ·simp [cR,bad] at hv
 | box t x=>
  simp only [aX,ho] at hv
  split at hv
  ·rename_i s hs;simp only [cR] at hv
   cases hc:(yv (cellsOf (aA tm (aQ H x))).length s&&cp (cellsOf (aA tm (aQ H x)))) with
   | false=>rw [hc] at hv;cases hv
   | true=>
    have h1:=hc;simp only [yg] at h1
    exact adj (x:=a.eval x) (t:=t) hh (by simp [execOp,ho,Instr.box,newVar,newRow]) (Rc (cy hH ht x) h1.2) hv
  ·simp [cR,bad] at hv
 | buildSlice t n parts=>
  simp only [aX,ho] at hv
  split at hv
  ·rename_i e hu
   split at hv
   ·rename_i s z hs hz
    cases hc:yF (n*s) 16777216 with
    | false=>rw [hc] at hv;simp [cR,bad] at hv
    | true=>
     rw [hc] at hv;simp only [yA] at hv
     split at hv
     ·rename_i ps iz;exact apK hH ht hh ho hu hs hz (yy hc) iz hv
     ·simp [cR,bad] at hv
   ·simp [cR,bad] at hv
  ·simp [cR,bad] at hv
 | makeSlice t l c=>
  simp only [aX,ho] at hv
  split at hv
  ·rename_i e hu
   split at hv
   ·rename_i s by' z hs hb hz
    exact arq hH ht hh ho hu hs hb hz hv
   ·simp [cR,bad] at hv
  ·simp [cR,bad] at hv
 | makeMap t r=>
  cases r with
  | some x=>simp [aX,ho,cR,bad] at hv
  | none=>
   simp only [aX,ho] at hv
   repeat' split at hv
   all_goals first
    | (simp [cR,bad] at hv;done)
    | (
      simp only [cR,yd,yo] at hv;obtain ⟨rfl,rfl⟩:=hv
      exact arp hh ho rfl)
 | range t x=>
  simp only [aX,ho] at hv
  split at hv
  ·rename_i hu;simp only [cR] at hv;have rx:=cy hH ht x;cases hx:aA tm (aQ H x)<;>rw [hx] at hv rx<;>simp only [reduceCtorEq] at hv
   simp only [yd,yo] at hv;obtain ⟨rfl,rfl⟩:=hv;exact apI hh ho hu rx
  ·simp [cR,bad] at hv
 | next x b=>cases b<;>simp [aX,ho,cR,bad] at hv
 | binOp op t x y ty=>
  cases op<;>simp only [aX,ho,nT,pg] at hv
  case eql=>
        repeat' split at hv
        all_goals first
         | (simp [cR,bad] at hv;done)
         | (cases hb:(O.P.stoodInHeld t||O.P.eqGuardType O.P.depth t)<;>rw [hb] at hv<;>simp [cR,bad] at hv)
  case neq=>
        repeat' split at hv
        all_goals first
         | (simp [cR,bad] at hv;done)
         | (cases hb:(O.P.stoodInHeld t||O.P.eqGuardType O.P.depth t)<;>rw [hb] at hv<;>simp [cR,bad] at hv)
  all_goals simp [cR] at hv
 | _=>
  simp only [aX,ho] at hv
  (repeat' split at hv)
  all_goals first
   | contradiction
   | (simp [cR,bad] at hv;done)
end
end
section
open Go
def rH {hp:Hp} {id i:Nat} {o:Obj}:au (a7 hp id o) i=if id=i then (if (au hp id).isSome then some o else none) else au hp i:=by
 induction hp with
 | nil=>simp [a7,au]
 | cons x r ih=>
  obtain ⟨j,q⟩:=x;simp only [a7];by_cases hj:j=id
  ·subst hj;simp only [wW,yA,au];by_cases hi:j=i
   ·simp_all
   ·have:yv j i=false:=by
     cases hq:yv j i with
     | false=>rfl
     | true=>exact absurd (yp hq) hi
    grind
  ·have hb:yv j id=false:=by
    cases hq:yv j id with
    | false=>rfl
    | true=>exact absurd (yp hq) hj
   simp only [hb,yT];rw [show au ((j,q)::a7 r id o) i=bif yv j i then some q else au (a7 r id o) i from rfl,ih];by_cases hi:j=i
   ·subst hi
    have:¬id=j:=fun h=>hj h.symm
    simp [wW,this,au]
   ·have sK:yv j i=false:=by
     cases hq:yv j i with
     | false=>rfl
     | true=>exact absurd (yp hq) hi
    simp [sK,au,hb]
def jZ (hp aj:Hp):Prop:=∀id,(au aj id).isSome=(au hp id).isSome
def jZ.refl {hp:Hp}:jZ hp hp:=fun _=>rfl
def jZ.trans {a b c:Hp} (h:jZ a b) (k:jZ b c):jZ a c:=fun id=>(k id).trans (h id)
def Sg {hp:Hp} {id:Nat} {o o':Obj} (h:au hp id=some o) (hl:ji o o'):cZ hp (a7 hp id o')/\jZ hp (a7 hp id o'):=by
 constructor
 ·intro i q hq;rw [rH];by_cases hi:id=i
  ·grind
  ·exact ⟨q,by simp [hi,hq],ji.refl q⟩
 ·intro i;rw [rH]
  grind
def acj {hp H:Hp} {id:Nat} {pu ex:Bool} {sz:Nat} {cs:List AV} (hl:cZ hp H) (h:au hp id=some (.cells false pu ex sz cs)):au H id=some (.cells false pu ex sz cs):=by
 obtain ⟨o',h1,rw',rfl,h2⟩:=hl id _ h
 cases rw' with
 | false=>exact h1
 | true=>exact absurd (h2 rfl) (by simp)
section
variable {O:bl}
def azN (O:bl) (m:Mp) (S:Nat->Prop) (w:yi) (p:Pl) (ex:Bool) (sz:Nat) (cs:List AV):Prop:=
 p.z=sz/\cs.length<=p.e/\(ex=true->cs.length=p.e)/\S p.b/\aG cs=true/\bU O.af m S w cs p.b p.o
def TQ (O:bl) (aj:Hp) (v v':AV):Prop:=∀H m S w ct,cZ aj H->aU O m S w H ct->(∀u,ah O.af m S w v u->ah O.af m S w v' u)/\bg v'=true
def ajR (O:bl) (aj:Hp) (vs ej:List AV):Prop:=∀H m S w ct,cZ aj H->aU O m S w H ct->(∀us,ay O.af m S w vs us->ay O.af m S w ej us)/\aG ej=true
def aBm (O:bl) (aj:Hp) (id:Nat) (ex:Bool) (sz:Nat) (cs:List AV):Prop:=∀H m S w ct,cZ aj H->aU O m S w H ct->∀p,m id=some p->azN O m S w p ex sz cs
def Et {af:Nat->Nat} {m:Mp} {S:Nat->Prop} {w:yi} {b:Nat}:∀(cs:List AV) (us:List yh) (o:Nat),ay af m S w cs us->
  (∀(j:Nat) (u:yh),us[j]? =some u->w.cell? ⟨b,o+j,none⟩=some u)->bU af m S w cs b o
 | [],us,o,_,_=>by simp only [bU]
 | c::cs,us,o,h,hu=>by
  obtain ⟨u,r,rfl,h2,h3⟩:=h;refine ⟨⟨u,by simpa using hu 0 u (by simp),h2⟩,Et cs r (o+1) h3 (fun j v hv=>?_)⟩;rw [show o+1+j=o+(j+1) by omega]
  simp_all
def azO {m:Mp} {S:Nat->Prop} {w:yi} {cs dG:List AV} (h:∀us,ay O.af m S w cs us->ay O.af m S w dG us) {b o:Nat} (hr:bU O.af m S w cs b o):bU O.af m S w dG b o:=by
 obtain ⟨us,h1,_,h3⟩:=rD cs b o hr;exact Et dG us o (h us h1) h3
def AG:∀(k:Nat) {cs:List AV},aG cs=true->aG (cs.take k)=true
 | 0,_,_=>by simp [aG]
 | k+1,[],_=>by simp [aG]
 | k+1,c::cs,h=>by
  simp only [aG,yg,wD] at h ⊢;exact ⟨h.1,AG k h.2⟩
def ars {aj:Hp} {vs ej:List AV}:∀{n:Nat} {hp:Hp},cB n hp vs=some (ej,aj)->ej.length=vs.length:=by
 intro n
 induction n generalizing vs ej aj with
 | zero=>intro hp h;simp [cB] at h
 | succ n ih=>
  intro hp h
  cases vs with
  | nil=>simp only [cB,yd,yo] at h;rw [<-h.1]
  | cons v r=>
   simp only [cB] at h
   cases h1:freeze n hp v with
   | none=>simp [h1] at h
   | some q=>
    obtain ⟨v',bc⟩:=q;simp only [h1] at h
    cases h2:cB n bc r with
    | none=>simp [h2] at h
    | some q2=>
     grind
def aby:∀n:Nat,
  (∀hp v v' aj,freeze n hp v=some (v',aj)->cZ hp aj/\jZ hp aj/\TQ O aj v v')/\
  (∀hp id ex sz cs aj,nN n hp id=some (ex,sz,cs,aj)->cZ hp aj/\jZ hp aj/\aBm O aj id ex sz cs)/\
  (∀hp vs ej aj,cB n hp vs=some (ej,aj)->cZ hp aj/\jZ hp aj/\ajR O aj vs ej):=by
 intro n
 induction n with
 | zero=>refine ⟨?_,?_,?_⟩<;>intros<;>simp_all [freeze,nN,cB]
 | succ n ih=>
  obtain ⟨ihV,ihB,Gj⟩:=ih;refine ⟨?_,?_,?_⟩
  ·intro hp v v' aj h;have plain:∀{v v':AV} {hp aj:Hp},(bif bg v then some (v,hp) else none)=some (v',aj)->cZ hp aj/\jZ hp aj/\TQ O aj v v':=by
    intro v v' hp aj h
    cases hc:bg v with
    | false=>rw [hc] at h;cases h
    | true=>
     rw [hc] at h;simp only [yA,yd,yo] at h;obtain ⟨rfl,rfl⟩:=h;exact ⟨cZ.refl,jZ.refl,fun _ _ _ _ _ _ _=>⟨fun _ h=>h,hc⟩⟩
   cases v<;>simp only [freeze] at h<;>first | exact plain h | skip
   case ao id o k=>
    cases hb:nN n hp id with
    | none=>simp [hb] at h
    | some q=>
     obtain ⟨ex,sz,cs,bc⟩:=q;simp only [hb] at h
     cases hc:yF (o+k*sz) cs.length with
     | false=>rw [hc] at h;cases h
     | true=>
      rw [hc] at h;simp only [yA,yd,yo] at h;obtain ⟨rfl,rfl⟩:=h;have hle:=yy hc;obtain ⟨h1,h2,h3⟩:=ihB _ _ _ _ _ _ hb;refine ⟨h1,h2,fun H m S w ct hl hh=>⟨fun u hu=>?_,by simp only [bg]⟩⟩;simp only [ah] at hu ⊢;obtain ⟨p,c,hm,rfl,mH,PK⟩:=hu;obtain ⟨g1,g2,g3,g4,g5,g6⟩:=h3 H m S w ct hl hh p hm;refine .inl ⟨p.b,p.o+o,c,rfl,mH,?_,.inr g4,AG _ (zc _ _ g5),AJ _ _ _ _ (qw _ _ _ _ g6)⟩;intro hx;simp only [yg] at hx;have e1:=yp hx.2;have e2:0<sz:=by
       simp_all
      have e3:=g3 hx.1.1;rw [g1] at PK
      have:c*sz=k*sz:=by omega
      exact Nat.eq_of_mul_eq_mul_right e2 this
   case ptr id o=>
    cases hb:nN n hp id with
    | none=>simp [hb] at h
    | some q=>
     obtain ⟨ex,sz,cs,bc⟩:=q;simp only [hb,yd,yo] at h;obtain ⟨rfl,rfl⟩:=h;obtain ⟨h1,h2,h3⟩:=ihB _ _ _ _ _ _ hb;refine ⟨h1,h2,fun H m S w ct hl hh=>⟨fun u hu=>?_,by simp only [bg]⟩⟩;simp only [ah] at hu ⊢;obtain ⟨p,hm,rfl⟩:=hu;obtain ⟨g1,g2,g3,g4,g5,g6⟩:=h3 H m S w ct hl hh p hm;exact ⟨p.b,p.o+o,rfl,.inr g4,zc _ _ g5,qw _ _ _ _ g6⟩
   case map id=>
    cases hg:au hp id with
    | none=>simp [hg] at h
    | some ob=>
     cases ob<;>simp only [hg,reduceCtorEq] at h
     rename_i rw ks vs
     cases hc:(aG ks&&aG vs) with
     | false=>rw [hc] at h;cases h
     | true=>
      rw [hc] at h;simp only [yA,yd,yo] at h;obtain ⟨rfl,rfl⟩:=h;simp only [yg] at hc;obtain ⟨h1,h2⟩:=Sg hg (o':= .mp false ks vs) ⟨false,rfl,by simp⟩;refine ⟨h1,h2,fun H m S w ct hl hh=>⟨fun u hu=>?_,by simp only [bg]⟩⟩;simp only [ah] at hu ⊢;obtain ⟨p,hm,rfl⟩:=hu;have hq:au (a7 hp id (.mp false ks vs)) id=some (.mp false ks vs):=by rw [rH];simp [hg]
      obtain ⟨o',h3,rw',rfl,h4⟩:=hl id _ hq;have q8:rw'=false:=by cases rw' with | false=>rfl | true=>exact absurd (h4 rfl) (by simp)
      subst q8;obtain ⟨p',es,clock,g1,g2,g3,g4,g5,g6⟩:=hh.obj id _ _ h3 hm;rw [hm] at g1;injection g1 with g1
      subst g1;exact ⟨p.b,es,clock,rfl,g6 rfl,hc.1,hc.2,g2,g3,g4⟩
   case fn f first cap=>
    cases f with
    | y l=>simp only [bg,yT,reduceCtorEq] at h
    | f g=>
     simp only at h
     cases h1:cB n hp first with
     | none=>simp [h1] at h
     | some q=>
      obtain ⟨ahL,bc⟩:=q;simp only [h1] at h
      cases h2:cB n bc cap with
      | none=>simp [h2] at h
      | some q2=>
       obtain ⟨NS,fX⟩:=q2;simp only [h2,yd,yo] at h;obtain ⟨rfl,rfl⟩:=h;obtain ⟨a1,a2,a3⟩:=Gj _ _ _ _ h1;obtain ⟨b1,b2,b3⟩:=Gj _ _ _ _ h2;refine ⟨a1.trans b1,a2.trans b2,fun H m S w ct hl hh=>?_⟩;obtain ⟨c1,c2⟩:=a3 H m S w ct (b1.trans hl) hh;obtain ⟨d1,d2⟩:=b3 H m S w ct hl hh;refine ⟨fun u hu=>?_,by simp [bg,c2,d2]⟩;simp only [ah] at hu ⊢;obtain ⟨fi,ca,rfl,e1,e2⟩:=hu;exact ⟨fi,ca,rfl,c1 _ e1,d1 _ e2⟩
   case agg cs=>
    cases h1:cB n hp cs with
    | none=>simp [h1] at h
    | some q=>
     obtain ⟨dG,bc⟩:=q;simp only [h1,yd,yo] at h;obtain ⟨rfl,rfl⟩:=h;obtain ⟨a1,a2,a3⟩:=Gj _ _ _ _ h1;refine ⟨a1,a2,fun H m S w ct hl hh=>?_⟩;obtain ⟨c1,c2⟩:=a3 H m S w ct hl hh;refine ⟨fun u hu=>?_,by simpa [bg] using c2⟩;simp only [ah] at hu ⊢;obtain ⟨xs,rfl,e1⟩:=hu;exact ⟨xs,rfl,c1 _ e1⟩
   case ae cs=>
    cases h1:cB n hp cs with
    | none=>simp [h1] at h
    | some q=>
     obtain ⟨dG,bc⟩:=q;simp only [h1,yd,yo] at h;obtain ⟨rfl,rfl⟩:=h;obtain ⟨a1,a2,a3⟩:=Gj _ _ _ _ h1;refine ⟨a1,a2,fun H m S w ct hl hh=>?_⟩;obtain ⟨c1,c2⟩:=a3 H m S w ct hl hh;refine ⟨fun u hu=>?_,by simpa [bg] using c2⟩;simp only [ah] at hu ⊢;obtain ⟨xs,rfl,e1⟩:=hu;exact ⟨xs,rfl,c1 _ e1⟩
  ·intro hp id ex sz dG aj h;simp only [nN] at h
   cases hg:au hp id with
   | none=>simp [hg] at h
   | some ob=>
    cases ob<;>simp only [hg,reduceCtorEq] at h
    rename_i rw pu sG BS cs
    cases pu with
    | true=>
     simp only [yA,yd,yo] at h;obtain ⟨rfl,rfl,rfl,rfl⟩:=h;have hq:cZ hp (bif rw then a7 hp id (.cells false true sG BS cs) else hp)/\jZ hp (bif rw then a7 hp id (.cells false true sG BS cs) else hp)/\au (bif rw then a7 hp id (.cells false true sG BS cs) else hp) id=some (.cells false true sG BS cs):=by
      cases rw with
      | true=>
       obtain ⟨h1,h2⟩:=Sg hg (o':= .cells false true sG BS cs) ⟨false,rfl,by simp⟩;exact ⟨h1,h2,by simp [rH,hg]⟩
      | false=>exact ⟨cZ.refl,jZ.refl,hg⟩
     refine ⟨hq.1,hq.2.1,fun H m S w ct hl hh p hm=>?_⟩;obtain ⟨p',arr,t,g1,g2,g3,g4,g5,g6,g7,g8,g9,g10⟩:=hh.obj id _ _ (acj hl hq.2.2) hm;rw [hm] at g1;injection g1 with g1
     subst g1;exact ⟨g3,g4,g6,g10 rfl,g8 rfl,g7⟩
    | false=>
     simp only [yT] at h
     cases h1:cB n hp cs with
     | none=>simp [h1] at h
     | some q=>
      obtain ⟨sL,bc⟩:=q;simp only [h1,yd,yo] at h;obtain ⟨rfl,rfl,rfl,rfl⟩:=h;obtain ⟨a1,a2,a3⟩:=Gj _ _ _ _ h1;obtain ⟨o1,iB,rw1,rfl,_⟩:=a1 id _ hg;obtain ⟨b1,b2⟩:=Sg iB (o':= .cells false false sG BS cs) ⟨false,rfl,by simp⟩;refine ⟨a1.trans b1,a2.trans b2,fun H m S w ct hl hh p hm=>?_⟩;have hq:au (a7 bc id (.cells false false sG BS cs)) id=some (.cells false false sG BS cs):=by simp [rH,iB]
      obtain ⟨p',arr,t,g1,g2,g3,g4,g5,g6,g7,g8,g9,g10⟩:=hh.obj id _ _ (acj hl hq) hm;rw [hm] at g1;injection g1 with g1
      subst g1;obtain ⟨c1,c2⟩:=a3 H m S w ct (b1.trans hl) hh;have hlen:=ars h1
      exact ⟨g3,by omega,fun hx=>by have:=g6 hx;omega,g10 rfl,c2,azO c1 g7⟩
  ·intro hp vs ej aj h
   cases vs with
   | nil=>
    simp only [cB,yd,yo] at h;obtain ⟨rfl,rfl⟩:=h;exact ⟨cZ.refl,jZ.refl,fun _ _ _ _ _ _ _=>⟨fun _ h=>h,rfl⟩⟩
   | cons v r=>
    simp only [cB] at h
    cases h1:freeze n hp v with
    | none=>simp [h1] at h
    | some q=>
     obtain ⟨v1,bc⟩:=q;simp only [h1] at h
     cases h2:cB n bc r with
     | none=>simp [h2] at h
     | some q2=>
      obtain ⟨r1,fX⟩:=q2;simp only [h2,yd,yo] at h;obtain ⟨rfl,rfl⟩:=h;obtain ⟨a1,a2,a3⟩:=ihV _ _ _ _ h1;obtain ⟨b1,b2,b3⟩:=Gj _ _ _ _ h2;refine ⟨a1.trans b1,a2.trans b2,fun H m S w ct hl hh=>?_⟩;obtain ⟨c1,c2⟩:=a3 H m S w ct (b1.trans hl) hh;obtain ⟨d1,d2⟩:=b3 H m S w ct hl hh;refine ⟨fun us hu=>?_,by simp [aG,c2,d2]⟩;simp only [ay] at hu ⊢;obtain ⟨u,t,rfl,e1,e2⟩:=hu;exact ⟨u,t,rfl,c1 _ e1,d1 _ e2⟩
def QX {n:Nat} {hp aj:Hp} {vs ej:List AV} (h:cB n hp vs=some (ej,aj)):cZ hp aj/\jZ hp aj/\ajR O aj vs ej:=(aby n).2.2 _ _ _ _ h
def Rg {n:Nat} {hp aj:Hp} {v v':AV} (h:freeze n hp v=some (v',aj)):cZ hp aj/\jZ hp aj/\TQ O aj v v':=(aby n).1 _ _ _ _ h
end
end
section
open Go
section
variable {O:bl} {H:Hint} {m:Mp} {S:Nat->Prop} {w:yi} {tm:Env} {a:Act} {hp:Hp} {ct:Nat}
structure One (w w':yi) (g:Nat):Prop where
 os:w'.os=w.os
 tape:w'.tape=w.tape
 output:w'.output=w.output
 size:w'.heap.size=w.heap.size
 other:∀b,b≠g->w'.heap[b]? =w.heap[b]?
def QY (w:yi) (g:Nat) (cs:Array yh):One w (w.setRow g cs) g:=
 ⟨rfl,rfl,rfl,by simp,fun b hb=>setRow_other w g b cs hb⟩
def IB {id:Nat} {o:Obj} {p:Pl} (h:au hp id=some o) (hm:m id=some p):ek m hp p.b:=⟨id,o,p,h,hm,rfl⟩
def art {id:Nat} {o':Obj} {b:Nat} (h:ek m (a7 hp id o') b):ek m hp b:=by
 obtain ⟨i,o,p,h1,h2,h3⟩:=h;rw [rH] at h1;by_cases hi:id=i
 ·subst hi
  cases hq:au hp id with
  | none=>simp [hq] at h1
  | some q=>exact ⟨id,q,p,hq,h2,h3⟩
 ·simp only [hi,xg] at h1;exact ⟨i,o,p,h1,h2,h3⟩
def Ib (hh:aU O m S w hp ct) {id:Nat} {o o':Obj} {p:Pl} {w':yi} (ho:au hp id=some o) (hm:m id=some p) (hn:¬S p.b) (hw:One w w' p.b) (h':fg O m S w' id o') (hk:∀r:uR,w.heap[p.b]? =some (.loop r)->∃r':uR,w'.heap[p.b]? =some (.loop r')):
  aU O m S w' (a7 hp id o') ct/\ck m S w hp m S w' (a7 hp id o') ct:=by
 have aO:fK S w w':=fun b hb=>hw.other b (fun e=>hn (e▸hb))
 refine ⟨⟨?_,hh.lt,?_,?_,?_,hh.low,?_,?_,fun i q hq=>(by
  rw [rH] at hq;by_cases hc:id=i
  ·subst hc;exact hh.aW _ _ ho
  ·simp only [hc,xg] at hq;exact hh.aW _ _ hq)⟩,⟨hw.os,hw.tape,hw.output,by rw [hw.size];exact yu _,?_,fun _ h=>h,fun b hb=>aO b hb,fun b hb=> .inl hb,fun b hb=> .inl (art hb),fun _ _ _ h=>h,fun b r hb=>?_⟩⟩
 rotate_right
 ·by_cases hc:b=p.b
  ·subst hc;exact hk r hb
  ·exact ⟨r,(hw.other b hc).trans hb⟩
 ·intro i q pi hi bM;rw [rH] at hi;by_cases hc:id=i
  ·subst hc;simp only [xE,ho,Option.isSome_some] at hi;injection hi with hi
   subst hi;exact h'
  ·simp only [hc,xg] at hi;refine rG (fun _ _ h=>h) (fun _ h=>h) aO (fun q' bR=>?_) (fun _ _ h=>h) (hh.obj i q pi hi bM);exact hw.other _ (fun e=>hc (hh.inj i id q o q' p hi ho bR hm e).symm)
 ·intro i j oi oj pi pj hi hj bM gD e;have key:∀{i:Nat} {oi:Obj},au (a7 hp id o') i=some oi->∃KJ,au hp i=some KJ:=by
   intro i oi hi;rw [rH] at hi;by_cases hc:id=i
   ·subst hc;exact ⟨o,ho⟩
   ·simp only [hc,xg] at hi;exact ⟨oi,hi⟩
  obtain ⟨KJ,df⟩:=key hi;obtain ⟨KI,Zr⟩:=key hj;exact hh.inj i j KJ KI pi pj df Zr bM gD e
 ·intro b hb;rw [hw.size];exact hh.slt b hb
 ·intro i q hq;rw [hw.size];exact hh.blt i q hq
 ·intro b hb
  rw [hw.other b (fun e=>by have:=hh.low id p hm;omega)];exact hh.lJ b hb
 ·rw [hw.size];exact hh.fU
 ·intro b _ hb;exact hw.other b (fun e=>hb (e▸IB ho hm))
def zG (O:bl) (m:Mp) (S:Nat->Prop) (w:yi) (a:Act) (hp:Hp) (ct:Nat) (o:yX) (v:AV) (aj:Hp) (aM:Nat):Prop:=
 ∃n u w' m' S',(execOp a.eval o).run O.P w= .ok n w'/\(n= .value u\/(n= .skip/\u=undef))/\aU O m' S' w' aj aM/\ah O.af m' S' w' v u/\dl m m'/\ck m S w hp m' S' w' aj ct
def aru {af:Nat->Nat} {v:AV} {u:yh} (h:ah af m S w v u) (ho:dt v=true):u.oneCell'=true:=by
 cases v with
 | fn f a b=>
  cases f with
  | f g=>simp only [ah] at h;obtain ⟨_,_,rfl,_⟩:=h;rfl
  | y l=>simp only [ah] at h;obtain ⟨_,_,rfl⟩:=h;rfl
 | int k n=>simp only [ah] at h;subst h;rfl
 | bool b=>simp only [ah] at h;subst h;rfl
 | bQ k n=>simp only [ah] at h;subst h;rfl
 | str s=>simp only [ah] at h;obtain ⟨_,rfl,_⟩:=h;rfl
 | kQ=>simp only [ah] at h;subst h;rfl
 | ptr i k=>simp only [ah] at h;obtain ⟨_,_,rfl⟩:=h;rfl
 | b6 cs=>simp only [ah] at h;obtain ⟨_,_,rfl,_⟩:=h;rfl
 | aa=>simp only [ah] at h;subst h;rfl
 | aw e n cs=>simp only [ah] at h;rcases h with ⟨_,_,_,rfl,_⟩ | ⟨_,rfl,_,_⟩<;>rfl
 | bn _ _ _ _=>simp [dt] at ho
 | ao i k n=>simp only [ah] at h;obtain ⟨_,_,_,rfl,_⟩:=h;rfl
 | jb=>simp only [ah] at h;subst h;rfl
 | km=>simp only [ah] at h;subst h;rfl
 | map i=>simp only [ah] at h;obtain ⟨_,_,rfl⟩:=h;rfl
 | jy ks vs=>simp only [ah] at h;obtain ⟨_,_,_,rfl,_⟩:=h;rfl
 | it i=>simp only [ah] at h;obtain ⟨_,_,rfl⟩:=h;rfl
 | agg cs=>simp [dt] at ho
 | ae cs=>simp [dt] at ho
 | undef=>simp [dt] at ho
def L9 {af:Nat->Nat}:∀{vs:List AV} {us:List yh},ay af m S w vs us->cp vs=true->∀u∈us,u.oneCell'=true
 | [],us,h,_,u,hu=>by simp only [ay] at h;subst h;cases hu
 | v::r,us,h,ho,u,hu=>by
  obtain ⟨u',t,rfl,h1,h2⟩:=h;simp only [cp,yg] at ho;rcases List.mem_cons.1 hu with rfl | hu
  ·exact aru h1 ho.1
  ·exact L9 h2 ho.2 u hu
def adl {arr:Array yh} {t:yC} {p:Pl} {cs new:List AV} {vs:List yh} {o:Nat} {S':Nat->Prop} {m':Mp} (hb:w.heap[p.b]? =some (.cells arr t (0,0))) (hr:bU O.af m S w cs p.b p.o)
  (hv:ay O.af m S w new vs) (hl:o+new.length<=cs.length) (hs:p.o+cs.length<=arr.size) {w':yi} (hm:dl m m') (hS:∀b,S b->S' b) (aO:fK S w w')
  (hw:w'.heap[p.b]? =some (.cells (arr.toList.take (p.o+o)++vs++arr.toList.drop (p.o+o+vs.length)).toArray t (0,0))):bU O.af m' S' w' (over o new cs) p.b p.o:=by
 obtain ⟨us,h1,h2,h3⟩:=rD cs p.b p.o hr;have hvl:=gU _ _ hv;have h4:ay O.af m S w (over o new cs) (us.take o++vs++us.drop (o+new.length)):=lj (lj (Eo o h1) hv) (HZ _ h1);refine Et _ _ _ (gS hm hS aO _ _ h4) (fun j u hj=>?_);have zH:∀k u,us[k]? =some u->arr[p.o+k]? =some u:=by
  intro k u hk
  have:=h3 k u hk
  simpa [World.cell?,hb] using this
 simp only [World.cell?,hw,yai,yI,xg];rw [yad];have e1:(arr.toList.take (p.o+o)).length=p.o+o:=by rw [yE,vB];omega
 have e2:(us.take o).length=o:=by rw [yE];omega
 by_cases c1:j<o
 ·have g1:(us.take o++vs++us.drop (o+new.length))[j]? =us[j]? :=by
   rw [xy,wu (by omega),uv c1]
  rw [g1] at hj;rw [xy,wu (by omega),uv (by omega)];simpa using zH j u hj
 ·by_cases c2:j<o+vs.length
  ·have g1:(us.take o++vs++us.drop (o+new.length))[j]? =vs[j-o]? :=by
    rw [xy,xP (by omega),e2,wu (by omega)]
   rw [g1] at hj;rw [xy,xP (by omega),e1,wu (by omega),show p.o+j-(p.o+o)=j-o by omega];exact hj
  ·have g1:(us.take o++vs++us.drop (o+new.length))[j]? =us[j]? :=by
    rw [xy,xP (by omega),e2,xP (by omega),yaw]
    congr 1
    omega
   rw [g1] at hj;rw [xy,xP (by omega),e1,xP (by omega),yaw,show p.o+o+vs.length+(p.o+j-(p.o+o)-vs.length)=p.o+j by omega];simpa using zH j u hj
def Ms {o:Nat} {new cs:List AV} (hl:o+new.length<=cs.length):(over o new cs).length=cs.length:=by
 simp only [over,yG,yE,xT];omega
def abz {o:Nat} {new cs:List AV} (h:aG cs=true) (h':aG new=true):aG (over o new cs)=true:=
 Cq (Cq (AG _ h) h') (zc _ _ h)
def atA {o:yX} {t:yC} {x y:xu} {sz:Nat} {v:AV} {aj:Hp} {aM:Nat} (hH:fw O H) (ht:b8 O m S w tm a.tmps) (hh:aU O m S w hp ct)
  (ho:o.op= .store t x y) (hz:cF O.P t=some sz) (hv:cI tm hp ct (.st sz (aQ H x) (aQ H y))=some (v,aj,aM)):zG O m S w a hp ct o v aj aM:=by
 simp only [cI] at hv;have rx:=cy hH ht x;cases hx:aA tm (aQ H x)<;>rw [hx] at hv rx<;>simp only [reduceCtorEq] at hv
 rename_i id k;simp only [ah] at rx;obtain ⟨p,hm,ex⟩:=rx
 split at hv
 case h_2=>cases hv
 rename_i pu PM z cs hg
 cases hc:(yv (cellsOf (aA tm (aQ H y))).length sz&&yF (k+sz) cs.length&&cp (cellsOf (aA tm (aQ H y)))) with
 | false=>rw [hc] at hv;cases hv
 | true=>
  rw [hc] at hv;simp only [yA,yd,yo] at hv;obtain ⟨rfl,rfl,rfl⟩:=hv;simp only [yg] at hc;have c1:=yp hc.1.1;have c2:=yy hc.1.2;have ry:=Rc (cy hH ht y) hc.2;have hl:=gU _ _ ry;obtain ⟨p',arr,t',g1,g2,g3,g4,g5,g6,g7,g8,g9,g10⟩:=hh.obj id _ _ hg hm;rw [hm] at g1;injection g1 with g1
  subst g1;have eh:=L9 ry hc.2;have fD:=run_storeCells_at O.P p.b (p.o+k) t' (a.eval y).cells.toList 0 arr w g2 (by rw [hl];omega) eh;simp only [yY] at fD;have azP:(a.eval y).cells.size=sz:=by simp_all
  have oF:fg O m S (w.setRow p.b (arr.toList.take (p.o+k)++(a.eval y).cells.toList++arr.toList.drop (p.o+k+(a.eval y).cells.toList.length)).toArray) id
    (.cells true (pu&&aG (cellsOf (aA tm (aQ H y)))) PM z (over k (cellsOf (aA tm (aQ H y))) cs)):=by
   refine ⟨p,_,t',hm,setRow_heap w p.b arr _ t' _ g2,g3,by rw [Ms (by omega)];exact g4,?_,fun h=>by rw [Ms (by omega)];exact g6 h,?_,?_,fun _=>g9 rfl,by simp⟩
   ·grind
   ·exact adl g2 g7 ry (by omega) (by omega) dl.refl (fun _ h=>h) (fun b hb=>setRow_other w p.b b _ (fun e=>g9 rfl (e▸hb))) (setRow_heap w p.b arr _ t' _ g2)
   ·intro h;simp only [yg] at h;exact abz (g8 h.1) h.2
  obtain ⟨e1,e2⟩:=Ib hh hg hm (g9 rfl) (QY w p.b _) oF (fun r hr=>by rw [g2] at hr;cases hr);refine ⟨.skip,undef,_,m,S,?_,.inr ⟨rfl,rfl⟩,e1,by simp [ah,ay,undef],dl.refl,e2⟩;simp only [execOp,ho,Instr.storeAt,ex,Instr.sureAddr,Sem.run_bind,Sem.run_pure,Result.andThen_ok,storeVar,nM hz,azP,ug,ybV,xg];simp [fD]
def abA {d:vI} {k k':yh} (h:Instr.sameNow d k k'=some true):k=k':=by
 unfold Instr.sameNow at h
 split at h
 ·grind
 ·rename_i p q;simp only [yd] at h;have h2:(p.data==q.data)=true:=by cases p;exact h
  cases p;cases q
  grind
 ·grind
 ·cases h
def sameBits_self {d:vI} {k k':yh} (h:Instr.sameNow d k k'=some true) (n:Nat):Instr.sameBits n k' k=true:=by
 have e:=abA h;subst e;unfold Instr.sameNow at h
 split at h
 ·simp [Instr.sameBits]
 ·simp only [yd] at h;simp [Instr.sameBits,h]
 ·simp [Instr.sameBits]
 ·cases h
def Put (af:Nat->Nat) (m:Mp) (S:Nat->Prop) (w:yi) (d:vI) (k x:yh) (es:List uS) (i:Nat) (kw ej:List AV):Prop:=
 (Instr.findNow d k es i=some none/\ay af m S w kw (es.map (·.key)++[k])/\ay af m S w ej (es.map (·.val)++[x]))\/
 ∃(j:Nat) (e0:uS),Instr.findNow d k es i=some (some (i+j,e0.val))/\es[j]? =some e0/\Instr.sameNow d k e0.key=some true/\ay af m S w kw (es.map (·.key))/\ay af m S w ej ((es.map (·.val)).set j x)
def aev {af:Nat->Nat} {vk vx:AV} {k x:yh} {d:vI} (hk:ah af m S w vk k) (hx:ah af m S w vx x) (hd:fits d vk=true):∀(ks vs:List AV) (es:List uS) (i:Nat) (kw ej:List AV),
  ay af m S w ks (es.map (·.key))->ay af m S w vs (es.map (·.val))->Bn vk vx ks vs=some (kw,ej)->Put af m S w d k x es i kw ej
 | [],[],es,i,kw,ej,h1,h2,h=>by
  simp only [ay,List.map_eq_nil_iff] at h1;subst h1;obtain ⟨rfl,rfl⟩:=h;exact .inl ⟨rfl,by simp [ay,hk],by simp [ay,hx]⟩
 | [],_::_,es,i,kw,ej,h1,h2,h=>by simp [Bn] at h
 | _::_,[],es,i,kw,ej,h1,h2,h=>by simp [Bn] at h
 | c::ks,v::vs,es,i,kw,ej,h1,h2,h=>by
  cases es with
  | nil=>simp [ay] at h1
  | cons e es=>
   obtain ⟨u,t,⟨rfl,rfl⟩,hc,PL⟩:=h1;obtain ⟨u',t',⟨rfl,rfl⟩,hv,Al⟩:=h2;simp only [Bn] at h
   cases mE:E6 vk c with
   | none=>simp [mE] at h
   | some b=>
    have hs:=adi (d:=d) hk hc mE hd
    cases b with
    | true=>
     simp only [mE,yd,yo] at h;obtain ⟨rfl,rfl⟩:=h;refine .inr ⟨0,e,by simp [Instr.findNow,hs],rfl,hs,?_,?_⟩
     ·simp only [xa,ay];exact ⟨_,_,rfl,hc,PL⟩
     ·simp only [xa,List.set_cons_zero,ay];exact ⟨_,_,rfl,hx,Al⟩
    | false=>
     simp only [mE] at h
     cases hm:Bn vk vx ks vs with
     | none=>simp [hm] at h
     | some q=>
      obtain ⟨k1,v1⟩:=q;simp only [hm,yd,yo] at h;obtain ⟨rfl,rfl⟩:=h;rcases aev hk hx hd ks vs es (i+1) k1 v1 PL Al hm with ⟨g1,g2,g3⟩ | ⟨j,e0,g1,g2,g3,g4,g5⟩
      ·refine .inl ⟨by simp [Instr.findNow,hs,g1],?_,?_⟩
       ·simp only [xa,xk,ay];exact ⟨_,_,rfl,hc,g2⟩
       ·simp only [xa,xk,ay];exact ⟨_,_,rfl,hv,g3⟩
      ·refine .inr ⟨j+1,e0,?_,by simpa using g2,g3,?_,?_⟩
       ·simp only [Instr.findNow,hs,g1]
        grind
       ·simp only [xa,ay];exact ⟨_,_,rfl,hc,g4⟩
       ·simp only [xa,List.set_cons_succ,ay];exact ⟨_,_,rfl,hv,g5⟩
def Ek (w:yi) (g:Nat) (o:tu):One w {w with heap:=w.heap.setIfInBounds g o} g:=
 ⟨rfl,rfl,rfl,by simp,fun b hb=>by simp [Array.getElem?_setIfInBounds_ne (fun e=>hb e.symm)]⟩
def LS {g:Nat} {o q:tu} (h:w.heap[g]? =some q):({w with heap:=w.heap.setIfInBounds g o}:yi).heap[g]? =some o:=by grind
def adm {o:yX} {t kt e:yC} {x k y:xu} {kk:Nat} {v:AV} {aj:Hp} {aM:Nat} (hH:fw O H) (ht:b8 O m S w tm a.tmps) (hh:aU O m S w hp ct)
  (ho:o.op= .mapUpdate t x k y\/o.op= .insert t x k y) (hu:O.P.underlying t=some (.map kt e)) (sH:VE.keyOf O.P kt=some kk) (hv:cI tm hp ct (.pR kk (aQ H x) (aQ H k) (aQ H y))=some (v,aj,aM)):zG O m S w a hp ct o v aj aM:=by
 simp only [cI] at hv;have rx:=cy hH ht x;cases hx:aA tm (aQ H x)<;>rw [hx] at hv rx<;>simp only [reduceCtorEq] at hv
 rename_i id;simp only [ah] at rx;obtain ⟨p,hm,ex⟩:=rx
 split at hv
 case h_2=>cases hv
 rename_i ks vs hg
 cases hc:zk kk (aA tm (aQ H k)) with
 | false=>simp [hc] at hv
 | true=>
  simp only [hc,Bool.not_true,yT] at hv
  cases bc:Bn (aA tm (aQ H k)) (aA tm (aQ H y)) ks vs with
  | none=>simp [bc] at hv
  | some q=>
   obtain ⟨kw,ej⟩:=q;simp only [bc,yd,yo] at hv;obtain ⟨rfl,rfl,rfl⟩:=hv;obtain ⟨d,jh,fF,Zn⟩:=abw sH hc;obtain ⟨p',es,clock,g1,g2,g3,g4,g5,g6⟩:=hh.obj id _ _ hg hm;rw [hm] at g1;injection g1 with g1
   subst g1;have aBn:=aev (d:=d) (cy hH ht k) (cy hH ht y) Zn ks vs es.toList 0 kw ej g3 g4 bc
   have fin:∀(DK:Array uS) (c':Nat),(Instr.mapUpdate t (a.eval x) (a.eval k) (a.eval y)).run O.P w= .ok () {w with heap:=w.heap.setIfInBounds p.b (.map DK c')}->
     ay O.af m S w kw (DK.toList.map (·.key))->ay O.af m S w ej (DK.toList.map (·.val))->zG O m S w a hp ct o (.ae []) (a7 hp id (.mp true kw ej)) ct:=by
    intro DK c' fD h1 h2
    have aO:fK S w {w with heap:=w.heap.setIfInBounds p.b (.map DK c')}:=fun b hb=>(Ek w p.b _).other b (fun e=>g5 rfl (e▸hb))
    have oF:fg O m S {w with heap:=w.heap.setIfInBounds p.b (.map DK c')} id (.mp true kw ej):=
     ⟨p,DK,c',hm,LS g2,gS (fun _ _ h=>h) (fun _ h=>h) aO _ _ h1,gS (fun _ _ h=>h) (fun _ h=>h) aO _ _ h2,fun _=>g5 rfl,by simp⟩
    obtain ⟨e1,e2⟩:=Ib hh hg hm (g5 rfl) (Ek w p.b _) oF (fun r hr=>by rw [g2] at hr;cases hr);refine ⟨.skip,undef,_,m,S,?_,.inr ⟨rfl,rfl⟩,e1,by simp [ah,ay,undef],dl.refl,e2⟩;rcases ho with ho | ho<;>simp [execOp,ho,fD]
   have nB:=LH (P:=O.P) (w:=w) jh fF false (a.eval k);rcases aBn with ⟨h1,h2,h3⟩ | ⟨j,e0,h1,h2,h3,h4,h5⟩
   ·refine fin (es.push ⟨a.eval k,a.eval y,clock⟩) (clock+1) ?_ (by simpa using h2) (by simpa using h3);rw [ex];simp [Instr.mapUpdate,run_underlying hu,MapKept.run_getObj_map g2,nB,Instr.findKey,run_underlying jh,h1,MapKept.run_setObj_map _ g2]
   ·have hj:es[j]? =some e0:=by simp_all
    simp only [ye] at h1;have ajS:=abA h3
    refine fin (es.modify j fun e=>{e with key:=a.eval k,val:=a.eval y}) clock ?_ ?_ ?_
    ·rw [ex];have hsb:Instr.sameBits 10000 (a.eval k) (a.eval k)=true:=by have:=sameBits_self h3 10000;rwa [<-ajS] at this
     simp [Instr.mapUpdate,run_underlying hu,MapKept.run_getObj_map g2,nB,Instr.findKey,run_underlying jh,h1,MapKept.run_setObj_map _ g2,hj,Instr.keyThatStays,hsb,ajS.symm]
    ·have:(es.modify j fun e=>{e with key:=a.eval k,val:=a.eval y}).toList.map (·.key)=es.toList.map (·.key):=by
      apply yaE
      grind
     grind
    ·have:(es.modify j fun e=>{e with key:=a.eval k,val:=a.eval y}).toList.map (·.val)=(es.toList.map (·.val)).set j (a.eval y):=by
      apply yaE
      grind
     grind
def atB (t:ByteArray) (i:Nat):(t.get! i).toNat=(t.data.toList.map xc).getD i 0:=by
 have:t.get! i=t.data[i]! :=by cases t;rfl
 rw [this];by_cases h:i<t.data.size
 ·grind
 ·simp only [Array.getElem!_eq_getD,Array.getD_eq_getD_getElem?,List.getD_eq_getElem?_getD,List.getElem?_map,Array.getElem?_toList];rw [Array.getElem?_eq_none (by omega)];rfl
def apL (t:ByteArray) (i:Nat):decodeL (t.data.toList.map xc) i=Utf8.decode t i:=by
 have eT:(t.data.toList.map xc).length=t.size:=by simp
 simp only [decodeL,Utf8.decode,atB,eT]
def arv {o:yX} {x:xu} {v:AV} {aj:Hp} {aM:Nat} (hH:fw O H) (ht:b8 O m S w tm a.tmps) (hh:aU O m S w hp ct)
  (ho:o.op= .next x true) (hv:cI tm hp ct (.pU (aQ H x))=some (v,aj,aM)):zG O m S w a hp ct o v aj aM:=by
 simp only [cI] at hv;have rx:=cy hH ht x;cases hx:aA tm (aQ H x)<;>rw [hx] at hv rx<;>simp only [reduceCtorEq] at hv
 rename_i id;simp only [ah] at rx;obtain ⟨p,hm,ex⟩:=rx
 split at hv
 case h_2=>cases hv
 rename_i s pos hg;obtain ⟨p',t,g1,g2,g3,g4⟩:=hh.obj id _ _ hg hm;rw [hm] at g1;injection g1 with g1
 subst g1;have au:(getObj p.b).run O.P w= .ok (.stringIter t pos) w:=by simp [getObj,Sem.run,g2]
 have hlen:s.length=t.size:=by rw [<-g3];simp
 cases hc:yQ pos s.length with
 | false=>
  rw [hc] at hv;simp only [yT,yd,yo] at hv;obtain ⟨rfl,rfl,rfl⟩:=hv;have aW:¬pos<t.size:=by
   intro h
   have:yQ pos s.length=true:=by simp [yQ];omega
   grind
  refine ⟨.value (.tuple #[.bool false]),.tuple #[.bool false],w,m,S,?_,.inl rfl,hh,by simp [ah,ay],dl.refl,ck.refl⟩;simp [execOp,ho,ex,Instr.next,au,aW]
 | true=>
  rw [hc] at hv;simp only [yA] at hv;have aW:pos<t.size:=by
   simp_all
  cases hdc:decodeL s pos with | mk c wd=>
  rw [hdc] at hv;simp only [yd,yo] at hv;obtain ⟨rfl,rfl,rfl⟩:=hv;have hd:Utf8.decode t pos=(c,wd):=by rw [<-apL,g3,hdc]
  have oF:fg O m S {w with heap:=w.heap.setIfInBounds p.b (.stringIter t (pos+wd))} id (.si s (pos+wd)):=⟨p,t,hm,LS g2,g3,g4⟩;obtain ⟨e1,e2⟩:=Ib hh hg hm g4 (Ek w p.b _) oF (fun r hr=>by rw [g2] at hr;cases hr);refine ⟨.value (.tuple #[.bool true,goInt pos,.int .i32 c]),_,_,m,S,?_,.inl rfl,e1,by simp [ah,ay,goInt],dl.refl,e2⟩
  have a7:(setObj p.b (.stringIter t (pos+wd))).run O.P w= .ok () {w with heap:=w.heap.setIfInBounds p.b (.stringIter t (pos+wd))}:=by simp [setObj,Sem.run,g2]
  simp [execOp,ho,ex,Instr.next,au,aW,hd,a7]
end
end
section
open Go
def H0 {hp:Hp} {id i:Nat}:au (dJ hp id) i=if id=i then none else au hp i:=by
 induction hp with
 | nil=>simp [dJ,au]
 | cons x r ih=>
  obtain ⟨j,q⟩:=x;simp only [dJ];by_cases hj:j=id
  ·subst hj;simp only [wW,yA,ih,au];by_cases hi:j=i
   ·grind
   ·have:yv j i=false:=by
     cases hq:yv j i with
     | false=>rfl
     | true=>exact absurd (yp hq) hi
    grind
  ·have hb:yv j id=false:=by
    cases hq:yv j id with
    | false=>rfl
    | true=>exact absurd (yp hq) hj
   simp only [hb,yT];rw [show au ((j,q)::dJ r id) i=bif yv j i then some q else au (dJ r id) i from rfl,ih];by_cases hi:j=i
   ·subst hi
    have:¬id=j:=fun h=>hj h.symm
    simp [wW,this,au]
   ·have sK:yv j i=false:=by
     cases hq:yv j i with
     | false=>rfl
     | true=>exact absurd (yp hq) hi
    simp [sK,au]
section
variable {O:bl} {H:Hint} {m:Mp} {S:Nat->Prop} {w:yi} {tm:Env} {a:Act} {hp:Hp} {ct:Nat}
def Src (P:y5) (w:yi) (size n:Nat) (news:List yh) (x:yh):Prop:=
 (∀w',(Builtin.lenOf x).run P w'= .ok n w')/\news.length=n*size/\
 ∀w',w'.heap=w.heap->∀k,k<=n->(Builtin.firstCells size k x).run P w'= .ok (news.take (k*size)).toArray w'
def Ep {P:y5} {size n c:Nat} {b:Addr} {news:List yh} (hl:news.length=n*size) (hc:∀j u,news[j]? =some u->w.cell? (b.add j)=some u):
  Src P w size n news (.slice (some b) n c):=by
 refine ⟨fun w'=>by simp [Builtin.lenOf],hl,fun w' hw k hk=>?_⟩;have hle:k*size<=news.length:=by rw [hl];exact yV _ hk
 refine run_firstCells_some (P:=P) w' size k b n c (news.take (k*size)) (by rw [yE];omega) (fun j v hv=>?_);rw [List.getElem?_take] at hv
 split at hv
 ·have:=hc j v hv
  simpa [World.cell?,hw] using this
 ·cases hv
def aew {P:y5} {size:Nat}:Src P w size 0 [] (.slice none 0 0):=
 ⟨fun w'=>by simp [Builtin.lenOf],by simp,fun w' _ k hk=>by simp [Builtin.firstCells]⟩
def aoL (s:ByteArray) (k:Nat):(s.extract 0 k).data.map (fun b=>Value.int .u8 b.toNat)=((s.data.toList.map fun b=>Value.int .u8 (b.toNat:Int)).take k).toArray:=by
 have:(s.extract 0 k).data=s.data.extract 0 k:=by simp
 grind
def atD {P:y5} {s:ByteArray}:Src P w 1 s.size (s.data.toList.map fun b=>Value.int .u8 (b.toNat:Int)) (.string s):=by
 refine ⟨fun w'=>by simp [Builtin.lenOf],by simp,fun w' _ k hk=>?_⟩;simp only [Builtin.firstCells,Sem.run_pure,Nat.mul_one];rw [aoL]
def abb {af:Nat->Nat}:∀l:List UInt8,ay af m S w (MM (l.map xc)) (l.map fun b=>Value.int .u8 (b.toNat:Int))
 | []=>by simp [MM,ay]
 | b::r=>by
  exact ⟨_,_,rfl,by simp [ah],abb r⟩
def abB {size n:Nat} {vx:AV} {x:yh} {cs:List AV} (hh:aU O m S w hp ct) (hx:ah O.af m S w vx x) (h:iE hp size vx=some (n,cs)):
  ∃us,ay O.af m S w cs us/\Src O.P w size n us x:=by
 cases vx<;>simp only [iE,reduceCtorEq] at h
 case aa=>
  obtain ⟨rfl,rfl⟩:=h;subst hx;exact ⟨[],by simp [ay],aew⟩
 case aw ex n' dG=>
  cases hc:yv dG.length (n'*size) with
  | false=>rw [hc] at h;cases h
  | true=>
   rw [hc] at h;obtain ⟨rfl,rfl⟩:=h;have hl:=yp hc;rcases hx with ⟨b,o,c,rfl,h1,h2,h3,h4,h5⟩ | ⟨ad,rfl,rfl,rfl⟩
   ·obtain ⟨us,g1,g2,g3⟩:=rD _ b o h5;exact ⟨us,g1,Ep (by omega) (fun j u hj=>by rw [nU];exact g3 j u hj)⟩
   ·exact ⟨[],by simp [ay],Ep (by simp) (fun j u hj=>by simp at hj)⟩
 case ao id o n'=>
  cases hg:au hp id with
  | none=>simp [hg] at h
  | some ob=>
   cases ob<;>simp only [hg,reduceCtorEq] at h
   rename_i rw pu ex z dG
   cases hc:yF (o+n'*size) dG.length with
   | false=>rw [hc] at h;cases h
   | true=>
    rw [hc] at h;simp only [yA,yd,yo] at h;obtain ⟨rfl,rfl⟩:=h;have hl:=yy hc;obtain ⟨p,c,hm,rfl,h1,h2⟩:=hx;have hr:=RG (o:=0) (n:=0) hh hg hm;have mI:=AJ (n'*size) _ _ _ (qw o _ _ _ hr);obtain ⟨us,g1,g2,g3⟩:=rD _ p.b (p.o+o) mI;refine ⟨us,g1,Ep ?_ (fun j u hj=>by rw [nU];exact g3 j u hj)⟩
    grind
def ack {size n:Nat} {vx:AV} {x:yh} {cs:List AV} (hh:aU O m S w hp ct) (hx:ah O.af m S w vx x) (h:ik hp size vx=some (n,cs)):
  ∃us,ay O.af m S w cs us/\Src O.P w size n us x:=by
 cases vx<;>try exact abB hh hx h
 simp only [ik] at h
 cases hc:yv size 1 with
 | false=>rw [hc] at h;cases h
 | true=>
  rw [hc] at h;obtain ⟨rfl,rfl⟩:=h
  have:=yp hc
  subst this;obtain ⟨t,rfl,rfl⟩:=hx;refine ⟨_,abb _,?_⟩
  have:(List.map xc t.data.toList).length=t.size:=by simp
  rw [this];exact atD
def an1 {P:y5} {t u ty e:yC} {i:ybW} (ht:P.underlying t=some (.slice e)) (hu:(∃e',P.underlying u=some (.slice e'))\/P.underlying u=some .string) (hi:P.info? e=some i)
  {g o iI qP:Nat} {KM:Array yh} {te:yC} (hg:w.heap[g]? =some (.cells KM te (0,0))) {x:yh} {n:Nat} {news:List yh} (hs:Src P w i.size n news x) (h1:∀u∈news,u.oneCell'=true)
  (E8:iI+n<=qP) (TR:o+iI*i.size+news.length<=KM.size):
  (Builtin.append_ #[t,u] ty #[.slice (some ⟨g,o,none⟩) iI qP,x]).run P w=
   .ok (.slice (some ⟨g,o,none⟩) (iI+n) qP) (w.setRow g (KM.toList.take (o+iI*i.size)++news++KM.toList.drop (o+iI*i.size+news.length)).toArray):=by
 obtain ⟨nv,An,Zt⟩:=hs;have hf:=Zt w rfl n (yu _);rw [yN (by omega)] at hf;have aO:=run_storeCells_at P g (o+iI*i.size) te news 0 KM w hg (by omega) h1;rcases hu with ⟨e',hd⟩ | hd<;>
  simp [Builtin.append_,run_underlying ht,run_underlying hd,vK,typeInfo,hi,nv,E8,hf,nU,aO]
def LK {P:y5} {t u ty e:yC} {i:ybW} {z:yh} (ht:P.underlying t=some (.slice e)) (hu:(∃e',P.underlying u=some (.slice e'))\/P.underlying u=some .string) (hi:P.info? e=some i) (hz:i.zero=some z)
  {s:yh} {base:Option Addr} {iI qP:Nat} (es:s= .slice base iI qP) {lK:List yh} (ho:Src P w i.size iI lK s) {x:yh} {n:Nat} {news:List yh} (hs:Src P w i.size n news x)
  (hg:qP<iI+n) (h63:iI+n<=1099511627776) (Zs:(iI+n)*i.bytes<=1099511627776):
  (Builtin.append_ #[t,u] ty #[s,x]).run P w=
   .ok (.slice (some ⟨w.heap.size,0,none⟩) (iI+n) (grownCap w (iI+n) qP e))
    (w.drew.alloc (.cells ((lK++news).toArray++Builtin.zeroCells z.cells (grownCap w (iI+n) qP e-(iI+n))) e)):=by
 obtain ⟨nv,An,Zt⟩:=hs;obtain ⟨ho1,Zu,ho3⟩:=ho;have hf:=Zt w.drew rfl n (yu _);rw [yN (by omega)] at hf;have hfo:=ho3 w.drew rfl iI (yu _);have hn:¬(iI+n<=qP):=by omega
 have aBo:¬(9223372036854775807<((iI:Int)+(n:Int))):=by omega
 have TR:=growslice_fits (need:=iI+n) (old:=qP) (bytes:=i.bytes) hg (by omega);have aBp:¬(281474976710656<Builtin.nextslicecap (iI+n) qP*i.bytes):=by omega
 subst es;rcases hu with ⟨e',hd⟩ | hd
 all_goals
  simp [Builtin.append_,run_underlying ht,run_underlying hd,vK,typeInfo,zeroValue,hi,hz,nv,hn,aBo,aBp,Question.forced,hf,hfo,newRow,askRoom,grownCap]
  grind
def Rh {e:yC} {z:yh} {sz need cap:Nat} {cs:List AV} {us:List yh} (hh:aU O m S w hp ct) (hr:ay O.af m S w cs us) (hl:us.length=need*sz) (hz:z.cells.size=sz)
  (Da:Bool) (Zv:Da=true->aG cs=true) (hc:need<=cap):
  let w':=w.drew.alloc (.cells (us.toArray++Builtin.zeroCells z.cells (cap-need)) e)
  let p:Pl:=⟨w.heap.size,0,cap*sz,sz⟩
  ∀m',dl m m'->m' ct=some p->fg O m' S w' ct (.cells true Da false sz cs):=by
 intro w' p m' hm hi;have aO:fK S w w':=fun b hb=>by
  have:=hh.slt b hb
  exact RowKit.Below.heap_alloc w.drew _ b (by simpa using this)
 have jd:w'.heap[w.heap.size]? =some (.cells (us.toArray++Builtin.zeroCells z.cells (cap-need)) e (0,0)):=heap_alloc_new w.drew _;have fZ:=gU _ _ hr;refine ⟨p,_,e,hi,jd,rfl,?_,?_,by simp,?_,Zv,?_,by simp⟩
 ·show cs.length<=cap*sz
  rw [<-fZ,hl];exact yV _ hc
 ·show 0+cap*sz<=_
  rw [Array.size_append,uD,size_zeroCells,hz,hl,<-wJ]
  grind
 ·refine L8 jd cs us 0 (gS hm (fun _ h=>h) aO _ _ hr) (fun j u hj=>?_)
  grind
 ·intro _ hS
  have:=hh.slt _ hS
  grind
def anN (hh:aU O m S w hp ct) (g:tu):fK S w (w.drew.alloc g):=fun b hb=>by
 have:=hh.slt b hb
 exact RowKit.Below.heap_alloc w.drew _ b (by simpa using this)
def Ri (hh:aU O m S w hp ct) {hp0:Hp} {g:tu} {p:Pl} {o:Obj} (NV:∀i q,au hp0 i=some q->au hp i=some q) (hb:p.b=w.heap.size)
  (ho:∀m',dl m m'->m' ct=some p->fg O m' S (w.drew.alloc g) ct o):
  aU O (fE m ct p) S (w.drew.alloc g) ((ct,o)::hp0) (ct+1)/\ck m S w hp (fE m ct p) S (w.drew.alloc g) ((ct,o)::hp0) ct:=by
 have hn:m ct=none:=by
  cases h:m ct with
  | none=>rfl
  | some q=>have:=hh.lt _ _ h;omega
 have hle:=jt hn (p:=p);have aO:=anN hh g;have hold:∀b,b<w.heap.size->(w.drew.alloc g).heap[b]? =w.heap[b]? :=fun b hb=>RowKit.Below.heap_alloc w.drew _ b (by simpa using hb)
 have eT:(w.drew.alloc g).heap.size=w.heap.size+1:=by simp
 have eF:∀i q,au ((ct,o)::hp0) i=some q->i≠ct->au hp i=some q:=fun i q h hi=>by
  rw [fI,yx (fun e=>hi e.symm)] at h
  grind
 refine ⟨⟨?_,?_,?_,?_,?_,?_,?_,?_,fun i q hq=>(by
  by_cases hc:i=ct
  ·omega
  ·have:=hh.aW _ _ (eF i q hq hc);omega)⟩,⟨rfl,rfl,rfl,by omega,?_,fun _ h=>h,fun b hb=>aO b hb,fun b hb=> .inl hb,?_,fun i q _ h=>hle i q h,fun b r hb=>⟨r,(hold b (xz.1 hb).1).trans hb⟩⟩⟩
 ·intro i q pi hi bM;by_cases hc:i=ct
  ·subst hc;rw [fI] at hi;simp only [xE,yd] at hi;subst hi;exact ho _ hle dS
  ·rw [er hc] at bM;exact rG hle (fun _ h=>h) aO (fun q' bR=>hold _ (hh.blt i q' bR)) (fun _ _ h=>h) (hh.obj i q pi (eF i q hi hc) bM)
 ·intro i q bM;by_cases hc:i=ct
  ·omega
  ·rw [er hc] at bM;have:=hh.lt i q bM;omega
 ·intro i j oi oj pi pj hi hj bM gD e;by_cases ci:i=ct
  ·by_cases cj:j=ct
   ·grind
   ·subst ci;rw [dS] at bM;rw [er cj] at gD;injection bM with bM
    subst bM
    have:=hh.blt j pj gD
    omega
  ·rw [er ci] at bM;by_cases cj:j=ct
   ·subst cj;rw [dS] at gD;injection gD with gD
    subst gD
    have:=hh.blt i pi bM
    omega
   ·rw [er cj] at gD;exact hh.inj i j oi oj pi pj (eF i oi hi ci) (eF j oj hj cj) bM gD e
 ·intro b hb;have:=hh.slt b hb;omega
 ·intro i q bM;by_cases hc:i=ct
  ·subst hc;rw [dS] at bM;injection bM with bM
   subst bM;omega
  ·rw [er hc] at bM;have:=hh.blt i q bM;omega
 ·intro i q bM;have h0:=hh.fU;by_cases hc:i=ct
  ·subst hc;rw [dS] at bM;injection bM with bM
   subst bM;omega
  ·rw [er hc] at bM;exact hh.low i q bM
 ·intro b hb;have h0:=hh.fU;exact (hold b (by omega)).trans (hh.lJ b hb)
 ·have h0:=hh.fU;omega
 ·intro b hb _;exact hold b hb
 ·rintro b ⟨i,q,pi,h1,h2,h3⟩;by_cases hc:i=ct
  ·subst hc;rw [dS] at h2;injection h2 with h2
   subst h2;exact .inr (by omega)
  ·rw [er hc] at h2;exact .inl ⟨i,q,pi,eF i q h1 hc,h2,h3⟩
def apM (hh:aU O m S w hp ct) {id:Nat} {o o':Obj} {p p':Pl} {w':yi} (hg:au hp id=some o) (hm:m id=some p) (hn:¬S p.b) (hw:One w w' p.b) (hk:∀r:uR,w.heap[p.b]? =some (.loop r)->∃r':uR,w'.heap[p.b]? =some (.loop r')) (hb:p'.b=p.b)
  (ho:∀m',dl m m'->m' ct=some p'->fg O m' S w' ct o'):
  aU O (fE m ct p') S w' ((ct,o')::dJ hp id) (ct+1)/\ck m S w hp (fE m ct p') S w' ((ct,o')::dJ hp id) ct:=by
 have iA:m ct=none:=by
  cases h:m ct with
  | none=>rfl
  | some q=>have:=hh.lt _ _ h;omega
 have hle:=jt iA (p:=p');have aO:fK S w w':=fun b hb=>hw.other b (fun e=>hn (e▸hb))
 have eF:∀i q,au ((ct,o')::dJ hp id) i=some q->i≠ct->au hp i=some q/\i≠id:=fun i q h hi=>by
  rw [fI,yx (fun e=>hi e.symm),H0] at h
  grind
 have ajT:∀i q pi,au hp i=some q->i≠id->m i=some pi->pi.b≠p.b:=fun i q pi h hi bM e=>hi (hh.inj i id q o pi p h hg bM hm e)
 refine ⟨⟨?_,?_,?_,?_,?_,?_,?_,?_,fun i q hq=>(by
  by_cases hc:i=ct
  ·omega
  ·have:=hh.aW _ _ (eF i q hq hc).1;omega)⟩,⟨hw.os,hw.tape,hw.output,by rw [hw.size];exact yu _,?_,fun _ h=>h,fun b hb=>aO b hb,fun b hb=> .inl hb,?_,fun i q _ h=>hle i q h,fun b r hb=>(by
  by_cases hc:b=p.b
  ·grind
  ·exact ⟨r,(hw.other b hc).trans hb⟩)⟩⟩
 ·intro i q pi hi bM;by_cases hc:i=ct
  ·subst hc;rw [fI] at hi;simp only [xE,yd] at hi;subst hi;exact ho _ hle dS
  ·rw [er hc] at bM;obtain ⟨h1,h2⟩:=eF i q hi hc;exact rG hle (fun _ h=>h) aO (fun q' bR=>hw.other _ (ajT i q q' h1 h2 bR)) (fun _ _ h=>h) (hh.obj i q pi h1 bM)
 ·intro i q bM;by_cases hc:i=ct
  ·omega
  ·rw [er hc] at bM;have:=hh.lt i q bM;omega
 ·intro i j oi oj pi pj hi hj bM gD e;by_cases ci:i=ct
  ·by_cases cj:j=ct
   ·grind
   ·subst ci;rw [dS] at bM;rw [er cj] at gD
    grind
  ·rw [er ci] at bM;obtain ⟨h1,h2⟩:=eF i oi hi ci;by_cases cj:j=ct
   ·subst cj;rw [dS] at gD;injection gD with gD
    subst gD;exact (ajT i oi pi h1 h2 bM (by rw [e,hb])).elim
   ·rw [er cj] at gD;exact hh.inj i j oi oj pi pj h1 (eF j oj hj cj).1 bM gD e
 ·intro b hb;rw [hw.size];exact hh.slt b hb
 ·intro i q bM;rw [hw.size];by_cases hc:i=ct
  ·subst hc;rw [dS] at bM;injection bM with bM
   subst bM;rw [hb];exact hh.blt id p hm
  ·rw [er hc] at bM;exact hh.blt i q bM
 ·intro i q bM;by_cases hc:i=ct
  ·subst hc;rw [dS] at bM;injection bM with bM
   subst bM;rw [hb];exact hh.low id p hm
  ·rw [er hc] at bM;exact hh.low i q bM
 ·intro b hb
  rw [hw.other b (fun e=>by have:=hh.low id p hm;omega)];exact hh.lJ b hb
 ·rw [hw.size];exact hh.fU
 ·intro b _ cw;exact hw.other b (fun e=>cw (e▸IB hg hm))
 ·rintro b ⟨i,q,pi,h1,h2,h3⟩;by_cases hc:i=ct
  ·subst hc;rw [dS] at h2;injection h2 with h2
   subst h2;exact .inl ⟨id,o,p,hg,hm,by rw [<-h3,hb]⟩
  ·rw [er hc] at h2;exact .inl ⟨i,q,pi,(eF i q h1 hc).1,h2,h3⟩
def aex {P:y5} {e:yC} {s by':Nat} {z:AV} (hs:cF P e=some s) (hb:sF P e=some by') (hz:lG P e=some z):
  ∃ti zv,P.info? e=some ti/\ti.size=s/\ti.bytes=by'/\ti.zero=some zv/\z=eK zv:=by
 unfold cF at hs;unfold sF at hb;unfold lG at hz
 cases hi:P.info? e with
 | none=>simp [hi] at hs
 | some ti=>
  simp only [hi,yd] at hs hb hz
  cases gC:ti.zero with
  | none=>simp [gC] at hz
  | some zv=>
   grind
def Ic {o:yX} {v:AV} {u:yh} {w':yi} {m':Mp} {S':Nat->Prop} {aj:Hp} {aM:Nat} (h1:(execOp a.eval o).run O.P w= .ok (.value u) w') (h2:aU O m' S' w' aj aM) (h3:ah O.af m' S' w' v u)
  (h4:dl m m') (h5:ck m S w hp m' S' w' aj ct):zG O m S w a hp ct o v aj aM:=⟨_,u,w',m',S',h1,.inl rfl,h2,h3,h4,h5⟩
def arw {o:yX} {b':yC} {t u e:yC} {sz by':Nat} {z:AV} {x y:xu} {v:AV} {aj:Hp} {aM:Nat} (hH:fw O H) (ht:b8 O m S w tm a.tmps) (hh:aU O m S w hp ct)
  (fD:(execOp a.eval o).run O.P w=((do pure (.value (<-Builtin.append_ #[t,u] b' #[a.eval x,a.eval y])):Sem yaC)).run O.P w)
  (sM:O.P.underlying t=some (.slice e)) (hu:(∃e',O.P.underlying u=some (.slice e'))\/O.P.underlying u=some .string) (hs:cF O.P e=some sz) (hb:sF O.P e=some by') (hz:lG O.P e=some z) (q9:(cellsOf z).length=sz)
  (hv:cI tm hp ct (.aR sz by' (aQ H x) (aQ H y))=some (v,aj,aM)):zG O m S w a hp ct o v aj aM:=by
 simp only [cI] at hv;obtain ⟨ti,zv,rb,rfl,rfl,KN,rfl⟩:=aex hs hb hz;have aS:∀u' w',(Builtin.append_ #[t,u] b' #[a.eval x,a.eval y]).run O.P w= .ok u' w'->(execOp a.eval o).run O.P w= .ok (.value u') w':=fun u' w' h=>by
  rw [fD,Sem.run_bind,h];rfl
 have rZ:m ct=none:=by
  cases h:m ct with
  | none=>rfl
  | some q=>have:=hh.lt _ _ h;omega
 have DJ:zv.cells.size=ti.size:=by
  have:=gU _ _ (Cp (af:=O.af) (m:=m) (S:=S) (w:=w) zv)
  rw [<-q9,<-this];simp
 cases ko:ik hp ti.size (aA tm (aQ H y)) with
 | none=>simp [ko] at hv
 | some q=>
  obtain ⟨n,new⟩:=q;simp only [ko] at hv;obtain ⟨news,eV,dQ⟩:=ack hh (cy hH ht y) ko;have Gk:=gU _ _ eV;have rx:=cy hH ht x
  cases hx:aA tm (aQ H x) with
  | aa=>
   rw [hx] at hv rx;simp only at hv;simp only [ah] at rx
   cases h0:yv n 0 with
   | true=>
    rw [h0] at hv;simp only [yA,yd,yo] at hv;obtain ⟨rfl,rfl,rfl⟩:=hv;have BT:=yp h0;subst BT;have Tq:news=[]:=yB (by rw [dQ.2.1];simp)
    subst Tq;have hf:=dQ.2.2 w rfl 0 (yu _);have kz:=dQ.1 w;refine ⟨.value (.slice none 0 0),.slice none 0 0,w,m,S,?_,.inl rfl,hh,by simp [ah],dl.refl,ck.refl⟩;rw [fD,rx];rcases hu with ⟨e',hu⟩ | hu<;>
     simp [Builtin.append_,run_underlying sM,run_underlying hu,vK,typeInfo,rb,kz,hf]
   | false=>
    rw [h0] at hv;simp only [yT] at hv
    cases hc:(yF n room&&(yF (n*ti.bytes) room&&yQ 0 ti.size)) with
    | false=>rw [hc] at hv;cases hv
    | true=>
     rw [hc] at hv;simp only [yA,yd,yo] at hv;obtain ⟨rfl,rfl,rfl⟩:=hv;simp only [yg] at hc;have c1:=yy hc.1;have c2:=yy hc.2.1;simp only [room] at c1 c2;have BT:0<n:=by
      rcases xp n with h | h
      ·subst h;simp at h0
      ·exact h
     have hr:=LK (P:=O.P) (ty:=b') (w:=w) sM hu rb KN (s:= .slice none 0 0) rfl (aew (P:=O.P) (size:=ti.size)) dQ (by omega) (by omega) (by simpa using c2);simp only [ye,List.nil_append] at hr;have jS:=grownCap_ge w n 0 e;have jd:=Rh (e:=e) (z:=zv) (cap:=grownCap w n 0 e) hh eV (need:=n) (sz:=ti.size) dQ.2.1 DJ (aG new) (fun h=>h) jS;obtain ⟨k1,k2⟩:=Ri hh (hp0:=hp) (p:=⟨w.heap.size,0,grownCap w n 0 e*ti.size,ti.size⟩) (fun _ _ h=>h) rfl jd;exact Ic (aS _ _ (by rw [rx];exact hr)) k1 (by simp only [ah];exact ⟨_,_,dS,rfl,jS,by simp⟩) (jt rZ) k2
  | aw ex k cs=>
   rw [hx] at hv rx
   cases ex with
   | false=>simp at hv
   | true=>
    simp only at hv;have rx0:=rx;simp only [ah] at rx;have rx1:∃ad lK,a.eval x= .slice (some ad) k k/\ay O.af m S w cs lK/\lK.length=cs.length/\(∀(j:Nat) (u:yh),lK[j]? =some u->w.cell? (ad.add j)=some u)/\aG cs=true:=by
     rcases rx with ⟨bb,oo,c,ex,h1,h2,h3,h4,h5⟩ | ⟨ad,ex,rfl,rfl⟩
     ·have nB:c=k:=h2 (by trivial);subst nB;obtain ⟨lK,g1,g2,g3⟩:=rD cs bb oo h5;exact ⟨_,lK,ex,g1,g2,fun j u hj=>by rw [nU];exact g3 j u hj,h4⟩
     ·exact ⟨ad,[],ex,by simp [ay],rfl,fun j u hj=>by simp at hj,rfl⟩
    obtain ⟨ad,lK,ex,g1,g2,g3,h4⟩:=rx1
    cases h0:yv n 0 with
    | true=>
     rw [h0] at hv;simp only [yA,yd,yo] at hv;obtain ⟨rfl,rfl,rfl⟩:=hv;have BT:=yp h0;subst BT;have Tq:news=[]:=yB (by rw [dQ.2.1];simp)
     subst Tq;have hf:=dQ.2.2 w rfl 0 (yu _);have kz:=dQ.1 w;refine ⟨.value (a.eval x),a.eval x,w,m,S,?_,.inl rfl,hh,rx0,dl.refl,ck.refl⟩;rw [fD,ex];rcases hu with ⟨e',hu⟩ | hu<;>
      simp [Builtin.append_,run_underlying sM,run_underlying hu,vK,typeInfo,rb,kz,hf,storeCells]
    | false=>
     rw [h0] at hv;simp only [yT] at hv
     cases hc:(yF (k+n) room&&(yF ((k+n)*ti.bytes) room&&(yv cs.length (k*ti.size)&&yQ 0 ti.size))) with
     | false=>rw [hc] at hv;cases hv
     | true=>
      rw [hc] at hv;simp only [yA,yd,yo] at hv;obtain ⟨rfl,rfl,rfl⟩:=hv;simp only [yg] at hc;have c1:=yy hc.1;have c2:=yy hc.2.1;have c3:=yp hc.2.2.1;simp only [room] at c1 c2;have BT:0<n:=by
       rcases xp n with h | h
       ·subst h;simp at h0
       ·exact h
      have KO:Src O.P w ti.size k lK (.slice (some ad) k k):=Ep (by omega) g3;have hr:=LK (P:=O.P) (ty:=b') (w:=w) sM hu rb KN rfl KO dQ (by omega) c1 c2;have jS:=grownCap_ge w (k+n) k e;have jd:=Rh (e:=e) (z:=zv) (cap:=grownCap w (k+n) k e) hh (lj g1 eV) (need:=k+n) (sz:=ti.size) (by rw [yG,g2,c3,dQ.2.1,wJ]) DJ (aG cs&&aG new)
       (fun h=>by simp only [yg] at h;exact Cq h.1 h.2) jS
      obtain ⟨k1,k2⟩:=Ri hh (hp0:=hp) (p:=⟨w.heap.size,0,grownCap w (k+n) k e*ti.size,ti.size⟩) (fun _ _ h=>h) rfl jd;exact Ic (aS _ _ (by rw [ex];exact hr)) k1 (by simp only [ah];exact ⟨_,_,dS,rfl,jS,by simp⟩) (jt rZ) k2
  | ao id o0 k=>
   rw [hx] at hv rx;simp only at hv;simp only [ah] at rx;obtain ⟨p,c,hm,ex,h1,h2⟩:=rx
   split at hv
   case h_2=>cases hv
   rename_i pu PM zz cs hg
   cases hc:(yv zz ti.size&&(yF (k+n) room&&(yF ((k+n)*ti.bytes) room&&(yF (o0+k*ti.size) cs.length&&(yQ 0 ti.size&&cp new))))) with
   | false=>rw [hc] at hv;cases hv
   | true=>
    rw [hc] at hv;simp only [yA,yd,yo] at hv;obtain ⟨rfl,rfl,rfl⟩:=hv;simp only [yg] at hc;have c0:=yp hc.1;have c1:=yy hc.2.1;have c2:=yy hc.2.2.1;have c3:=yy hc.2.2.2.1;have c4:=hc.2.2.2.2.2;simp only [room] at c1 c2;obtain ⟨p',arr,t',g1,g2,g3,g4,g5,g6,g7,g8,g9,g10⟩:=hh.obj id _ _ hg hm;rw [hm] at g1;injection g1 with g1
    subst g1;subst c0;rw [g3] at h2;have Ao:bU O.af m S w (slice o0 (k*ti.size) cs) p.b (p.o+o0):=AJ _ _ _ _ (qw _ _ _ _ g7);obtain ⟨lK,f1,f2,f3⟩:=rD _ _ _ Ao;have NW:(slice o0 (k*ti.size) cs).length=k*ti.size:=by simp only [slice,yE,xT];omega
    have dP:(pu&&aG new)=true->aG (slice o0 (k*ti.size) cs++new)=true:=fun h=>by
     simp only [yg] at h;exact Cq (AG _ (zc _ _ (g8 h.1))) h.2
    by_cases E8:k+n<=c
    ·have eh:=L9 eV c4;have TR:p.o+o0+k*ti.size+news.length<=arr.size:=by
      rw [dQ.2.1]
      have:(k+n)*ti.size<=c*ti.size:=yV _ E8
      rw [wJ] at this;omega
     have hr:=an1 (P:=O.P) (ty:=b') (w:=w) sM hu rb g2 dQ eh E8 TR;have ho:∀m',dl m m'->m' ct=some ⟨p.b,p.o+o0,c*ti.size,ti.size⟩->
       fg O m' S (w.setRow p.b (arr.toList.take (p.o+o0+k*ti.size)++news++arr.toList.drop (p.o+o0+k*ti.size+news.length)).toArray) ct
        (.cells true (pu&&aG new) false ti.size (slice o0 (k*ti.size) cs++new)):=by
      intro m' hle hi;have aO:fK S w (w.setRow p.b (arr.toList.take (p.o+o0+k*ti.size)++news++arr.toList.drop (p.o+o0+k*ti.size+news.length)).toArray):=fun b hb=>setRow_other w p.b b _ (fun e=>g9 rfl (e▸hb))
      refine ⟨_,_,t',hi,setRow_heap w p.b arr _ t' _ g2,rfl,?_,?_,by simp,?_,dP,fun _=>g9 rfl,by simp⟩
      ·show (slice o0 (k*ti.size) cs++new).length<=c*ti.size
       rw [yG,NW,<-Gk,dQ.2.1,<-wJ];exact yV _ E8
      ·show p.o+o0+c*ti.size<=_
       rw [uD,yG,yG,yE,xT,vB];omega
      ·refine Et _ (lK++news) _ (lj (gS hle (fun _ h=>h) aO _ _ f1) (gS hle (fun _ h=>h) aO _ _ eV)) (fun j u hj=>?_);show World.cell? _ ⟨p.b,p.o+o0+j,none⟩=some u
       simp only [World.cell?,setRow_heap w p.b arr _ t' _ g2,yai,yI,xg];rw [yad];have e1:(arr.toList.take (p.o+o0+k*ti.size)).length=p.o+o0+k*ti.size:=by rw [yE,vB];omega
       by_cases Zq:j<k*ti.size
       ·rw [wu (by omega)] at hj;rw [xy,wu (by omega),uv (by omega)]
        have:=f3 j u hj
        simpa [World.cell?,g2] using this
       ·rw [xP (by omega)] at hj;have hjl:=(List.getElem?_eq_some_iff.1 hj).1;rw [xy,xP (by omega),e1,wu (by omega),show p.o+o0+j-(p.o+o0+k*ti.size)=j-lK.length by omega];exact hj
     obtain ⟨k1,k2⟩:=apM (p':=⟨p.b,p.o+o0,c*ti.size,ti.size⟩) hh hg hm (g9 rfl) (QY w p.b _) (fun r hr=>by rw [g2] at hr;cases hr) rfl ho;exact Ic (aS _ _ (by rw [ex];exact hr)) k1 (by simp only [ah];exact ⟨_,c,dS,rfl,E8,by simp⟩) (jt rZ) k2
    ·have KO:Src O.P w ti.size k lK (.slice (some ⟨p.b,p.o+o0,none⟩) k c):=Ep (by omega) (fun j u hj=>by rw [nU];exact f3 j u hj)
     have hr:=LK (P:=O.P) (ty:=b') (w:=w) sM hu rb KN rfl KO dQ (by omega) c1 c2;have jS:=grownCap_ge w (k+n) c e;have jd:=Rh (e:=e) (z:=zv) (cap:=grownCap w (k+n) c e) hh (lj f1 eV) (need:=k+n) (sz:=ti.size) (by rw [yG,f2,NW,dQ.2.1,wJ]) DJ (pu&&aG new) dP jS;obtain ⟨k1,k2⟩:=Ri hh (hp0:=dJ hp id) (p:=⟨w.heap.size,0,grownCap w (k+n) c e*ti.size,ti.size⟩) (fun i q h=>by
      rw [H0] at h;by_cases hi:id=i
      ·simp [hi] at h
      ·simpa only [hi,xg] using h) rfl jd
     exact Ic (aS _ _ (by rw [ex];exact hr)) k1 (by simp only [ah];exact ⟨_,_,dS,rfl,jS,by simp⟩) (jt rZ) k2
  | _=>rw [hx] at hv;simp at hv
end
end
section
open Go
section
variable {O:bl} {H:Hint} {m:Mp} {S:Nat->Prop} {w:yi} {tm:Env} {a:Act} {hp:Hp} {ct:Nat}
def aog {n:Nat} {cs:List AV} (h:aG cs=true):aG (cs.take n)=true:=AG n h
def aaY:∀(n:Nat) {cs:List AV},cp cs=true->cp (cs.take n)=true
 | 0,_,_=>by simp [cp]
 | n+1,[],_=>by simp [cp]
 | n+1,c::cs,h=>by
  simp only [wD,cp,yg] at h ⊢;exact ⟨h.1,aaY n h.2⟩
def arx {o:yX} {b':yC} {t u e:yC} {sz:Nat} {x y:xu} {v:AV} {aj:Hp} {aM:Nat} (hH:fw O H) (ht:b8 O m S w tm a.tmps) (hh:aU O m S w hp ct)
  (fD:(execOp a.eval o).run O.P w=((do pure (.value (<-Builtin.copy_ #[t,u] b' #[a.eval x,a.eval y])):Sem yaC)).run O.P w)
  (sM:O.P.underlying t=some (.slice e)) (hs:cF O.P e=some sz)
  (hv:cI tm hp ct (.mD sz (aQ H x) (aQ H y))=some (v,aj,aM)):zG O m S w a hp ct o v aj aM:=by
 simp only [cI] at hv
 cases ko:iE hp sz (aA tm (aQ H y)) with
 | none=>simp [ko] at hv
 | some q=>
  obtain ⟨n,new⟩:=q;simp only [ko] at hv;obtain ⟨news,eV,dQ⟩:=abB hh (cy hH ht y) ko;have Gk:=gU _ _ eV;have rx:=cy hH ht x;cases hx:aA tm (aQ H x)<;>rw [hx] at hv rx<;>simp only [reduceCtorEq] at hv
  rename_i id o0 k;simp only [ah] at rx;obtain ⟨p,c,hm,ex,h1,h2⟩:=rx
  split at hv
  case h_2=>cases hv
  rename_i pu PM zz cs hg
  cases hc:(yv zz sz&&(yF (o0+k*sz) cs.length&&cp new)) with
  | false=>rw [hc] at hv;cases hv
  | true=>
   rw [hc] at hv;simp only [yA,yd,yo] at hv;obtain ⟨rfl,rfl,rfl⟩:=hv;simp only [yg] at hc;have c0:=yp hc.1;have c1:=yy hc.2.1;subst c0;obtain ⟨p',arr,t',g1,g2,g3,g4,g5,g6,g7,g8,g9,g10⟩:=hh.obj id _ _ hg hm;rw [hm] at g1;injection g1 with g1
   subst g1;have ajU:min n k*zz<=k*zz:=yV _ (Nat.min_le_right _ _);have aIN:min n k*zz<=n*zz:=yV _ (yaX _ _);have rt:=Eo (min n k*zz) eV;have jT:(news.take (min n k*zz)).length=min n k*zz:=by rw [yE,dQ.2.1];omega
   have Fj:(new.take (min n k*zz)).length=min n k*zz:=by rw [yE,<-Gk,dQ.2.1];omega
   have eh:=L9 rt (aaY _ hc.2.2);have hf:=dQ.2.2 w rfl (min n k) (yaX _ _);have aO:=run_storeCells_at O.P p.b (p.o+o0) t' (news.take (min n k*zz)) 0 arr w g2 (by rw [jT];omega) eh;simp only [yY] at aO;have oF:fg O m S (w.setRow p.b (arr.toList.take (p.o+o0)++news.take (min n k*zz)++arr.toList.drop (p.o+o0+(news.take (min n k*zz)).length)).toArray) id
     (.cells true (pu&&aG new) PM zz (over o0 (new.take (min n k*zz)) cs)):=by
    refine ⟨p,_,t',hm,setRow_heap w p.b arr _ t' _ g2,g3,by rw [Ms (by omega)];exact g4,?_,fun h=>by rw [Ms (by omega)];exact g6 h,?_,?_,fun _=>g9 rfl,by simp⟩
    ·rw [uD,yG,yG,yE,xT,vB,jT];omega
    ·exact adl g2 g7 rt (by omega) (by omega) dl.refl (fun _ h=>h) (fun b hb=>setRow_other w p.b b _ (fun e=>g9 rfl (e▸hb))) (setRow_heap w p.b arr _ t' _ g2)
    ·intro h;simp only [yg] at h;exact abz (g8 h.1) (aog h.2)
   obtain ⟨e1,e2⟩:=Ib hh hg hm (g9 rfl) (QY w p.b _) oF (fun r hr=>by rw [g2] at hr;cases hr)
   refine Ic (u:=goInt ((min n k:Nat):Int)) (m':=m) (S':=S) ?_ e1 (by simp [ah,goInt]) dl.refl e2;rw [fD,ex];simp [Builtin.copy_,run_underlying sM,dQ.1 w,nM hs,show Nat.min n k=min n k from rfl,hf,aO]
def atE {o:yX} {k:Nat} {v:AV} {aj:Hp} {aM:Nat} (hH:fw O H) (ht:b8 O m S w tm a.tmps) (hh:aU O m S w hp ct)
  (hv:cI tm hp ct (aX O.P H k o)=some (v,aj,aM)):zG O m S w a hp ct o v aj aM:=by
 have ir:∀{r:AV×Hp×Nat},cI tm hp ct bad=some r->False:=fun h=>by simp [bad,cI] at h
 cases ho:o.op with
 | call c=>
  obtain ⟨callee,args,ts⟩:=c;simp only [aX,ho] at hv
  split at hv
  ·cases KH:H.mode k<;>simp [KH,cI] at hv
  ·rename_i _ b
   split at hv
   ·rename_i x y t u fV mF;obtain ⟨al⟩:=args;obtain ⟨tl⟩:=ts;simp only at fV mF;subst fV;subst mF;obtain ⟨cs,fD⟩:=Eh (O:=O) (w:=w) (a:=a) ho;have Je:(execOp a.eval o).run O.P w=((do pure (.value (<-Builtin.append_ #[t,u] o.type #[a.eval x,a.eval y])):Sem yaC)).run O.P w:=by
     rw [fD];simp [builtin]
    have key:∀{z:AV} {sz by':Nat} {e:yC},O.P.underlying t=some (.slice e)->((∃e',O.P.underlying u=some (.slice e'))\/O.P.underlying u=some .string)->cF O.P e=some sz->sF O.P e=some by'->lG O.P e=some z->
      cI tm hp ct (bif yv (cellsOf z).length sz then .aR sz by' (aQ H x) (aQ H y) else bad)=some (v,aj,aM)->zG O m S w a hp ct o v aj aM:=by
     intro z sz by' e h1 h2 h3 h4 h5 h
     cases hb:yv (cellsOf z).length sz with
     | false=>rw [hb] at h;exact (ir h).elim
     | true=>
      rw [hb] at h;exact arw hH ht hh Je h1 h2 h3 h4 h5 (yp hb) h
    split at hv
    ·rename_i e e' h1 h2
     split at hv
     ·rename_i sz by' z h3 h4 h5
      exact key h1 (.inl ⟨_,h2⟩) h3 h4 h5 hv
     ·exact (ir hv).elim
    ·rename_i e h1 h2
     split at hv
     ·rename_i sz by' z h3 h4 h5
      exact key h1 (.inr h2) h3 h4 h5 hv
     ·exact (ir hv).elim
    ·exact (ir hv).elim
   ·repeat' split at hv
    all_goals simp [cI,bad] at hv
   ·rename_i x y t u fV mF;obtain ⟨al⟩:=args;obtain ⟨tl⟩:=ts;simp only at fV mF;subst fV;subst mF;obtain ⟨cs,fD⟩:=Eh (O:=O) (w:=w) (a:=a) ho;have Je:(execOp a.eval o).run O.P w=((do pure (.value (<-Builtin.copy_ #[t,u] o.type #[a.eval x,a.eval y])):Sem yaC)).run O.P w:=by
     rw [fD];simp [builtin]
    split at hv
    ·rename_i e h1
     split at hv
     ·rename_i sz h3;exact arx hH ht hh Je h1 h3 hv
     ·exact (ir hv).elim
    ·exact (ir hv).elim
   ·simp [cI] at hv
   ·simp [cI] at hv
   ·exact (ir hv).elim
  ·exact (ir hv).elim
 | store t x y=>
  simp only [aX,ho] at hv
  split at hv
  ·rename_i s hs;exact atA hH ht hh ho hs hv
  ·exact (ir hv).elim
 | mapUpdate t x k y=>
  simp only [aX,ho] at hv
  split at hv
  ·rename_i kt e hu
   split at hv
   ·rename_i kk sH;exact adm hH ht hh (.inl ho) hu sH hv
   ·exact (ir hv).elim
  ·exact (ir hv).elim
 | insert t x k y=>
  simp only [aX,ho] at hv
  split at hv
  ·rename_i kt e hu
   split at hv
   ·rename_i kk sH;exact adm hH ht hh (.inr ho) hu sH hv
   ·exact (ir hv).elim
  ·exact (ir hv).elim
 | next x b=>
  cases b with
  | false=>simp only [aX,ho] at hv;exact (ir hv).elim
  | true=>exact arv hH ht hh ho (by simpa only [aX,ho] using hv)
 | binOp op t x y ty=>
  cases op<;>simp only [aX,ho,nT,pg] at hv
  case eql=>
        repeat' split at hv
        all_goals first
         | (simp [cI,bad] at hv;done)
         | (cases hb:(O.P.stoodInHeld t||O.P.eqGuardType O.P.depth t)<;>rw [hb] at hv<;>simp [cI,bad] at hv)
  case neq=>
        repeat' split at hv
        all_goals first
         | (simp [cI,bad] at hv;done)
         | (cases hb:(O.P.stoodInHeld t||O.P.eqGuardType O.P.depth t)<;>rw [hb] at hv<;>simp [cI,bad] at hv)
  all_goals simp [cI] at hv
 | buildSlice t n parts=>
  simp only [aX,ho] at hv
  repeat' split at hv
  all_goals first
   | (simp [cI,bad] at hv;done)
   | (
     revert hv;generalize yF _ _=bb;intro hv;cases bb<;>simp [cI,bad] at hv
     try (split at hv<;>simp [cI,bad] at hv))
 | makeMap t r=>
  cases r<;>simp only [aX,ho] at hv
  ·repeat' split at hv
   all_goals simp [cI,bad] at hv
  ·exact (ir hv).elim
 | _=>
  simp only [aX,ho] at hv
  (repeat' split at hv)
  all_goals first
   | contradiction
   | (simp [cI,bad] at hv;done)
end
end
section
section
variable {hp H:Hp} {tm tm':Env}
def aey (hl:cZ hp H) {id:Nat} {rw pu ex:Bool} {sz:Nat} {cs:List AV} (h:au hp id=some (.cells rw pu ex sz cs)):∃rw',au H id=some (.cells rw' pu ex sz cs):=by
 obtain ⟨o',h1,rw',rfl,_⟩:=hl id _ h;exact ⟨rw',h1⟩
def aez (hl:cZ hp H) {id:Nat} {rw:Bool} {ks vs:List AV} (h:au hp id=some (.mp rw ks vs)):∃rw',au H id=some (.mp rw' ks vs):=by
 obtain ⟨o',h1,rw',rfl,_⟩:=hl id _ h;exact ⟨rw',h1⟩
def aeA (hl:cZ hp H) {sz:Nat} {ag:Bool} {x v:AV} (h:jc hp sz ag x=some v):jc H sz ag x=some v:=by
 cases x<;>simp only [jc,reduceCtorEq] at h ⊢
 ·rename_i id o
  cases hg:au hp id with
  | none=>simp [hg] at h
  | some ob=>
   cases ob<;>simp only [hg,reduceCtorEq] at h
   obtain ⟨r,h1⟩:=aey hl hg;simp only [h1];exact h
 ·exact h
def ary (hl:cZ hp H) {k x:AV} {v:Option AV} (h:Be hp k x=some v):Be H k x=some v:=by
 cases x<;>simp only [Be,reduceCtorEq] at h ⊢
 ·exact h
 ·rename_i id
  cases hg:au hp id with
  | none=>simp [hg] at h
  | some ob=>
   cases ob<;>simp only [hg,reduceCtorEq] at h
   obtain ⟨r,h1⟩:=aez hl hg;simp only [h1];exact h
 ·exact h
def arz (hl:cZ hp H) {k:Nat} {x v:AV} (h:gI hp k x=some v):gI H k x=some v:=by
 unfold gI at h ⊢
 split at h
 all_goals first
  | exact h
  | cases h
  | skip
 rename_i id
 cases hg:au hp id with
 | none=>simp [hg] at h
 | some ob=>
  cases ob<;>simp only [hg,reduceCtorEq] at h
  obtain ⟨r,h1⟩:=aez hl hg;simp only [h1];exact h
def arA (hl:cZ hp H) {k:Cut} {x v:AV} {lo hi:Option X} (h:ff hp k x tm lo hi=some v):ff H k x tm lo hi=some v:=by
 unfold ff at h ⊢
 split at h
 all_goals first
  | exact h
  | cases h
  | skip
 rename_i sz id o n
 cases hg:au hp id with
 | none=>simp [hg] at h
 | some ob=>
  cases ob<;>simp only [hg,reduceCtorEq] at h
  obtain ⟨r,h1⟩:=aey hl hg;simp only [h1];exact h
def apN (hl:cZ hp H) {o:Op} {v:AV} (h:bA tm hp o=some v):bA tm H o=some v:=by
 cases o<;>simp only [bA,reduceCtorEq] at h ⊢<;>first
  | exact h
  | exact aeA hl h
  | exact arz hl h
  | exact arA hl h
  | skip
 rename_i kk zero ok m k
 cases hk:zk kk (aA tm k) with
 | false=>rw [hk] at h;cases h
 | true=>
  rw [hk] at h;simp only [yA] at h ⊢
  cases hr:Be hp (aA tm k) (aA tm m) with
  | none=>simp [hr] at h
  | some r=>rw [ary hl hr];simpa only [hr] using h
def apO {o:Op} (hk:bB o=0) (hp H:Hp):bA tm hp o=bA tm H o:=by
 cases o with
 | dO k x lo hi=>
  cases k with
  | str=>simp only [bA,ff];cases aA tm x<;>rfl
  | sl sz=>simp [bB] at hk
  | ar n sz=>simp [bB] at hk
 | len k x=>
  match k,hk with
  | 0,_=>simp only [bA];unfold gI;split<;>simp_all
  | 1,_=>simp only [bA];unfold gI;split<;>simp_all
  | k+2,hk=>simp [bB] at hk
 | call md f xs=>cases md<;>simp [bB] at hk
 | _=>first
  | rfl
  | simp [bB] at hk
end
section
variable {tm tm':Env}
def dK {x:X} (h:∀t,t∈iY x->ai tm' t=ai tm t):aA tm' x=aA tm x:=by
 cases x with
 | t i=>exact h i (by simp [iY])
 | c v=>rfl
def Cu:∀{xs:List X},(∀t,t∈zu xs->ai tm' t=ai tm t)->dD tm' xs=dD tm xs
 | [],_=>rfl
 | x::r,h=>by
  simp only [dD]
  rw [dK (x:=x) (fun t ht=>h t (by simp [zu,ht])),Cu (fun t ht=>h t (by simp [zu,ht]))]
def Rj:∀{ps:List (Nat×Nat×X)} {z:List AV},(∀t,t∈Ja ps->ai tm' t=ai tm t)->fill tm' z ps=fill tm z ps
 | [],_,_=>rfl
 | (o,s,x)::r,z,h=>by
  simp only [fill]
  rw [dK (x:=x) (fun t ht=>h t (by simp [Ja,ht]))]
  rw [Rj (ps:=r) (fun t ht=>h t (by simp [Ja,ht]))]
def abC {d:Nat} {x:Option X} (h:∀t,t∈I9 x->ai tm' t=ai tm t):dc tm' d x=dc tm d x:=by
 cases x with
 | none=>rfl
 | some x=>simp only [dc];rw [dK h]
def aoM {hp:Hp} {k:Cut} {x:AV} {lo hi:Option X} (h1:∀t,t∈I9 lo->ai tm' t=ai tm t) (h2:∀t,t∈I9 hi->ai tm' t=ai tm t):
  ff hp k x tm' lo hi=ff hp k x tm lo hi:=by
 unfold ff;simp only [abC h1,abC h2]
def aoh {hp:Hp} {o:Op} (h:∀t,t∈j8 o->ai tm' t=ai tm t):bA tm' hp o=bA tm hp o:=by
 cases o<;>simp only [j8,xZ] at h<;>simp only [bA]
 case pick c a b=>rw [dK (x:=c) fun t ht=>h t (.inl ht),dK (x:=a) fun t ht=>h t (.inr (.inl ht)),dK (x:=b) fun t ht=>h t (.inr (.inr ht))]
 case gk z ps=>rw [Rj h]
 case DF f a b=>rw [Cu (xs:=a) fun t ht=>h t (.inl ht),Cu (xs:=b) fun t ht=>h t (.inr ht)]
 case dO k x lo hi=>rw [dK (x:=x) fun t ht=>h t (.inl ht),aoM (fun t ht=>h t (.inr (.inl ht))) (fun t ht=>h t (.inr (.inr ht)))]
 case mn xs=>rw [Cu h]
 case mx xs=>rw [Cu h]
 case bin op x y=>rw [dK (x:=x) fun t ht=>h t (.inl ht),dK (x:=y) fun t ht=>h t (.inr ht)]
 case eq n k x y=>rw [dK (x:=x) fun t ht=>h t (.inl ht),dK (x:=y) fun t ht=>h t (.inr ht)]
 case aY s x y=>rw [dK (x:=x) fun t ht=>h t (.inl ht),dK (x:=y) fun t ht=>h t (.inr ht)]
 case Gc l s x y=>rw [dK (x:=x) fun t ht=>h t (.inl ht),dK (x:=y) fun t ht=>h t (.inr ht)]
 case kU x y=>rw [dK (x:=x) fun t ht=>h t (.inl ht),dK (x:=y) fun t ht=>h t (.inr ht)]
 case Gd l s g x y=>rw [dK (x:=x) fun t ht=>h t (.inl ht),dK (x:=y) fun t ht=>h t (.inr ht)]
 case PI kk z ok x y=>rw [dK (x:=x) fun t ht=>h t (.inl ht),dK (x:=y) fun t ht=>h t (.inr ht)]
 all_goals first
  | rfl
  | (rename_i x;rw [dK (x:=x) h])
def HO {hp aj:Hp} {ct:Nat} {o:Op} (h:∀t,t∈j8 o->ai tm' t=ai tm t):cR tm' aj ct o=cR tm hp ct o:=by
 cases o<;>simp only [j8,xZ] at h<;>simp only [cR]
 case box s x=>rw [dK (x:=x) h]
 case cW n s z ps=>rw [Rj h]
 case gO s b z x y=>rw [dK (x:=x) fun t ht=>h t (.inl ht),dK (x:=y) fun t ht=>h t (.inr ht)]
 case pT x=>rw [dK (x:=x) h]
def Cr {hp:Hp} {ct:Nat} {o:Op} (h:∀t,t∈j8 o->ai tm' t=ai tm t):cI tm' hp ct o=cI tm hp ct o:=by
 cases o<;>simp only [j8,xZ] at h<;>simp only [cI]
 case st s x y=>rw [dK (x:=x) fun t ht=>h t (.inl ht),dK (x:=y) fun t ht=>h t (.inr ht)]
 case pR kk c a b=>rw [dK (x:=c) fun t ht=>h t (.inl ht),dK (x:=a) fun t ht=>h t (.inr (.inl ht)),dK (x:=b) fun t ht=>h t (.inr (.inr ht))]
 case pU x=>rw [dK (x:=x) h]
 case aR s b x y=>rw [dK (x:=x) fun t ht=>h t (.inl ht),dK (x:=y) fun t ht=>h t (.inr ht)]
 case mD s x y=>rw [dK (x:=x) fun t ht=>h t (.inl ht),dK (x:=y) fun t ht=>h t (.inr ht)]
end
end
section
open Go
structure Calm (w w':yi):Prop where
 os:w'.os=w.os
 tape:w'.tape=w.tape
 output:w'.output=w.output
 size:w.heap.size<=w'.heap.size
 same:∀b,b<w.heap.size->w'.heap[b]? =w.heap[b]?
def Calm.refl {w:yi}:Calm w w:=⟨rfl,rfl,rfl,yu _,fun _ _=>rfl⟩
def Bf (O:bl) (w:yi):Prop:=(∀b,b<O.w0.heap.size->w.heap[b]? =O.w0.heap[b]?)/\O.w0.heap.size<=w.heap.size
def eY:Mp:=fun _=>none
def iw (af:Nat->Nat) (S:Nat->Prop) (w:yi) (lo:Nat):AV->yh->List Nat->Prop
 | .bn ex sz n cs,u,bs=>∃b o c arr t,bs=[b]/\u= .slice (some ⟨b,o,none⟩) n c/\n<=c/\(ex=true->c=n)/\lo<=b/\¬S b/\w.heap[b]? =some (.cells arr t (0,0))/\cs.length=n*sz/\
   o+c*sz<=arr.size/\bU af eY S w cs b o/\aG cs=true
 | r,u,bs=>bs=[]/\ah af eY S w r u/\bg r=true
def kR (af:Nat->Nat) (S:Nat->Prop) (w:yi) (lo:Nat):List AV->List yh->List Nat->Prop
 | [],us,bs=>us=[]/\bs=[]
 | v::r,us,bs=>∃u t b1 b2,us=u::t/\bs=b1++b2/\iw af S w lo v u b1/\kR af S w lo r t b2
def nd (af:Nat->Nat) (S:Nat->Prop) (w:yi) (lo:Nat) (r:AV) (u:yh):Prop:=
 match r with
 | .ae vs=>∃(us:Array yh) (bs:List Nat),u= .tuple us/\kR af S w lo vs us.toList bs/\bs.Nodup
 | r=>∃bs,iw af S w lo r u bs
def AY (P:y5) (f:FuncId) (args:Array yh) (w:yi) (R:yaY->yi->Prop):Prop:=
 ((callFunc f args).run P w= .ok (.enter f args) w/\CallsIn Fence.wide 0 P f args w R)\/∃u w',(callFunc f args).run P w= .ok (.value u) w'/\R (.returned u) w'
def adn (O:bl) (w:yi) (S:Nat->Prop) (r:AV) (e:yaY) (w':yi):Prop:=
 ∃u S',e= .returned u/\Calm w w'/\(∀b,S b->S' b)/\(∀b,S' b->S b\/w.heap.size<=b)/\(∀b,S' b->b<w'.heap.size)/\nd O.af S' w' w.heap.size r u
def eD (O:bl) (n:Nat) (av:List AV) (r:AV):Prop:=
 ∀(w:yi) (S:Nat->Prop) (args:Array yh),Bf O w->(∀b,S b->b<w.heap.size)->ay O.af eY S w av args.toList->aG av=true->
  AY O.P (O.af n) args w (adn O w S r)
def ze (O:bl) (m:Mp) (S:Nat->Prop) (w:yi) (hp:Hp) (ct:Nat) (v:AV) (aj:Hp) (aM:Nat) (e:yaY) (w':yi):Prop:=
 ∃u m' S',e= .returned u/\aU O m' S' w' aj aM/\ct<=aM/\ah O.af m' S' w' v u/\ck m S w hp m' S' w' aj ct
def Bg (O:bl) (n:Nat) (hp:Hp) (ct:Nat) (av:List AV) (v:AV) (aj:Hp) (aM:Nat):Prop:=
 ∀(m:Mp) (S:Nat->Prop) (w:yi) (args:Array yh),aU O m S w hp ct->ay O.af m S w av args.toList->AY O.P (O.af n) args w (ze O m S w hp ct v aj aM)
section
variable {af:Nat->Nat} {m m':Mp} {S S':Nat->Prop} {w w':yi}
mutual
def qD (hS:∀b,S b->S' b) (hw:fK S w w'):∀(v:AV) (u:yh),bg v=true->ah af m S w v u->ah af m' S' w' v u
 | .int _ _,_,_,h | .bool _,_,_,h | .bQ _ _,_,_,h | .str _,_,_,h | .kQ,_,_,h | .aa,_,_,h | .jb,_,_,h | .km,_,_,h | .undef,_,_,h=>by
  simpa only [ah] using h
 | .ptr id o,u,hp,h=>by simp [bg] at hp
 | .b6 cs,u,hp,h=>by
  simp only [ah] at h ⊢;obtain ⟨b,o,h1,h2,h3,h4⟩:=h;refine ⟨b,o,h1,h2.imp id (hS b),h3,?_⟩;rcases h2 with rfl | h2
  ·simp only [bU]
  ·exact QZ hS hw cs b o h3 h2 h4
 | .aw ex n cs,u,hp,h=>by
  simp only [ah] at h ⊢;rcases h with ⟨b,o,c,h1,h2,h3,h4,h5,h6⟩ | h
  ·refine .inl ⟨b,o,c,h1,h2,h3,h4.imp id (hS b),h5,?_⟩;rcases h4 with rfl | h4
   ·simp only [bU]
   ·exact QZ hS hw cs b o h5 h4 h6
  ·exact .inr h
 | .bn _ _ _ _,u,hp,h=>by simp [bg] at hp
 | .ao id o n,u,hp,h=>by simp [bg] at hp
 | .fn (.f g) first cap,u,hp,h=>by
  simp only [ah] at h ⊢;simp only [bg,yg] at hp;obtain ⟨fi,ca,h1,h2,h3⟩:=h;exact ⟨fi,ca,h1,zd hS hw first _ hp.1 h2,zd hS hw cap _ hp.2 h3⟩
 | .fn (.y l) _ _,u,hp,h=>by simp [bg] at hp
 | .map id,u,hp,h=>by simp [bg] at hp
 | .jy ks vs,u,hp,h=>by
  simp only [ah] at h ⊢;obtain ⟨b,es,clock,h1,h2,h3,h4,h5,h6,h7⟩:=h;exact ⟨b,es,clock,h1,hS b h2,h3,h4,(hw b h2).trans h5,zd hS hw ks _ h3 h6,zd hS hw vs _ h4 h7⟩
 | .it id,u,hp,h=>by simp [bg] at hp
 | .agg cs,u,hp,h=>by
  simp only [ah] at h ⊢;simp only [bg] at hp;obtain ⟨xs,h1,h2⟩:=h;exact ⟨xs,h1,zd hS hw cs _ hp h2⟩
 | .ae cs,u,hp,h=>by
  simp only [ah] at h ⊢;simp only [bg] at hp;obtain ⟨xs,h1,h2⟩:=h;exact ⟨xs,h1,zd hS hw cs _ hp h2⟩
def zd (hS:∀b,S b->S' b) (hw:fK S w w'):∀(vs:List AV) (us:List yh),aG vs=true->ay af m S w vs us->ay af m' S' w' vs us
 | [],us,_,h=>by simpa only [ay] using h
 | v::r,us,hp,h=>by
  simp only [ay] at h ⊢;simp only [aG,yg] at hp;obtain ⟨u,t,h1,h2,h3⟩:=h;exact ⟨u,t,h1,qD hS hw v u hp.1 h2,zd hS hw r t hp.2 h3⟩
def QZ (hS:∀b,S b->S' b) (hw:fK S w w'):∀(cs:List AV) (b o:Nat),aG cs=true->S b->bU af m S w cs b o->bU af m' S' w' cs b o
 | [],_,_,_,_,_=>by simp only [bU]
 | c::cs,b,o,hp,hb,h=>by
  simp only [bU] at h ⊢;simp only [aG,yg] at hp;obtain ⟨⟨u,h1,h2⟩,h3⟩:=h;exact ⟨⟨u,(LJ (hw b hb)).trans h1,qD hS hw c u hp.1 h2⟩,QZ hS hw cs b (o+1) hp.2 hb h3⟩
end
def Cs (hS:∀b,S b->S' b) (hw:fK S w w'):∀(cs:List AV) (b o:Nat),aG cs=true->w'.heap[b]? =w.heap[b]? ->bU af m S w cs b o->bU af m' S' w' cs b o
 | [],_,_,_,_,_=>by simp only [bU]
 | c::cs,b,o,hp,hb,h=>by
  simp only [aG,yg] at hp;obtain ⟨⟨u,h1,h2⟩,h3⟩:=h;exact ⟨⟨u,(LJ hb).trans h1,qD hS hw c u hp.1 h2⟩,Cs hS hw cs b (o+1) hp.2 hb h3⟩
end
section
variable {O:bl} {m:Mp} {S S':Nat->Prop} {w w':yi} {hp:Hp} {ct:Nat}
def apP (hh:aU O m S w hp ct) (hw:Calm w w'):fK S w w':=fun b hb=>hw.same b (hh.slt b hb)
def Cx (hh:aU O m S w hp ct) (hw:Calm w w') (hS:∀b,S b->S' b) (hn:∀b,S' b->S b\/w.heap.size<=b) (hl:∀b,S' b->b<w'.heap.size):aU O m S' w' hp ct where
 obj id o p ho hm:=rG (fun _ _ h=>h) hS (apP hh hw) (fun q hq=>hw.same _ (hh.blt id q hq)) (fun q hq hs=>(hn _ hs).resolve_right (by have:=hh.blt id q hq;omega)) (hh.obj id o p ho hm)
 lt:=hh.lt
 inj:=hh.inj
 slt:=hl
 blt id p h:=yU (hh.blt id p h) hw.size
 low:=hh.low
 lJ b hb:=(hw.same b (yU hb hh.fU)).trans (hh.lJ b hb)
 fU:=Nat.le_trans hh.fU hw.size
 aW:=hh.aW
def AR {base:Nat} (hh:aU O m S w hp ct) (hw:Calm w w') (hS:∀b,S b->S' b) (hn:∀b,S' b->S b\/w.heap.size<=b):ck m S w hp m S' w' hp base where
 os:=hw.os
 tape:=hw.tape
 output:=hw.output
 size:=hw.size
 same b hb _:=hw.same b hb
 sub:=hS
 still b hb:=hw.same b (hh.slt b hb)
 new b hb:=(hn b hb).imp id .inr
 own b hb:= .inl hb
 old _ _ _ h:=h
 loops b r hb:=⟨r,(hw.same b (xz.1 hb).1).trans hb⟩
def arB {i:Nat} (hh:aU O m S w hp ct) (hi:m i=none) (Gg:i<ct) {p:Pl} (hb:p.b<w.heap.size) (bh:O.w0.heap.size<=p.b) (Gi:¬S p.b) (oG:∀j q,m j=some q->q.b≠p.b)
  (hf:∀o,au hp i=some o->(fg O (fE m i p) S w i o/\¬iF o)\/(iF o/\fg O (fE m i p) (fun b=>S b\/b=p.b) w i o)):
  ∃S',aU O (fE m i p) S' w hp ct/\(∀b,S b->S' b)/\∀b,S' b->S b\/b=p.b:=by
 have aO:fK S w w:=fun _ _=>rfl
 have gen:∀S':Nat->Prop,(∀b,S b->S' b)->(∀b,S' b->S b\/b=p.b)->(∀o,au hp i=some o->fg O (fE m i p) S' w i o)->aU O (fE m i p) S' w hp ct:=by
  intro S' h1 h2 h3;refine ⟨?_,?_,?_,?_,?_,?_,hh.lJ,hh.fU,hh.aW⟩
  ·intro id o q ho hm;by_cases hc:id=i
   ·grind
   ·rw [er hc] at hm;refine rG (jt hi) h1 aO (fun _ _=>rfl) (fun q' bR hs=>?_) (hh.obj id o q ho hm)
    grind
  ·intro id q hm;by_cases hc:id=i
   ·grind
   ·rw [er hc] at hm;exact hh.lt id q hm
  ·intro a b oa ob pa pb ha cw DI zR e;by_cases ca:a=i
   ·by_cases cb:b=i
    ·grind
    ·subst ca;rw [dS] at DI;rw [er cb] at zR
     grind
   ·rw [er ca] at DI;by_cases cb:b=i
    ·subst cb;rw [dS] at zR
     grind
    ·rw [er cb] at zR;exact hh.inj a b oa ob pa pb ha cw DI zR e
  ·intro b hs;rcases h2 b hs with h | h
   ·exact hh.slt b h
   ·grind
  ·intro id q hm;by_cases hc:id=i
   ·subst hc;rw [dS] at hm
    grind
   ·rw [er hc] at hm;exact hh.blt id q hm
  ·intro id q hm;by_cases hc:id=i
   ·subst hc;rw [dS] at hm
    grind
   ·rw [er hc] at hm;exact hh.low id q hm
 cases ho:au hp i with
 | none=>exact ⟨S,gen S (fun _ h=>h) (fun _ h=> .inl h) (fun o h=>by rw [ho] at h;cases h),fun _ h=>h,fun _ h=> .inl h⟩
 | some o=>
  rcases hf o ho with ⟨h1,_⟩ | ⟨_,h1⟩
  ·exact ⟨S,gen S (fun _ h=>h) (fun _ h=> .inl h) (fun o' h=>by rw [ho] at h;injection h with h;subst h;exact h1),fun _ h=>h,fun _ h=> .inl h⟩
  ·exact ⟨_,gen (fun b=>S b\/b=p.b) (fun _ h=> .inl h) (fun _ h=>h) (fun o' h=>by rw [ho] at h;injection h with h;subst h;exact h1),fun _ h=> .inl h,fun _ h=>h⟩
def acm {af:Nat->Nat} {lo:Nat} {r:AV} {u:yh} {bs:List Nat} (h:iw af S w lo r u bs) (m:Mp) (hS:∀b,S b->S' b) (hbs:∀b,b∈bs->S' b):ah af m S' w (bK r) u:=by
 have aO:fK S w w:=fun _ _=>rfl
 cases r with
 | bn ex sz n cs=>
  obtain ⟨b,o,c,arr,t,rfl,rfl,h1,h2,h3,h4,h5,h6,h7,h8,h9⟩:=h;exact .inl ⟨b,o,c,rfl,h1,h2,.inr (hbs b (by simp)),h9,Cs hS aO cs b o h9 rfl h8⟩
 | _=>simp only [iw] at h;exact qD hS aO _ _ h.2.2 h.2.1
def acn {af:Nat->Nat} {lo:Nat} (m:Mp) (hS:∀b,S b->S' b):∀{vs:List AV} {us:List yh} {bs:List Nat},kR af S w lo vs us bs->(∀b,b∈bs->S' b)->ay af m S' w (C6 vs) us
 | [],us,bs,h,_=>by simp only [kR] at h;exact h.1
 | v::r,us,bs,h,hb=>by
  obtain ⟨u,t,b1,b2,rfl,rfl,h1,h2⟩:=h;exact ⟨u,t,rfl,acm h1 m hS (fun b cw=>hb b (by simp [cw])),acn m hS h2 (fun b cw=>hb b (by simp [cw]))⟩
def Sh {af:Nat->Nat} {lo:Nat} {r:AV} {u:yh} {bs:List Nat} (h:iw af S w lo r u bs):∀b,b∈bs->lo<=b/\b<w.heap.size:=by
 intro b hb
 cases r with
 | bn ex sz n cs=>
  simp only [iw] at h
  grind
 | _=>simp only [iw] at h;rw [h.1] at hb;cases hb
def Si {af:Nat->Nat} {lo:Nat}:∀{vs:List AV} {us:List yh} {bs:List Nat},kR af S w lo vs us bs->∀b,b∈bs->lo<=b/\b<w.heap.size
 | [],us,bs,h,b,hb=>by simp only [kR] at h;rw [h.2] at hb;cases hb
 | v::r,us,bs,h,b,hb=>by
  obtain ⟨u,t,b1,b2,rfl,rfl,h1,h2⟩:=h;rcases xZ.1 hb with hb | hb
  ·exact Sh h1 b hb
  ·exact Si h2 b hb
def aco {af:Nat->Nat} {lo:Nat} {r:AV} {u:yh} (h:nd af S w lo r u) (m:Mp):∃S',(∀b,S b->S' b)/\(∀b,S' b->S b\/(lo<=b/\b<w.heap.size))/\ah af m S' w (shut r) u:=by
 have one:∀(r:AV) (bs:List Nat),shut r=bK r->iw af S w lo r u bs->∃S',(∀b,S b->S' b)/\(∀b,S' b->S b\/(lo<=b/\b<w.heap.size))/\ah af m S' w (shut r) u:=by
  intro r bs hs h;refine ⟨fun b=>S b\/b∈bs,fun _ h=> .inl h,fun b hb=>hb.imp (fun x=>x) (fun hb=>Sh h b hb),?_⟩;rw [hs];exact acm h m (fun _ h=> .inl h) (fun _ h=> .inr h)
 cases r with
 | ae vs=>
  obtain ⟨us,bs,rfl,h1,h2⟩:=h;refine ⟨fun b=>S b\/b∈bs,fun _ h=> .inl h,fun b hb=>hb.imp (fun x=>x) (fun hb=>Si h1 b hb),?_⟩;exact ⟨us,rfl,acn m (fun _ h=> .inl h) h1 (fun _ h=> .inr h)⟩
 | _=>
  obtain ⟨bs,h⟩:=h;exact one _ bs rfl h
end
end
section
open Go
section
variable {O:bl} {m:Mp} {S:Nat->Prop} {w:yi} {H:Hp} {cH:Nat}
def MR {hp:Hp} {ct:Nat} {r:AV}:ct<=(fy hp ct r).2.2:=by
 cases r<;>simp only [fy]<;>omega
def MS:∀{vs:List AV} {hp:Hp} {ct:Nat},ct<=(jL hp ct vs).2.2
 | [],hp,ct=>by simp [jL]
 | v::r,hp,ct=>by
  simp only [jL];have h1:=MR (hp:=hp) (ct:=ct) (r:=v);have h2:=MS (vs:=r) (hp:=(fy hp ct v).2.1) (ct:=(fy hp ct v).2.2);omega
def Sj {hp:Hp} {ct:Nat} {r:AV} (hf:∀id o,au hp id=some o->id<ct):∀id o,au hp id=some o->au (fy hp ct r).2.1 id=some o:=by
 intro id o h;cases r<;>simp only [fy]<;>try exact h
 rw [fI,yx (by have:=hf id o h;omega)];exact h
def aeB {hp:Hp} {ct lo:Nat} {r:AV} {u:yh} {bs:List Nat} (hh:aU O m S w H cH) (hl:cZ (fy hp ct r).2.1 H) (eM:(fy hp ct r).2.2<=cH) (hn:∀id,ct<=id->id<(fy hp ct r).2.2->m id=none)
  (hr:iw O.af S w lo r u bs) (bh:O.w0.heap.size<=lo) (oG:∀j q,m j=some q->q.b∉bs):
  ∃m' S',aU O m' S' w H cH/\dl m m'/\(∀id p,m' id=some p->m id=some p\/(ct<=id/\id<(fy hp ct r).2.2/\p.b∈bs))/\ah O.af m' S' w (fy hp ct r).1 u/\(∀b,S b->S' b)/\(∀b,S' b->S b\/b∈bs):=by
 have aO:fK S w w:=fun _ _=>rfl
 cases r with
 | bn ex sz n cs=>
  simp only [fy] at hl eM hn;obtain ⟨b,o,c,arr,t,rfl,rfl,h1,h2,h3,h4,h5,h6,h7,h8,h9⟩:=hr;have bM:m ct=none:=hn ct (yu _) (Nat.lt_succ_self _);have aBq:b<w.heap.size:=(xz.1 h5).1;have oF:fg O (fE m ct ⟨b,o,c*sz,sz⟩) S w ct (.cells true true ex sz cs):=by
   refine ⟨_,arr,t,dS,h5,rfl,?_,h7,fun hx=>?_,Cs (fun _ h=>h) aO cs b o h9 rfl h8,fun _=>h9,fun _=>h4,by simp⟩
   ·show cs.length<=c*sz
    rw [h6];exact yV _ h1
   ·grind
  obtain ⟨S',k1,k2,k3⟩:=arB (p:=⟨b,o,c*sz,sz⟩) hh bM (by omega) aBq (by show _<=b;omega) h4 (fun j q hq e=>oG j q hq (by rw [e];simp)) (fun o' jQ=>by
   obtain ⟨Zp,g1,g2⟩:=hl ct (.cells true true ex sz cs) (by rw [fI];simp)
   rw [jQ] at g1;injection g1 with g1
   subst g1
   exact QO (p:=⟨b,o,c*sz,sz⟩) g2 dS oF (by simp [iF]))
  refine ⟨_,S',k1,jt bM,fun id p aj=>?_,?_,k2,fun b' cw=>(k3 b' cw).imp (fun h=>h) (fun h=>by rw [h];simp)⟩
  ·by_cases hc:id=ct
   ·subst hc;rw [dS] at aj;injection aj with aj
    subst aj;exact .inr ⟨yu _,by simp [fy],by simp⟩
   ·rw [er hc] at aj;exact .inl aj
  ·simp only [fy,ah];exact ⟨_,c,dS,by simp,h1,by simp⟩
 | _=>
  exact ⟨m,S,hh,dl.refl,fun _ _ h=> .inl h,qD (fun _ h=>h) aO _ _ hr.2.2 hr.2.1,fun _ h=>h,fun _ h=> .inl h⟩
def Ip {hp:Hp} {ct:Nat} {r:AV} (hf:∀id o,au hp id=some o->id<ct):∀id o,au (fy hp ct r).2.1 id=some o->id<(fy hp ct r).2.2:=by
 intro id o h;cases r<;>simp only [fy] at h ⊢<;>try exact hf id o h
 rw [fI] at h
 grind
def MT:∀{vs:List AV} {hp:Hp} {ct:Nat},(∀id o,au hp id=some o->id<ct)->∀id o,au hp id=some o->au (jL hp ct vs).2.1 id=some o
 | [],hp,ct,_,id,o,h=>by simpa [jL] using h
 | v::r,hp,ct,hf,id,o,h=>by
  exact MT (Ip hf) id o (Sj hf id o h)
def aeC {lo:Nat} (bh:O.w0.heap.size<=lo):∀{vs:List AV} {us:List yh} {bs:List Nat} {hp:Hp} {ct:Nat} {m:Mp} {S:Nat->Prop},aU O m S w H cH->cZ (jL hp ct vs).2.1 H->(jL hp ct vs).2.2<=cH->
  (∀id o,au hp id=some o->id<ct)->(∀id,ct<=id->id<(jL hp ct vs).2.2->m id=none)->
  kR O.af S w lo vs us bs->bs.Nodup->(∀j q,m j=some q->q.b∉bs)->
  ∃m' S',aU O m' S' w H cH/\dl m m'/\(∀id p,m' id=some p->m id=some p\/(ct<=id/\id<(jL hp ct vs).2.2/\p.b∈bs))/\ay O.af m' S' w (jL hp ct vs).1 us/\(∀b,S b->S' b)/\(∀b,S' b->S b\/b∈bs)
 | [],us,bs,hp,ct,m,S,hh,hl,eM,hf,hn,hr,kB,oG=>by
  simp only [kR] at hr;exact ⟨m,S,hh,dl.refl,fun _ _ h=> .inl h,by simp only [jL,ay];exact hr.1,fun _ h=>h,fun _ h=> .inl h⟩
 | v::r,us,bs,hp,ct,m,S,hh,hl,eM,hf,hn,hr,kB,oG=>by
  simp only [kR] at hr;obtain ⟨u,t,b1,b2,rfl,rfl,h1,h2⟩:=hr;simp only [jL] at hl eM hn ⊢;have ew:=MR (hp:=hp) (ct:=ct) (r:=v);have sN:=MS (vs:=r) (hp:=(fy hp ct v).2.1) (ct:=(fy hp ct v).2.2);rw [List.nodup_append] at kB;obtain ⟨m1,S1,k1,k2,k3,k4,k5,k6⟩:=aeB (hp:=hp) (ct:=ct) (lo:=lo) hh ((fun id o h=>hl id o (MT (Ip hf) id o h))) (by omega) (fun id g1 g2=>hn id g1 (by omega)) h1 bh
   (fun j q hq hb=>oG j q hq (by simp [hb]))
  have h2':kR O.af S1 w lo r t b2:=by
   clear k4;have TS:∀b,S1 b->S b\/b∈b1:=k6;have hd:∀b,b∈b2->b∉b1:=fun b hb kW=>kB.2.2 b kW b hb rfl
   have one:∀{v:AV} {u:yh} {bb:List Nat},(∀b,b∈bb->b∉b1)->iw O.af S w lo v u bb->iw O.af S1 w lo v u bb:=by
    intro v u bb sJ h
    cases v with
    | bn ex sz n cs=>
     simp only [iw] at h ⊢;obtain ⟨b,o,c,arr,tt,rfl,rfl,g1,g2,g3,g4,g5,g6,g7,g8,g9⟩:=h;exact ⟨b,o,c,arr,tt,rfl,rfl,g1,g2,g3,fun hs=>(TS b hs).elim g4 (sJ b (by simp)),g5,g6,g7,Cs k5 (fun _ _=>rfl) cs b o g9 rfl g8,g9⟩
    | _=>simp only [iw] at h ⊢;exact ⟨h.1,qD k5 (fun _ _=>rfl) _ _ h.2.2 h.2.1,h.2.2⟩
   clear k1 k2 k3 hl eM hn oG kB;revert hd h2;generalize b2=bb
   induction r generalizing t bb with
   | nil=>intro h2 hd;simpa only [kR] using h2
   | cons v' r ih=>
    intro h2 hd;simp only [kR] at h2 ⊢;obtain ⟨u',t',c1,c2,rfl,rfl,g1,g2⟩:=h2
    exact ⟨u',t',c1,c2,rfl,rfl,one (fun b hb=>hd b (by simp [hb])) g1,ih _ (by
     have:=MS (vs:=r) (hp:=(fy hp ct v).2.1) (ct:=(fy hp ct v).2.2)
     exact this) _ g2 (fun b hb=>hd b (by simp [hb]))⟩
  obtain ⟨m2,S2,g1,g2,g3,g4,g5,g6⟩:=aeC bh (vs:=r) (us:=t) (bs:=b2) (m:=m1) (S:=S1) k1 hl eM (Ip hf) (fun id q1 q2=>by
   cases hq:m1 id with
   | none=>rfl
   | some p=>
    rcases k3 id p hq with h | ⟨_,h,_⟩
    ·rw [hn id (by omega) q2] at h;cases h
    ·omega) h2' kB.2.1 (fun j q hq hb=>by
     rcases k3 j q hq with h | ⟨_,_,h⟩
     ·exact oG j q h (by simp [hb])
     ·exact kB.2.2 q.b h q.b hb rfl)
  refine ⟨m2,S2,g1,k2.trans g2,fun id p aj=>?_,?_,fun b hb=>g5 b (k5 b hb),fun b hb=>?_⟩
  ·rcases g3 id p aj with h | ⟨a1,a2,a3⟩
   ·rcases k3 id p h with h | ⟨a1,a2,a3⟩
    ·exact .inl h
    ·exact .inr ⟨a1,by omega,by simp [a3]⟩
   ·exact .inr ⟨by omega,a2,by simp [a3]⟩
  ·simp only [ay];exact ⟨u,t,rfl,lz g2 g5 (fun _ _=>rfl) _ _ k4,g4⟩
  ·rcases g6 b hb with h | h
   ·exact (k6 b h).imp (fun h=>h) (fun h=>by simp [h])
   ·exact .inr (by simp [h])
def avX {hp:Hp} {ct lo:Nat} {r:AV} {u:yh} (hh:aU O m S w H cH) (hl:cZ (own hp ct r).2.1 H) (eM:(own hp ct r).2.2<=cH) (hf:∀id o,au hp id=some o->id<ct)
  (hn:∀id,ct<=id->id<(own hp ct r).2.2->m id=none) (hr:nd O.af S w lo r u) (bh:O.w0.heap.size<=lo) (KK:∀j q,m j=some q->q.b<lo):
  ∃m' S',aU O m' S' w H cH/\dl m m'/\(∀id p,m' id=some p->m id=some p\/(ct<=id/\id<(own hp ct r).2.2/\lo<=p.b))/\ah O.af m' S' w (own hp ct r).1 u/\(∀b,S b->S' b)/\(∀b,S' b->S b\/lo<=b):=by
 have one:∀(r:AV) (bs:List Nat),own hp ct r=fy hp ct r->iw O.af S w lo r u bs->cZ (own hp ct r).2.1 H->(own hp ct r).2.2<=cH->(∀id,ct<=id->id<(own hp ct r).2.2->m id=none)->
   ∃m' S',aU O m' S' w H cH/\dl m m'/\(∀id p,m' id=some p->m id=some p\/(ct<=id/\id<(own hp ct r).2.2/\lo<=p.b))/\ah O.af m' S' w (own hp ct r).1 u/\(∀b,S b->S' b)/\(∀b,S' b->S b\/lo<=b):=by
  intro r bs he hr hl eM hn;rw [he] at hl eM hn ⊢;have Di:=Sh hr;obtain ⟨m',S',k1,k2,k3,k4,k5,k6⟩:=aeB hh hl eM hn hr bh (fun j q hq hb=>by have:=KK j q hq;have:=(Di _ hb).1;omega)
  exact ⟨m',S',k1,k2,fun id p h=>(k3 id p h).imp (fun h=>h) (fun h=>⟨h.1,h.2.1,(Di _ h.2.2).1⟩),k4,k5,fun b hb=>(k6 b hb).imp (fun h=>h) (fun h=>(Di _ h).1)⟩
 cases r with
 | ae vs=>
  simp only [own] at hl eM hn ⊢;simp only [nd] at hr;obtain ⟨us,bs,rfl,h1,h2⟩:=hr;have Di:=Si h1;obtain ⟨m',S',k1,k2,k3,k4,k5,k6⟩:=aeC bh hh hl eM hf hn h1 h2 (fun j q hq hb=>by have:=KK j q hq;have:=(Di _ hb).1;omega)
  exact ⟨m',S',k1,k2,fun id p h=>(k3 id p h).imp (fun h=>h) (fun h=>⟨h.1,h.2.1,(Di _ h.2.2).1⟩),by simp only [ah];exact ⟨us,rfl,k4⟩,k5,fun b hb=>(k6 b hb).imp (fun h=>h) (fun h=>(Di _ h).1)⟩
 | _=>
  simp only [nd] at hr;obtain ⟨bs,hr⟩:=hr;exact one _ bs rfl hr hl eM hn
end
end
section
open Go
section
variable {O:bl} {m m':Mp} {S:Nat->Prop} {w:yi} {f:Nat->Option Nat}
def E9 (f:Nat->Option Nat) (m m':Mp):Prop:=∀id j,f id=some j->m' j=m id
mutual
def aeD {af:Nat->Nat} (hf:E9 f m m'):∀(v:AV) (u:yh),ah af m S w v u->ah af m' S w (b7 f v) u
 | .int _ _,_,h | .bool _,_,h | .bQ _ _,_,h | .str _,_,h | .kQ,_,h | .aa,_,h | .jb,_,h | .km,_,h | .undef,_,h=>by
  simpa only [b7,ah] using h
 | .ptr id o,u,h=>by
  simp only [b7]
  cases hi:f id with
  | none=>simp only [ah]
  | some j=>
   simp only [ah] at h ⊢;rw [hf id j hi];exact h
 | .b6 cs,u,h=>by
  simp only [b7];exact qD (fun _ h=>h) (fun _ _=>rfl) _ _ (by simp [bg]) h
 | .aw ex n cs,u,h=>by
  simp only [b7];exact qD (fun _ h=>h) (fun _ _=>rfl) _ _ (by simp [bg]) h
 | .bn _ _ _ _,u,h=>by simp only [ah] at h
 | .ao id o n,u,h=>by
  simp only [b7]
  cases hi:f id with
  | none=>simp only [ah]
  | some j=>
   simp only [ah] at h ⊢;rw [hf id j hi];exact h
 | .fn (.f g) first cap,u,h=>by
  simp only [b7,ah] at h ⊢;obtain ⟨fi,ca,h1,h2,h3⟩:=h;exact ⟨fi,ca,h1,AS hf first _ h2,AS hf cap _ h3⟩
 | .fn (.y l) first cap,u,h=>by
  simp only [b7]
  cases hi:f l with
  | none=>simp only [ah]
  | some j=>
   simp only [ah] at h ⊢;rw [hf l j hi];exact h
 | .map id,u,h=>by
  simp only [b7]
  cases hi:f id with
  | none=>simp only [ah]
  | some j=>
   simp only [ah] at h ⊢;rw [hf id j hi];exact h
 | .jy ks vs,u,h=>by
  simp only [b7];exact qD (fun _ h=>h) (fun _ _=>rfl) _ _ (by simp [bg]) h
 | .it id,u,h=>by
  simp only [b7]
  cases hi:f id with
  | none=>simp only [ah]
  | some j=>
   simp only [ah] at h ⊢;rw [hf id j hi];exact h
 | .agg cs,u,h=>by
  simp only [b7,ah] at h ⊢;obtain ⟨xs,h1,h2⟩:=h;exact ⟨xs,h1,AS hf cs _ h2⟩
 | .ae cs,u,h=>by
  simp only [b7,ah] at h ⊢;obtain ⟨xs,h1,h2⟩:=h;exact ⟨xs,h1,AS hf cs _ h2⟩
def AS {af:Nat->Nat} (hf:E9 f m m'):∀(vs:List AV) (us:List yh),ay af m S w vs us->ay af m' S w (eE f vs) us
 | [],us,h=>by simpa only [eE,ay] using h
 | v::r,us,h=>by
  simp only [eE,ay] at h ⊢;obtain ⟨u,t,h1,h2,h3⟩:=h;exact ⟨u,t,h1,aeD hf v u h2,AS hf r t h3⟩
end
def apQ {af:Nat->Nat} (hf:E9 f m m') {cs:List AV} {b o:Nat} (h:bU af m S w cs b o):bU af m' S w (eE f cs) b o:=by
 obtain ⟨us,h1,_,h3⟩:=rD cs b o h;exact Et _ us o (AS hf cs us h1) h3
def RM:∀cs:List AV,(eE f cs).length=cs.length
 | []=>rfl
 | c::r=>by simp [eE,RM r]
def ado:∀(tm:Env) (i:Nat),ai (fC f tm) i=b7 f (ai tm i)
 | [],i=>by simp [fC,ai,b7]
 | (j,v)::r,i=>by
  simp only [fC,ai]
  cases yv j i with
  | true=>rfl
  | false=>exact ado r i
def acp (tm:Env) (i:Nat):∀live:List Nat,ai (cg tm live) i=ai tm i\/ai (cg tm live) i= .undef
 | []=> .inr rfl
 | j::r=>by
  simp only [cg,ai]
  cases hb:yv j i with
  | true=>rw [yp hb];exact .inl rfl
  | false=>exact acp tm i r
def adp {tm:Env} {tmps:Array yh} (hf:E9 f m m') (h:b8 O m S w tm tmps):b8 O m' S w (fC f tm) tmps:=fun i=>by
 rw [ado];exact aeD hf _ _ (h i)
def arC {id j:Nat} {o:Obj} {p:Pl} (hf:E9 f m m') (hm:m id=some p) (hj:m' j=some p) (h:fg O m S w id o):fg O m' S w j (iH f o):=by
 cases o with
 | cells rw pu ex sz cs=>
  obtain ⟨q,arr,t,h1,h2,h3,h4,h5,h6,h7,h8,h9,iO⟩:=h;rw [hm] at h1;injection h1 with h1;subst h1
  cases pu with
  | true=>exact ⟨p,arr,t,hj,h2,h3,h4,h5,h6,Cs (fun _ h=>h) (fun _ _=>rfl) _ _ _ (h8 rfl) rfl h7,h8,h9,iO⟩
  | false=>exact ⟨p,arr,t,hj,h2,h3,by rw [yT,RM];exact h4,h5,by rw [yT,RM];exact h6,apQ hf h7,by simp,h9,iO⟩
 | mp rw ks vs=>
  obtain ⟨q,es,clock,h1,h2,h3,h4,h5,h6⟩:=h;rw [hm] at h1;injection h1 with h1;subst h1
  exact ⟨p,es,clock,hj,h2,AS hf _ _ h3,AS hf _ _ h4,h5,h6⟩
 | si s pos=>
  obtain ⟨q,t,h1,h2,h3,h4⟩:=h;rw [hm] at h1;injection h1 with h1;subst h1
  exact ⟨p,t,hj,h2,h3,h4⟩
 | lp tm ps cM body st pe=>
  obtain ⟨q,l,hi,h1,h2,h3,h4,h5,h6,h7,h8⟩:=h;rw [hm] at h1;injection h1 with h1;subst h1
  exact ⟨p,l,hi,hj,h2,h3,h4,h5,h6,adp hf h7,h8⟩
def acq {i:Nat}:∀{l:List Nat} {k j:Nat},ef i l k=some j->k<=j/\l[j-k]? =some i
 | [],k,j,h=>by simp [ef] at h
 | x::r,k,j,h=>by
  simp only [ef] at h
  cases hb:yv x i with
  | true=>
   simp_all
  | false=>
   rw [hb] at h;obtain ⟨h1,h2⟩:=acq h
   grind
def zo {a b:Nat}:yQ a b=true↔a<b:=by simp_all
def LU {hp:Hp} {j:Nat} {o':Obj}:∀{l:List Nat} {k:Nat} {acc:Hp},au (gW hp f l k acc) j=some o'->
  (∃i id o,l[i]? =some id/\j=k+i/\au hp id=some o/\o'=iH f o)\/au acc j=some o'
 | [],k,acc,h=> .inr h
 | x::r,k,acc,h=>by
  simp only [gW] at h
  cases hx:au hp x with
  | none=>
   simp only [hx] at h;rcases LU h with ⟨i,id,o,h1,h2,h3,h4⟩ | h
   ·exact .inl ⟨i+1,id,o,by simpa using h1,by omega,h3,h4⟩
   ·grind
  | some o=>
   simp only [hx] at h;rcases LU h with ⟨i,id,o,h1,h2,h3,h4⟩ | h
   ·exact .inl ⟨i+1,id,o,by simpa using h1,by omega,h3,h4⟩
   ·rw [fI] at h;by_cases hc:k=j
    ·simp only [hc,xE,yd] at h;exact .inl ⟨0,x,o,by simp,by omega,hx,h.symm⟩
    ·grind
def LV {base:Nat} {j:Nat} {o':Obj}:∀{hp:Hp},au (mq base f hp) j=some o'->j<base/\∃o,au hp j=some o/\o'=iH f o
 | [],h=>by simp [mq,au] at h
 | (i,q)::r,h=>by
  simp only [mq] at h
  cases hb:yQ i base with
  | true=>
   rw [hb] at h;simp only [yA] at h;rw [fI] at h;by_cases hc:i=j
   ·simp only [hc,xE,yd] at h;exact ⟨by rw [<-hc];exact zo.1 hb,q,by rw [fI];simp [hc],h.symm⟩
   ·simp only [hc,xg] at h;obtain ⟨h1,o,h2,h3⟩:=LV h;exact ⟨h1,o,by rw [fI];simp [hc,h2],h3⟩
  | false=>
   rw [hb] at h;obtain ⟨h1,o,h2,h3⟩:=LV h;have hc:¬i=j:=fun e=>by
    have:=zo.2 h1
    grind
   exact ⟨h1,o,by rw [fI];simp [hc,h2],h3⟩
def pH (m:Mp) (base:Nat) (seen:List Nat):Mp:=fun j=>
 if j<base then m j else match seen[j-base]? with
  | some id=>if kL base seen id=some j then m id else none
  | none=>none
def Rk {base:Nat} {seen:List Nat} {j:Nat} {p:Pl} (h:pH m base seen j=some p):∃id,kL base seen id=some j/\m id=some p/\(j<base->id=j):=by
 unfold pH at h
 split at h
 ·rename_i hj;exact ⟨j,by simp [kL,zo.2 hj],h,fun _=>rfl⟩
 ·grind
def arD {base:Nat} {seen:List Nat}:E9 (kL base seen) m (pH m base seen):=by
 intro id j h;have h0:=h;unfold kL at h
 cases hb:yQ id base with
 | true=>
  rw [hb] at h;simp only [yA,yd] at h;subst h;simp [pH,zo.1 hb]
 | false=>
  rw [hb] at h;obtain ⟨h1,h2⟩:=acq h
  have:¬j<base:=by omega
  simp only [pH,this,xg,h2,h0,xE]
def Q0 {s:St} {tmps:Array yh} {live:List Nat} (ht:b8 O m S w s.tm tmps) (hh:aU O m S w s.hp s.ct) (hb:s.base<=s.ct):
  ∃m',b8 O m' S w (aI live s).tm tmps/\aU O m' S w (aI live s).hp (aI live s).ct/\(aI live s).base=s.base/\s.base<=(aI live s).ct/\ck m S w s.hp m' S w (aI live s).hp s.base:=by
 simp only [aI];generalize ai2:reach s.hp s.base 100000 (fc (cg s.tm live)++js s.base s.hp) []=seen;have hr:=arD (m:=m) (base:=s.base) (seen:=seen);have aW:∀j p,pH m s.base seen j=some p->j<s.base+seen.length:=by
  intro j p h;unfold pH at h
  grind
 have back:∀j o' p,au (gW s.hp (kL s.base seen) seen s.base (mq s.base (kL s.base seen) s.hp)) j=some o'->pH m s.base seen j=some p->
   ∃id o,kL s.base seen id=some j/\au s.hp id=some o/\m id=some p/\o'=iH (kL s.base seen) o:=by
  intro j o' p ho hm;obtain ⟨id,h1,h2,h3⟩:=Rk hm;rcases LU ho with ⟨i,Zw,o,g1,g2,g3,g4⟩ | ho
  ·have hj:¬j<s.base:=by omega
   have:pH m s.base seen j=if kL s.base seen Zw=some j then m Zw else none:=by
    simp only [pH,hj,xg,show j-s.base=i by omega,g1]
   grind
  ·obtain ⟨g1,o,g2,g3⟩:=LV ho
   grind
 refine ⟨pH m s.base seen,?_,⟨?_,aW,?_,hh.slt,?_,?_,hh.lJ,hh.fU,fun j o' ho=>(by
  rcases LU ho with ⟨i,Zw,o,g1,g2,g3,g4⟩ | ho
  ·grind
  ·have:=(LV ho).1;omega)⟩,by trivial,by omega,⟨rfl,rfl,rfl,yu _,fun _ _ _=>rfl,fun _ h=>h,fun _ _=>rfl,fun _ h=> .inl h,?_,?_,fun _ r h=>⟨r,h⟩⟩⟩
 ·refine adp hr (fun i=>?_);rcases acp s.tm i live with h | h
  ·rw [h];exact ht i
  ·rw [h];simp only [ah]
 ·intro j o' p ho hm;obtain ⟨id,o,h1,h2,h3,rfl⟩:=back j o' p ho hm;exact arC hr h3 hm (hh.obj id o p h2 h3)
 ·intro i j oi oj pi pj hi hj bM gD e;obtain ⟨idi,o1,a1,a2,a3,_⟩:=back i oi pi hi bM;obtain ⟨idj,o2,b1,b2,b3,_⟩:=back j oj pj hj gD
  have:=hh.inj idi idj o1 o2 pi pj a2 b2 a3 b3 e
  grind
 ·intro j p hm;obtain ⟨id,_,h2,_⟩:=Rk hm;exact hh.blt id p h2
 ·intro j p hm;obtain ⟨id,_,h2,_⟩:=Rk hm;exact hh.low id p h2
 ·rintro b ⟨j,o',p,h1,h2,h3⟩;obtain ⟨id,o,_,g2,g3,_⟩:=back j o' p h1 h2;exact .inl ⟨id,o,p,g2,g3,h3⟩
 ·intro id p hid hm;simp [pH,hid,hm]
end
end
end VE
