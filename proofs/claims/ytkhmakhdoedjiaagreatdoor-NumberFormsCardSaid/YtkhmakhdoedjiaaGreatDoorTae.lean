import Derived.Laws.Tables
import Derived.Test.YtkhmakhdoedjiaaGreatDoorTad
set_option linter.all false
set_option maxRecDepth 100000
section
namespace VE
open Go
section
variable {Λ:Link} {H:zbH} {m:Mp} {S:Nat→Prop} {w:World} {tm:Env} {a:Act} {hp:Hp} {ct:Nat}
theorem zdl {o:Oper} {b:Builtin} {args:Array Operand} {ts:Array TypeId} (ho:o.op= .call {callee:= .builtin b,args:=args,argTypes:=ts}):
  ∃cs,(execOp a.eval o).run Λ.P w=(builtin b ts o.type cs (args.map a.eval)).run Λ.P w:=by
 exact ⟨_,by simp only [execOp,ho,resolve,Sem.run_bind,Sem.run_pure,Result.andThen_ok,invoke];rfl⟩
theorem zvs {o:Oper} {c:Call} {k:Nat} {v:AV} (hH:zaM Λ H) (ht:zaB Λ m S w tm a.tmps) (hh:zR Λ m S w hp ct) (ho:o.op= .call c)
  (hv:zB tm hp (zt Λ.P H k o)=some v):zg9 Λ m S w a o v:=by
 obtain ⟨callee,args,ts⟩:=c;simp only [zt,ho] at hv
 split at hv
 ·cases hmd:H.mode k<;>simp [hmd,zB] at hv
 ·rename_i _ b
  split at hv
  ·have key:∀{bb:Bool} {sz by':Nat} {x y:X},zB tm hp (bif bb then .app sz by' x y else bad)=some v→False:=by
    intro bb sz by' x y h
    cases bb
    ·exact zP h
    ·simp [zB] at h
   split at hv
   ·split at hv
    ·exact (key hv).elim
    ·exact (zP hv).elim
   ·split at hv
    ·exact (key hv).elim
    ·exact (zP hv).elim
   ·exact (zP hv).elim
  ·rename_i x t hargs hts;obtain ⟨al⟩:=args;obtain ⟨tl⟩:=ts;simp only at hargs hts;subst hargs;subst hts;obtain ⟨cs,hrun⟩:=zdl (Λ:=Λ) (w:=w) (a:=a) ho;have fin:(∃u,(Builtin.len_ #[t] o.type #[a.eval x]).run Λ.P w= .ok u w∧zm Λ.fid m S w v u)→zg9 Λ m S w a o v:=by
    rintro ⟨u,h1,h2⟩;refine ⟨u,?_,h2⟩;rw [hrun];simp [builtin,h1]
   split at hv
   ·rename_i n e hu;simp only [zB,zp,Option.some.injEq] at hv;subst hv;exact fin ⟨_,by simp [Builtin.len_,run_underlying hu];rfl,by simp [zm,goInt]⟩
   ·rename_i hu;simp only [zB] at hv;exact fin (zpq hh (zad hH ht x) (.inl ⟨rfl,hu⟩) hv)
   ·rename_i e hu;simp only [zB] at hv;exact fin (zpq hh (zad hH ht x) (.inr (.inl ⟨rfl,e,hu⟩)) hv)
   ·rename_i kt e hu;simp only [zB] at hv;exact fin (zpq hh (zad hH ht x) (.inr (.inr ⟨rfl,kt,e,hu⟩)) hv)
   ·exact (zP hv).elim
  ·split at hv
   ·split at hv
    ·simp [zB] at hv
    ·exact (zP hv).elim
   ·exact (zP hv).elim
  ·simp only [zB] at hv;obtain ⟨cs,hrun⟩:=zdl (Λ:=Λ) (w:=w) (a:=a) ho;have hl:=zgK hH ht args.toList
   cases hx:zaz tm (zdB H args.toList) with
   | nil=>simp [hx] at hv
   | cons c r=>
    simp only [hx] at hv;rw [hx] at hl;simp only [zi] at hl;obtain ⟨u,us,h1,h2,h3⟩:=hl;obtain ⟨q,h4,h5⟩:=zmF (Λ:=Λ) (g:=Builtin.min2) (fun va vb v x y hx hy h=>zzX hx hy h) r us c v u h2 h3 hv;refine ⟨q,?_,h5⟩;rw [hrun];simp [builtin,Builtin.min_,h1,h4]
  ·simp only [zB] at hv;obtain ⟨cs,hrun⟩:=zdl (Λ:=Λ) (w:=w) (a:=a) ho;have hl:=zgK hH ht args.toList
   cases hx:zaz tm (zdB H args.toList) with
   | nil=>simp [hx] at hv
   | cons c r=>
    simp only [hx] at hv;rw [hx] at hl;simp only [zi] at hl;obtain ⟨u,us,h1,h2,h3⟩:=hl;obtain ⟨q,h4,h5⟩:=zmF (Λ:=Λ) (g:=Builtin.max2) (fun va vb v x y hx hy h=>zAn hx hy h) r us c v u h2 h3 hv;refine ⟨q,?_,h5⟩;rw [hrun];simp [builtin,Builtin.max_,h1,h4]
  ·exact (zP hv).elim
 ·exact (zP hv).elim
theorem zjV {kt:TypeId} {kk:Nat} {vk:AV} (hk:keyOf Λ.P kt=some kk) (h:zdF kk vk=true):∃d,Λ.P.underlying kt=some d∧zAY d=true∧zka d vk=true:=by
 unfold keyOf at hk
 split at hk
 ·rename_i hu;simp only [Option.some.injEq] at hk;subst hk;refine ⟨_,hu,rfl,?_⟩;cases vk<;>simp_all [zdF,zka]
 ·rename_i hu;simp only [Option.some.injEq] at hk;subst hk;refine ⟨_,hu,rfl,?_⟩;cases vk<;>simp_all [zdF,zka]
 ·rename_i hu;simp only [Option.some.injEq] at hk;subst hk;refine ⟨_,hu,rfl,?_⟩;cases vk<;>simp_all [zdF,zka]
 ·cases hk
theorem zqJ {o:Oper} {k:Nat} {v:AV} (hH:zaM Λ H) (ht:zaB Λ m S w tm a.tmps) (hh:zR Λ m S w hp ct)
  (hv:zB tm hp (zt Λ.P H k o)=some v):zg9 Λ m S w a o v:=by
 cases ho:o.op with
 | call c=>exact zvs hH ht hh ho hv
 | binOp op t x y ty=>exact zxV hH ht ho hv
 | move x=>
  simp only [zt,ho,zB,Option.some.injEq] at hv;subst hv;exact ⟨_,by simp only [execOp,ho,Sem.run_pure],zad hH ht x⟩
 | assign x=>
  simp only [zt,ho,zB,Option.some.injEq] at hv;subst hv;exact ⟨_,by simp only [execOp,ho,Sem.run_pure],zad hH ht x⟩
 | pick c x y=>
  simp only [zt,ho,zB] at hv;have rc:=zad hH ht c;cases hc:zp tm (opX H c)<;>rw [hc] at hv<;>simp only [reduceCtorEq] at hv
  rename_i b;rw [hc] at rc;simp only [zm] at rc;simp only [Option.some.injEq] at hv;subst hv
  cases b with
  | true=>exact ⟨a.eval x,by simp [execOp,ho,rc,asBool],zad hH ht x⟩
  | false=>exact ⟨a.eval y,by simp [execOp,ho,rc,asBool],zad hH ht y⟩
 | load t x=>
  simp only [zt,ho] at hv
  split at hv
  ·rename_i s ag hz ha;simp only [zB] at hv;exact zaO (by simp only [execOp,ho]) (zNB hh hz ha (zad hH ht x) hv)
  ·exact (zP hv).elim
 | fieldAddr t x i=>
  simp only [zt,ho] at hv
  split at hv
  ·rename_i fs hu
   split at hv
   ·rename_i f hf
    split at hv
    ·rename_i s hz;simp only [zB] at hv;exact zaO (by simp only [execOp,ho]) (zGf hu hf hz (zad hH ht x) hv)
    ·exact (zP hv).elim
   ·exact (zP hv).elim
  ·exact (zP hv).elim
 | field t x i=>
  simp only [zt,ho] at hv
  split at hv
  ·rename_i fs hu
   split at hv
   ·rename_i f hf
    split at hv
    ·rename_i s ag hz ha;simp only [zB] at hv;exact zaO (by simp only [execOp,ho]) (zFf hu hf hz ha (zad hH ht x) hv)
    ·exact (zP hv).elim
   ·exact (zP hv).elim
  ·exact (zP hv).elim
 | nilCheck x=>
  simp only [zt,ho,zB] at hv;have rx:=zad hH ht x;cases hx:zp tm (opX H x)<;>rw [hx] at hv rx<;>simp only [reduceCtorEq,Option.some.injEq] at hv
  ·subst hv;have r':=rx;simp only [zm] at r';obtain ⟨p,_,e⟩:=r';exact ⟨a.eval x,by simp only [execOp,ho,e,Sem.run_pure],rx⟩
  ·subst hv;have r':=rx;simp only [zm] at r';obtain ⟨b,o',e,_⟩:=r';exact ⟨a.eval x,by simp only [execOp,ho,e,Sem.run_pure],rx⟩
  ·subst hv;rename_i f _ _
   cases f with
   | f g=>
    have r':=rx;simp only [zm] at r';obtain ⟨fi,ca,e,_⟩:=r';exact ⟨a.eval x,by simp only [execOp,ho,e,Sem.run_pure],rx⟩
   | y l=>
    have r':=rx;simp only [zm] at r';obtain ⟨p,_,e⟩:=r';exact ⟨a.eval x,by simp only [execOp,ho,e,Sem.run_pure],rx⟩
 | unOp op t x=>
  simp only [zt,ho,zB] at hv;exact zaO (by simp only [execOp,ho]) (zzZ (zad hH ht x) hv)
 | convert s d x=>
  simp only [zt,ho] at hv
  split at hv
  ·rename_i k1 k2 hs hd;simp only [zB] at hv;exact zaO (by simp only [execOp,ho]) (znq hd (.inl ⟨_,hs⟩) (zad hH ht x) hv)
  ·rename_i k1 k2 hs hd;simp only [zB] at hv;exact zaO (by simp only [execOp,ho]) (znq hd (.inr ⟨_,hs⟩) (zad hH ht x) hv)
  ·rename_i k1 k2 hs hd;simp only [zB] at hv;exact zaO (by simp only [execOp,ho]) (zns hd (.inl ⟨_,hs⟩) (zad hH ht x) hv)
  ·rename_i k1 k2 hs hd;simp only [zB] at hv;exact zaO (by simp only [execOp,ho]) (zns hd (.inr ⟨_,hs⟩) (zad hH ht x) hv)
  ·rename_i hs hd;simp only [zB] at hv;exact zaO (by simp only [execOp,ho]) (zxL hd hs (zad hH ht x) hv)
  ·exact (zP hv).elim
 | makeFunc fn first cap=>
  cases fn with
  | func f=>
   simp only [zt,ho] at hv
   split at hv
   ·rename_i g hg;simp only [zB,Option.some.injEq] at hv;subst hv;refine ⟨.func (.func f) (first.map a.eval) (cap.map a.eval),by simp [execOp,ho,Instr.makeFunc],?_⟩;simp only [zm];exact ⟨_,_,by rw [hH f g hg],by simpa using zgK hH ht first.toList,by simpa using zgK hH ht cap.toList⟩
   ·exact (zP hv).elim
  | _=>simp only [zt,ho] at hv;exact (zP hv).elim
 | slice t x lo hi mx=>
  cases mx with
  | some q=>simp only [zt,ho] at hv;exact (zP hv).elim
  | none=>
   simp only [zt,ho] at hv
   split at hv
   ·rename_i hu;simp only [zB] at hv;exact zaO (by simp only [execOp,ho];rfl) (ztF hH ht hu (zad hH ht x) hv)
   ·rename_i e hu
    split at hv
    ·rename_i s hz;simp only [zB] at hv;exact zaO (by simp only [execOp,ho];rfl) (zy6 hH ht hu hz hh (zad hH ht x) hv)
    ·exact (zP hv).elim
   ·split at hv
    ·simp only [zB] at hv;cases hx:zp tm (opX H x)<;>rw [hx] at hv<;>simp [zbe] at hv
    ·exact (zP hv).elim
   ·exact (zP hv).elim
 | indexAddr t x i=>
  simp only [zt,ho] at hv
  split at hv
  ·rename_i e hu
   split at hv
   ·rename_i s hz;simp only [zB] at hv
    cases hk:zaE (zp tm (opX H i)) with
    | none=>simp [hk] at hv
    | some j=>
     simp only [hk] at hv;exact zaO (by simp only [execOp,ho]) (zJI hu hz (zad hH ht x) (zad hH ht i) hk hv)
   ·exact (zP hv).elim
  ·rename_i n e hu
   split at hv
   ·rename_i s hz;simp only [zB] at hv
    cases hk:zaE (zp tm (opX H i)) with
    | none=>simp [hk] at hv
    | some j=>
     simp only [hk] at hv;exact zaO (by simp only [execOp,ho]) (zG3 hu hz (zad hH ht x) (zad hH ht i) hk hv)
   ·exact (zP hv).elim
  ·exact (zP hv).elim
 | index t x i=>
  simp only [zt,ho] at hv
  split at hv
  ·rename_i hu;simp only [zB] at hv
   cases hk:zaE (zp tm (opX H i)) with
   | none=>simp [hk] at hv
   | some j=>
    simp only [hk] at hv;exact zaO (by simp only [execOp,ho]) (zFZ hu (zad hH ht x) (zad hH ht i) hk hv)
  ·rename_i n e hu
   split at hv
   ·rename_i s ag hz ha;simp only [zB] at hv
    cases hk:zaE (zp tm (opX H i)) with
    | none=>simp [hk] at hv
    | some j=>
     simp only [hk] at hv;exact zaO (by simp only [execOp,ho]) (zJR hu hz ha (zad hH ht x) (zad hH ht i) hk hv)
   ·exact (zP hv).elim
  ·exact (zP hv).elim
 | lookup t x i ok=>
  simp only [zt,ho] at hv
  split at hv
  ·rename_i kt e hu
   split at hv
   ·rename_i kk z hkk hz;simp only [zB] at hv
    cases hf:zdF kk (zp tm (opX H i)) with
    | false=>simp [hf] at hv
    | true=>
     simp only [hf,cond_true] at hv;obtain ⟨d,hd1,hd2,hd3⟩:=zjV hkk hf;obtain ⟨zv,hz1,rfl⟩:=zf0 (w:=w) hz
     cases hr:ziw hp (zp tm (opX H i)) (zp tm (opX H x)) with
     | none=>simp [hr] at hv
     | some r=>
      refine zaO (by simp only [execOp,ho]) (zKm (ok:=ok) (r:=r) (z:=zaU zv) hh hu hd1 hd2 hd3 hz1 (zad hH ht x) (zad hH ht i) (zi4 zv) hr ?_);cases r<;>simpa [hr] using hv
   ·exact (zP hv).elim
  ·exact (zP hv).elim
 | extract x i=>
  simp only [zt,ho,zB] at hv;have rx:=zad hH ht x;cases hx:zp tm (opX H x)<;>rw [hx] at hv rx<;>simp only [reduceCtorEq] at hv
  simp only [zm] at rx;obtain ⟨xs,e,hr⟩:=rx;obtain ⟨u,h1,h2⟩:=zkd hr hv;refine ⟨u,?_,h2⟩;have h1':xs[i]? =some u:=by simpa using h1
  simp [execOp,ho,e,Instr.extract,h1']
 | build t parts=>
  simp only [zt,ho] at hv
  split at hv
  ·rename_i fs z hu hz
   split at hv
   ·rename_i pl hpl0;have hpl:=run_places (P:=Λ.P) w fs.toList pl hpl0
    split at hv
    case h_2=>exact (zP hv).elim
    rename_i ps hps;simp only [zB] at hv
    cases hf:fill tm z ps with
    | none=>simp [hf] at hv
    | some cs=>
     simp only [hf,Option.some.injEq] at hv;subst hv;obtain ⟨zv,hz1,hz2⟩:=zf0 (w:=w) hz;have hzc:zi Λ.fid m S w z zv.cells.toList:=by
      have:=zbF (fid:=Λ.fid) (m:=m) (S:=S) (w:=w) zv
      rw [←hz2] at this;exact this
     obtain ⟨out,h1,h2⟩:=zja hH ht (place:=fun i=>pl[i]?) parts.toList ps z cs zv.cells hps hzc hf;refine ⟨.agg out,?_,by simp only [zm];exact ⟨out,rfl,h2⟩⟩
     have hm:(Array.mapM (fun f=>Functor.map (Prod.mk f.offset) (Go.sizeOf f.type)) fs:Sem (Array (Nat×Nat))).run Λ.P w= .ok pl.toArray w:=by
      rw [Array.mapM_eq_mapM_toList];simp [hpl]
     simp [execOp,ho,Instr.build,hz1,run_underlying hu,hm,h1]
   ·exact (zP hv).elim
  ·rename_i n e z hu hz
   split at hv
   ·rename_i s hs
    split at hv
    ·rename_i ps hps;simp only [zB] at hv
     cases hf:fill tm z ps with
     | none=>simp [hf] at hv
     | some cs=>
      simp only [hf,Option.some.injEq] at hv;subst hv;obtain ⟨zv,hz1,hz2⟩:=zf0 (w:=w) hz;have hzc:zi Λ.fid m S w z zv.cells.toList:=by
       have:=zbF (fid:=Λ.fid) (m:=m) (S:=S) (w:=w) zv
       rw [←hz2] at this;exact this
      obtain ⟨out,h1,h2⟩:=zja hH ht (place:=fun i=>some (i*s,s)) parts.toList ps z cs zv.cells hps hzc hf;refine ⟨.agg out,?_,by simp only [zm];exact ⟨out,rfl,h2⟩⟩
      simp [execOp,ho,Instr.build,hz1,run_underlying hu,zaC hs,h1]
    ·exact (zP hv).elim
   ·exact (zP hv).elim
  ·exact (zP hv).elim
 | alloc t=>simp only [zt,ho] at hv;split at hv<;>simp [zB,bad] at hv
 | box t x=>simp only [zt,ho] at hv;split at hv<;>simp [zB,bad] at hv
 | buildSlice t n parts=>
  simp only [zt,ho] at hv
  split at hv
  ·split at hv
   ·rename_i s z _ _
    cases hc:Nat.ble (n*s) 16777216 with
    | false=>rw [hc] at hv;exact (zP hv).elim
    | true=>
     rw [hc] at hv;simp only [cond_true] at hv
     split at hv
     ·simp [zB] at hv
     ·exact (zP hv).elim
   ·exact (zP hv).elim
  ·exact (zP hv).elim
 | makeMap t r=>
  cases r<;>simp only [zt,ho] at hv
  ·repeat' split at hv
   all_goals simp [zB,bad] at hv
  ·exact (zP hv).elim
 | makeSlice t l c=>
  simp only [zt,ho] at hv
  repeat' split at hv
  all_goals simp [zB,bad] at hv
 | insert t x k y=>
  simp only [zt,ho] at hv
  repeat' split at hv
  all_goals simp [zB,bad] at hv
 | mapUpdate t x k y=>
  simp only [zt,ho] at hv
  repeat' split at hv
  all_goals simp [zB,bad] at hv
 | store t x y=>simp only [zt,ho] at hv;split at hv<;>simp [zB,bad] at hv
 | range t x=>simp only [zt,ho] at hv;split at hv<;>simp [zB,bad] at hv
 | next x b=>cases b<;>simp [zt,ho,zB,bad] at hv
 | _=>simp [zt,ho,zB,bad] at hv
end
end VE
end
section
namespace VE
open Go
def zcw (m:Mp) (id:Nat) (p:Pl):Mp:=fun i=>if i=id then some p else m i
theorem zQ {m:Mp} {id:Nat} {p:Pl}:zcw m id p id=some p:=by simp [zcw]
theorem zJ {m:Mp} {id i:Nat} {p:Pl} (h:i≠id):zcw m id p i=m i:=by simp [zcw,h]
section
variable {Λ:Link} {m:Mp} {S:Nat→Prop} {w:World} {hp:Hp} {ct:Nat}
def MLe (m m':Mp):Prop:=∀id p,m id=some p→m' id=some p
theorem MLe.refl {m:Mp}:MLe m m:=fun _ _ h=>h
theorem MLe.trans {m m' m'':Mp} (h:MLe m m') (k:MLe m' m''):MLe m m'':=fun id p hp=>k id p (h id p hp)
theorem zbf {i:Nat} (h:m i=none) {p:Pl}:MLe m (zcw m i p):=by
 intro id q hq;rw [zJ]
 ·exact hq
 ·rintro rfl;rw [h] at hq;cases hq
theorem zcq {tm:Env} {tmps:Array Value} {m':Mp} {S':Nat→Prop} {w':World} (hm:∀id p,m id=some p→m' id=some p) (hS:∀b,S b→S' b) (hw:zaP S w w')
  (h:zaB Λ m S w tm tmps):zaB Λ m' S' w' tm tmps:=fun i=>za9 hm hS hw _ _ (h i)
theorem za4 {o:Go.Obj} {b:Nat} (hb:b<w.heap.size):(w.alloc o).heap[b]? =w.heap[b]? :=RowKit.Below.heap_alloc w o b hb
theorem zbE {m':Mp} {S':Nat→Prop} {w':World} {id:Nat} {o:Obj} (hm:∀id p,m id=some p→m' id=some p) (hS:∀b,S b→S' b) (hw:zaP S w w') (hb:∀p,m id=some p→w'.heap[p.b]? =w.heap[p.b]?)
  (hn:∀p,m id=some p→S' p.b→S p.b) (h:zcB Λ m S w id o):zcB Λ m' S' w' id o:=by
 have rowAt:∀(cs:List AV) (b k:Nat),w'.heap[b]? =w.heap[b]? →zX Λ.fid m S w cs b k→zX Λ.fid m' S' w' cs b k:=by
  intro cs
  induction cs with
  | nil=>intro b k _ _;simp only [zX]
  | cons c cs ih=>
   intro b k hbb hr;simp only [zX] at hr ⊢;obtain ⟨⟨u,h1,h2⟩,h3⟩:=hr;exact ⟨⟨u,(zdA hbb).trans h1,za9 hm hS hw _ _ h2⟩,ih b (k+1) hbb h3⟩
 cases o with
 | cells rw pu ex sz cs=>
  obtain ⟨p,arr,t,h1,h2,h3,h4,h5,h6,h7,h8,h9,h10⟩:=h;exact ⟨p,arr,t,hm _ _ h1,(hb p h1).trans h2,h3,h4,h5,h6,rowAt cs p.b p.o (hb p h1) h7,h8,fun hr hs=>h9 hr (hn p h1 hs),fun hr=>hS _ (h10 hr)⟩
 | mp rw ks vs=>
  obtain ⟨p,es,clock,h1,h2,h3,h4,h5,h6⟩:=h;exact ⟨p,es,clock,hm _ _ h1,(hb p h1).trans h2,zah hm hS hw _ _ h3,zah hm hS hw _ _ h4,fun hr hs=>h5 hr (hn p h1 hs),fun hr=>hS _ (h6 hr)⟩
 | si s pos=>
  obtain ⟨p,t,h1,h2,h3,h4⟩:=h;exact ⟨p,t,hm _ _ h1,(hb p h1).trans h2,h3,fun hs=>h4 (hn p h1 hs)⟩
 | lp tm ps as_ body st pe=>
  obtain ⟨p,l,hi,h1,h2,h3,h4,h5,h6,h7,h8⟩:=h;exact ⟨p,l,hi,hm _ _ h1,(hb p h1).trans h2,fun hs=>h3 (hn p h1 hs),h4,h5,h6,zcq hm hS hw h7,h8⟩
theorem zag {id i:Nat} {o:Obj}:zq ((id,o)::hp) i=if id=i then some o else zq hp i:=by
 simp only [zq];by_cases h:id=i
 ·subst h;simp [Nat.beq_refl]
 ·have:Nat.beq id i=false:=by
   cases hq:Nat.beq id i with
   | false=>rfl
   | true=>exact absurd (Nat.eq_of_beq_eq_true hq) h
  simp [this,h]
theorem zd0 (hh:zR Λ m S w hp ct) (g:Go.Obj):zaP S w (w.alloc g):=fun b hb=>za4 (hh.slt b hb)
def oLe:Obj→Obj→Prop
 | .cells rw pu ex sz cs,o'=>∃rw',o'= .cells rw' pu ex sz cs∧(rw'=true→rw=true)
 | .mp rw ks vs,o'=>∃rw',o'= .mp rw' ks vs∧(rw'=true→rw=true)
 | .si s pos,o'=>o'= .si s pos
 | .lp tm ps as_ body st pe,o'=>o'= .lp tm ps as_ body st pe
theorem oLe.refl:∀o,oLe o o
 | .cells rw _ _ _ _=>⟨rw,rfl,fun h=>h⟩
 | .mp rw _ _=>⟨rw,rfl,fun h=>h⟩
 | .si _ _=>rfl
 | .lp _ _ _ _ _ _=>rfl
theorem oLe.trans {a b c:Obj} (h:oLe a b) (k:oLe b c):oLe a c:=by
 cases a with
 | cells rw pu ex sz cs=>
  obtain ⟨r1,rfl,h1⟩:=h;obtain ⟨r2,rfl,h2⟩:=k;exact ⟨r2,rfl,fun h=>h1 (h2 h)⟩
 | mp rw ks vs=>
  obtain ⟨r1,rfl,h1⟩:=h;obtain ⟨r2,rfl,h2⟩:=k;exact ⟨r2,rfl,fun h=>h1 (h2 h)⟩
 | si s pos=>simp only [oLe] at h;subst h;exact k
 | lp tm ps as_ body st pe=>simp only [oLe] at h;subst h;exact k
def HLe (hp hp':Hp):Prop:=∀id o,zq hp id=some o→∃o',zq hp' id=some o'∧oLe o o'
theorem HLe.refl {hp:Hp}:HLe hp hp:=fun _ o h=>⟨o,h,oLe.refl o⟩
theorem HLe.trans {a b c:Hp} (h:HLe a b) (k:HLe b c):HLe a c:=fun id o ho=>
 let ⟨o1,h1,l1⟩:=h id o ho
 let ⟨o2,h2,l2⟩:=k id o1 h1
 ⟨o2,h2,l1.trans l2⟩
def zaN:Obj→Prop
 | .cells rw _ _ _ _=>rw=false
 | .mp rw _ _=>rw=false
 | _=>False
theorem zrm {hp':Hp} {ct':Nat} (hh:zR Λ m S w hp ct) (hl:HLe hp hp') (hd:∀id o p,zq hp' id=some o→m id=some p→∃o',zq hp id=some o') (hct:ct≤ct') (hlt':∀id o,zq hp' id=some o→id<ct'):
  ∃S',zR Λ m S' w hp' ct'∧(∀b,S b→S' b)∧∀b,S' b→S b∨Own m hp b:=by
 refine ⟨fun b=>S b∨∃id p o,m id=some p∧p.b=b∧zq hp' id=some o∧zaN o,?_,fun b h=> .inl h,?_⟩
 ·refine ⟨?_,fun id p h=>Nat.lt_of_lt_of_le (hh.lt id p h) hct,?_,?_,hh.blt,hh.low,hh.good,hh.goodS,hlt'⟩
  ·intro id o' p ho' hm;obtain ⟨o,ho⟩:=hd id o' p ho' hm;obtain ⟨o'',h1,h2⟩:=hl id o ho;rw [ho'] at h1;injection h1 with h1
   subst h1;have h3:=hh.obj id o p ho hm;have hS:∀b,S b→(S b∨∃id p o,m id=some p∧p.b=b∧zq hp' id=some o∧zaN o):=fun b h=> .inl h
   have hfz:∀q,m id=some q→(∃id p o,m id=some p∧p.b=q.b∧zq hp' id=some o∧zaN o)→zaN o':=by
    rintro q hq ⟨j,pj,oj,hj1,hj2,hj3,hj4⟩;obtain ⟨oj',hj5⟩:=hd j oj pj hj3 hj1
    have:=hh.inj id j o oj' q pj ho hj5 hq hj1 hj2.symm
    subst this;rw [ho'] at hj3;injection hj3 with hj3
    subst hj3;exact hj4
   have hst:zaP S w w:=fun _ _=>rfl
   cases o with
   | cells rw pu ex sz cs=>
    obtain ⟨rw',rfl,hrw⟩:=h2;obtain ⟨q,arr,t,h1,h2,h3,h4,h5,h6,h7,h8,h9,h10⟩:=h3;refine ⟨q,arr,t,h1,h2,h3,h4,h5,h6,?_,h8,?_,?_⟩
    ·clear h4 h6 h8;revert h7;generalize q.o=k
     induction cs generalizing k with
     | nil=>intro _;simp only [zX]
     | cons c cs ih=>
      intro hr;simp only [zX] at hr ⊢;obtain ⟨⟨u,g1,g2⟩,g3⟩:=hr
      exact ⟨⟨u,g1,za9 (fun _ _ h=>h) hS hst _ _ g2⟩,by
       have hra:∀(cs:List AV) (b k:Nat),zX Λ.fid m S w cs b k→zX Λ.fid m (fun b=>S b∨∃id p o,m id=some p∧p.b=b∧zq hp' id=some o∧zaN o) w cs b k:=by
        intro cs
        induction cs with
        | nil=>intro b k _;simp only [zX]
        | cons c cs ih=>
         intro b k hr;simp only [zX] at hr ⊢;obtain ⟨⟨u,g1,g2⟩,g3⟩:=hr;exact ⟨⟨u,g1,za9 (fun _ _ h=>h) hS hst _ _ g2⟩,ih b (k+1) g3⟩
       exact hra _ _ _ g3⟩
    ·rintro hr (hs | hs)
     ·exact h9 (hrw hr) hs
     ·have:=hfz q h1 hs
      simp only [zaN] at this;rw [hr] at this;cases this
    ·intro hr;exact .inr ⟨id,q,_,h1,rfl,ho',hr⟩
   | mp rw ks vs=>
    obtain ⟨rw',rfl,hrw⟩:=h2;obtain ⟨q,es,clock,h1,h2,h3,h4,h5,h6⟩:=h3;refine ⟨q,es,clock,h1,h2,zah (fun _ _ h=>h) hS hst _ _ h3,zah (fun _ _ h=>h) hS hst _ _ h4,?_,?_⟩
    ·rintro hr (hs | hs)
     ·exact h5 (hrw hr) hs
     ·have:=hfz q h1 hs
      simp only [zaN] at this;rw [hr] at this;cases this
    ·intro hr;exact .inr ⟨id,q,_,h1,rfl,ho',hr⟩
   | si s pos=>
    simp only [oLe] at h2;subst h2;refine zbE (fun _ _ h=>h) hS hst (fun _ _=>rfl) (fun q hq hs=>?_) h3;rcases hs with hs | hs
    ·exact hs
    ·exact (hfz q hq hs).elim
   | lp tm ps as_ body st pe=>
    simp only [oLe] at h2;subst h2;refine zbE (fun _ _ h=>h) hS hst (fun _ _=>rfl) (fun q hq hs=>?_) h3;rcases hs with hs | hs
    ·exact hs
    ·exact (hfz q hq hs).elim
  ·intro i j oi oj pi pj hi hj hmi hmj e;obtain ⟨oi',hi'⟩:=hd i oi pi hi hmi;obtain ⟨oj',hj'⟩:=hd j oj pj hj hmj;exact hh.inj i j oi' oj' pi pj hi' hj' hmi hmj e
  ·rintro b (hb | ⟨id,p,o,h1,rfl,_,_⟩)
   ·exact hh.slt b hb
   ·exact hh.blt id p h1
 ·rintro b (hb | ⟨id,p,o,h1,rfl,h3,_⟩)
  ·exact .inl hb
  ·obtain ⟨o',ho'⟩:=hd id o p h3 h1;exact .inr ⟨id,o',p,ho',h1,rfl⟩
theorem znj {i:Nat} (hh:zR Λ m S w hp ct) (hi:m i=none) (hic:i<ct) {g:Go.Obj} {p:Pl} (hb:p.b=w.heap.size)
  (hf:∀o,zq hp i=some o→(zcB Λ (zcw m i p) S (w.alloc g) i o∧¬zaN o)∨
   (zaN o∧zcB Λ (zcw m i p) (fun b=>S b∨b=w.heap.size) (w.alloc g) i o)):
  ∃S',zR Λ (zcw m i p) S' (w.alloc g) hp ct∧(∀b,S b→S' b)∧∀b,S' b→S b∨b=w.heap.size:=by
 have hsz:(w.alloc g).heap.size=w.heap.size+1:=by simp
 have hlo:Λ.w0.heap.size≤w.heap.size:=hh.goodS;have gen:∀S':Nat→Prop,(∀b,S b→S' b)→(∀b,S' b→S b∨b=w.heap.size)→(∀o,zq hp i=some o→zcB Λ (zcw m i p) S' (w.alloc g) i o)→zR Λ (zcw m i p) S' (w.alloc g) hp ct:=by
  intro S' h1 h2 h3;have hmb:∀id q,m id=some q→¬q.b=w.heap.size:=fun id q hq=>by have:=hh.blt id q hq;omega
  refine ⟨?_,?_,?_,?_,?_,?_,?_,?_,hh.hlt⟩
  ·intro id o q ho hm;by_cases hc:id=i
   ·subst hc;exact h3 o ho
   ·rw [zJ hc] at hm;refine zbE (zbf hi) h1 (zd0 hh g) (fun q' hq'=>za4 (hh.blt id q' hq')) (fun q' hq' hs=>?_) (hh.obj id o q ho hm);exact (h2 _ hs).elim (fun h=>h) (fun h=>(hmb id q' hq' h).elim)
  ·intro id q hm;by_cases hc:id=i
   ·subst hc;exact hic
   ·rw [zJ hc] at hm;exact hh.lt id q hm
  ·intro a b oa ob pa pb ha hb' hma hmb' e;by_cases ca:a=i
   ·by_cases cb:b=i
    ·rw [ca,cb]
    ·subst ca;rw [zQ] at hma;rw [zJ cb] at hmb';injection hma with hma
     subst hma;exact (hmb b pb hmb' (by omega)).elim
   ·rw [zJ ca] at hma;by_cases cb:b=i
    ·subst cb;rw [zQ] at hmb';injection hmb' with hmb'
     subst hmb';exact (hmb a pa hma (by omega)).elim
    ·rw [zJ cb] at hmb';exact hh.inj a b oa ob pa pb ha hb' hma hmb' e
  ·intro b hs;rcases h2 b hs with h | h
   ·have:=hh.slt b h;omega
   ·omega
  ·intro id q hm;by_cases hc:id=i
   ·subst hc;rw [zQ] at hm;injection hm with hm
    subst hm;omega
   ·rw [zJ hc] at hm
    have:=hh.blt id q hm
    omega
  ·intro id q hm;by_cases hc:id=i
   ·subst hc;rw [zQ] at hm;injection hm with hm
    subst hm;omega
   ·rw [zJ hc] at hm;exact hh.low id q hm
  ·intro b hbb;exact (za4 (by omega)).trans (hh.good b hbb)
  ·omega
 cases ho:zq hp i with
 | none=>exact ⟨S,gen S (fun _ h=>h) (fun _ h=> .inl h) (fun o h=>by rw [ho] at h;cases h),fun _ h=>h,fun _ h=> .inl h⟩
 | some o=>
  rcases hf o ho with ⟨h1,_⟩ | ⟨_,h1⟩
  ·exact ⟨S,gen S (fun _ h=>h) (fun _ h=> .inl h) (fun o' h=>by rw [ho] at h;injection h with h;subst h;exact h1),fun _ h=>h,fun _ h=> .inl h⟩
  ·exact ⟨_,gen (fun b=>S b∨b=w.heap.size) (fun _ h=> .inl h) (fun _ h=>h) (fun o' h=>by rw [ho] at h;injection h with h;subst h;exact h1),fun _ h=> .inl h,fun _ h=>h⟩
theorem ziF {id:Nat} {o o':Obj} {p:Pl} (hl:oLe o o') (hm:m id=some p) (h:zcB Λ m S w id o) (hn:¬zaN o):
  (zcB Λ m S w id o'∧¬zaN o')∨(zaN o'∧zcB Λ m (fun b=>S b∨b=p.b) w id o'):=by
 have hS:∀b,S b→(S b∨b=p.b):=fun _ h=> .inl h
 have hst:zaP S w w:=fun _ _=>rfl
 cases o with
 | cells rw pu ex sz cs=>
  obtain ⟨rw',rfl,hrw⟩:=hl
  cases rw' with
  | true=>
   have:=hrw rfl
   subst this;exact .inl ⟨h,by simp [zaN]⟩
  | false=>
   refine .inr ⟨rfl,?_⟩;obtain ⟨q,arr,t,h1,h2,h3,h4,h5,h6,h7,h8,h9,h10⟩:=h;rw [hm] at h1;injection h1 with h1
   subst h1;have hra:∀(cs:List AV) (b k:Nat),zX Λ.fid m S w cs b k→zX Λ.fid m (fun b=>S b∨b=p.b) w cs b k:=by
    intro cs
    induction cs with
    | nil=>intro b k _;simp only [zX]
    | cons c cs ih=>
     intro b k hr;simp only [zX] at hr ⊢;obtain ⟨⟨u,g1,g2⟩,g3⟩:=hr;exact ⟨⟨u,g1,za9 (fun _ _ h=>h) hS hst _ _ g2⟩,ih b (k+1) g3⟩
   exact ⟨p,arr,t,hm,h2,h3,h4,h5,h6,hra _ _ _ h7,h8,by simp,fun _=> .inr rfl⟩
 | mp rw ks vs=>
  obtain ⟨rw',rfl,hrw⟩:=hl
  cases rw' with
  | true=>
   have:=hrw rfl
   subst this;exact .inl ⟨h,by simp [zaN]⟩
  | false=>
   refine .inr ⟨rfl,?_⟩;obtain ⟨q,es,clock,h1,h2,h3,h4,h5,h6⟩:=h;rw [hm] at h1;injection h1 with h1
   subst h1;exact ⟨p,es,clock,hm,h2,zah (fun _ _ h=>h) hS hst _ _ h3,zah (fun _ _ h=>h) hS hst _ _ h4,by simp,fun _=> .inr rfl⟩
 | si s pos=>simp only [oLe] at hl;subst hl;exact .inl ⟨h,hn⟩
 | lp tm ps as_ body st pe=>simp only [oLe] at hl;subst hl;exact .inl ⟨h,hn⟩
end
end VE
end
