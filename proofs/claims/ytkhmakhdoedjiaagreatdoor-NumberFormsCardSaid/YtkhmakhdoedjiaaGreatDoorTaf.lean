import Derived.IntWalk
import Derived.Test.YtkhmakhdoedjiaaGreatDoorTae
set_option linter.all false
set_option maxRecDepth 100000
section
namespace VE
open Go
section
variable {Λ:Link} {H:zbH} {m:Mp} {S:Nat→Prop} {w:World} {tm:Env} {a:Act} {hp:Hp} {ct cq:Nat}
theorem zhV {fid:Nat→Nat} {b:Nat} {arr:Array Value} {t:TypeId} {fr:Nat×Nat} (hb:w.heap[b]? =some (.cells arr t fr)):∀(cs:List AV) (us:List Value) (o:Nat),
  zi fid m S w cs us→(∀(j:Nat) (u:Value),us[j]? =some u→arr[o+j]? =some u)→zX fid m S w cs b o
 | [],us,o,_,_=>by simp only [zX]
 | c::cs,us,o,h,hu=>by
  simp only [zi] at h;obtain ⟨u,r,rfl,h2,h3⟩:=h;simp only [zX];refine ⟨⟨u,?_,h2⟩,zhV hb cs r (o+1) h3 (fun j v hv=>?_)⟩
  ·have:=hu 0 u (by simp)
   simpa [World.cell?,hb] using this
  ·have:=hu (j+1) v (by simpa using hv)
   rw [show o+1+j=o+(j+1) by omega];exact this
theorem zAt (hh:zR Λ m S w hp cq) {i:Nat} {arr:Array Value} {t:TypeId} {cs:List AV} {us:List Value} {pu ex:Bool} {sz:Nat} (hr:zi Λ.fid m S w cs us)
  (hu:∀(j:Nat) (u:Value),us[j]? =some u→arr[j]? =some u) (hl:cs.length≤arr.size) (hex:ex=true→cs.length=arr.size) (hpu:pu=true→zn cs=true)
  (m':Mp) (hm:MLe m m') (hi:m' i=some ⟨w.heap.size,0,arr.size,sz⟩):zcB Λ m' S (w.alloc (.cells arr t)) i (.cells true pu ex sz cs):=by
 refine ⟨⟨w.heap.size,0,arr.size,sz⟩,arr,t,hi,heap_alloc_new w _,rfl,hl,by simp,hex,?_,hpu,?_,by simp⟩
 ·exact zhV (heap_alloc_new w _) cs us 0 (zah hm (fun _ h=>h) (zd0 hh _) _ _ hr) (by simpa using hu)
 ·intro _ hS
  have:=hh.slt _ hS
  simp at this
def zjD (Λ:Link) (m:Mp) (S:Nat→Prop) (w:World) (a:Act) (ct:Nat) (o:Oper) (v:AV) (b:Obj):Prop:=
 ∃u g p,(execOp a.eval o).run Λ.P w= .ok (.value u) (w.alloc g)∧p.b=w.heap.size∧¬zaN b∧
  ∀m',MLe m m'→m' ct=some p→zcB Λ m' S (w.alloc g) ct b∧zm Λ.fid m' S (w.alloc g) v u
theorem zil {o:Oper} {arr:Array Value} {t:TypeId} {cs:List AV} {us:List Value} {pu ex:Bool} {sz:Nat} {v:AV} {u:Value} (hh:zR Λ m S w hp cq)
  (he:(execOp a.eval o).run Λ.P w= .ok (.value u) (w.alloc (.cells arr t))) (hr:zi Λ.fid m S w cs us)
  (hu:∀(j:Nat) (u:Value),us[j]? =some u→arr[j]? =some u) (hl:cs.length≤arr.size) (hex:ex=true→cs.length=arr.size) (hpu:pu=true→zn cs=true)
  (hv:∀m':Mp,m' ct=some ⟨w.heap.size,0,arr.size,sz⟩→zm Λ.fid m' S (w.alloc (.cells arr t)) v u):zjD Λ m S w a ct o v (.cells true pu ex sz cs):=
 ⟨u,_,⟨w.heap.size,0,arr.size,sz⟩,he,rfl,by simp [zaN],fun m' hm hi=>⟨zAt hh hr hu hl hex hpu m' hm hi,hv m' hi⟩⟩
theorem zm8 {o:Oper} {t:TypeId} {x:Value} {vx v:AV} {b:Obj} {sz:Nat} (hh:zR Λ m S w hp cq) (he:(execOp a.eval o).run Λ.P w= .ok (.value (.pointer (some ⟨w.heap.size,0,none⟩))) (w.alloc (.cells x.cells t))) (hx:zi Λ.fid m S w (cellsOf vx) x.cells.toList)
  (hv:(bif Nat.beq (cellsOf vx).length sz&&zH (cellsOf vx) then some (AV.ptr ct 0,Obj.cells true (zn (cellsOf vx)) true sz (cellsOf vx)) else none)=some (v,b)):zjD Λ m S w a ct o v b:=by
 cases hc:(Nat.beq (cellsOf vx).length sz&&zH (cellsOf vx)) with
 | false=>rw [hc] at hv;cases hv
 | true=>
  rw [hc] at hv;simp only [cond_true,Option.some.injEq,Prod.mk.injEq] at hv;obtain ⟨rfl,rfl⟩:=hv;have hlen:=zax _ _ hx;refine zil hh he hx (fun j u hj=>by simpa using hj) (by rw [←hlen];simp) (fun _=>by rw [←hlen];simp) (fun h=>h) (fun m' hi=>?_)
  simp only [zm];exact ⟨_,hi,by simp⟩
theorem zyc {o:Oper} {t:TypeId} {r:Option Operand} (hh:zR Λ m S w hp cq) (ho:o.op= .makeMap t r) (hr:r=none):zjD Λ m S w a ct o (.map ct) (.mp true [] []):=by
 subst hr;refine ⟨.map (some w.heap.size),.map #[] 0,⟨w.heap.size,0,0,0⟩,by simp [execOp,ho,Instr.makeMap],rfl,by simp [zaN],fun m' _ hi=>⟨?_,?_⟩⟩
 ·refine ⟨_,#[],0,hi,heap_alloc_new w _,by simp [zi],by simp [zi],?_,by simp⟩;intro _ hS
  have:=hh.slt _ hS
  simp at this
 ·simp only [zm];exact ⟨_,hi,rfl⟩
theorem ztz {o:Oper} {t:TypeId} {x:Operand} {s:List Nat} (hh:zR Λ m S w hp cq) (ho:o.op= .range t x) (hu:Λ.P.underlying t=some .string) (hx:zm Λ.fid m S w (.str s) (a.eval x)):
  zjD Λ m S w a ct o (.it ct) (.si s 0):=by
 simp only [zm] at hx;obtain ⟨b,e,rfl⟩:=hx;refine ⟨.pointer (some ⟨w.heap.size,0,none⟩),.stringIter b 0,⟨w.heap.size,0,0,0⟩,by simp [execOp,ho,Instr.range,run_underlying hu,e],rfl,by simp [zaN],fun m' _ hi=>⟨?_,?_⟩⟩
 ·refine ⟨_,b,hi,heap_alloc_new w _,rfl,?_⟩;intro hS
  have:=hh.slt _ hS
  simp at this
 ·simp only [zm];exact ⟨_,hi,rfl⟩
end
theorem zu3 (zero:Array Value):(List.range zero.size).map (fun j=>zero[j]!)=zero.toList:=by
 apply List.ext_getElem
 ·simp
 ·intro i h1 h2;simp at h1;simp [h1]
theorem zkw (zero:Array Value):∀n:Nat,(List.range (n*zero.size)).map (fun i=>zero[i%zero.size]!)=(List.replicate n zero.toList).flatten
 | 0=>by simp
 | n+1=>by
  rw [Nat.add_mul,Nat.one_mul,List.range_add,List.map_append,zkw zero n,List.replicate_succ',List.flatten_append]
  congr 1
  simp only [List.map_map,List.flatten_cons,List.flatten_nil,List.append_nil];rw [←zu3 zero];apply List.map_congr_left;intro j hj;simp at hj;simp [Function.comp,Nat.mul_comm n,Nat.mod_eq_of_lt hj]
theorem zjU {fid:Nat→Nat} {m:Mp} {S:Nat→Prop} {w:World} {cs:List AV} {us:List Value} (h:zi fid m S w cs us):∀n,zi fid m S w (List.replicate n cs).flatten (List.replicate n us).flatten
 | 0=>by simp [zi]
 | n+1=>by rw [List.replicate_succ,List.replicate_succ,List.flatten_cons,List.flatten_cons];exact zar h (zjU h n)
section
variable {Λ:Link} {H:zbH} {m:Mp} {S:Nat→Prop} {w:World} {tm:Env} {a:Act} {hp:Hp} {ct cq:Nat}
theorem zlY (zero:Array Value) (n:Nat):(Array.map (fun i=>zero[i%zero.size]!) (Array.range (n*zero.size))).toList=(List.replicate n zero.toList).flatten:=by
 rw [←zkw zero n]
 simp
theorem zoa (tm:Env):∀(ps:List (Nat×Nat×X)) (zero cs:List AV),fill tm zero ps=some cs→cs.length=zero.length
 | [],zero,cs,h=>by simp only [fill,Option.some.injEq] at h;rw [h]
 | (o,sz,x)::r,zero,cs,h=>by
  simp only [fill] at h
  cases hc:(Nat.beq (cellsOf (zp tm x)).length sz&&Nat.ble (o+sz) zero.length&&zH (cellsOf (zp tm x))) with
  | false=>rw [hc] at h;cases h
  | true=>
   rw [hc] at h;simp only [cond_true] at h;simp only [Bool.and_eq_true] at hc;have h1:=Nat.eq_of_beq_eq_true hc.1.1;have h2:=Nat.le_of_ble_eq_true hc.1.2;rw [zoa tm r _ _ h];simp only [zb6,List.length_append,List.length_take,List.length_drop];omega
theorem zhD {α:Type} (l:List α):∀n,(List.replicate n l).flatten.length=n*l.length
 | 0=>by simp
 | n+1=>by simp [List.replicate_succ,zhD l n,Nat.add_mul,Nat.add_comm]
theorem zuJ {o:Oper} {t e:TypeId} {n s:Nat} {z:AV} {parts:Array (Nat×Operand)} {ps:List (Nat×Nat×X)} {v:AV} {b:Obj} (hH:zaM Λ H) (ht:zaB Λ m S w tm a.tmps) (hh:zR Λ m S w hp cq)
  (ho:o.op= .buildSlice t n parts) (hu:Λ.P.underlying t=some (.slice e)) (hs:szT Λ.P e=some s) (hz:zea Λ.P e=some z) (hn:n*s≤16777216)
  (hps:zdD H (fun i=>some (i*s,s)) parts.toList=some ps)
  (hv:z5 tm hp ct (.mksl n s (List.replicate n (cellsOf z)).flatten ps)=some (v,b)):zjD Λ m S w a ct o v b:=by
 simp only [z5] at hv
 cases hf:fill tm (List.replicate n (cellsOf z)).flatten ps with
 | none=>simp [hf] at hv
 | some cs=>
  simp only [hf] at hv
  cases hc:Nat.beq cs.length (n*s) with
  | false=>rw [hc] at hv;cases hv
  | true=>
   rw [hc] at hv;simp only [cond_true,Option.some.injEq,Prod.mk.injEq] at hv;obtain ⟨rfl,rfl⟩:=hv;have hlen:=Nat.eq_of_beq_eq_true hc;obtain ⟨zv,hz1,rfl⟩:=zf0 (w:=w) hz;have hzc:zi Λ.fid m S w (cellsOf (zaU zv)) zv.cells.toList:=zbF zv;have hzl:=zax _ _ hzc;have hfl:=zoa tm ps _ _ hf;rw [zhD] at hfl;have hns:n*s=n*zv.cells.size:=by
    rw [←hlen,hfl,←hzl];simp
   have key:∃zr:Array Value,(n*s=0→zr=#[])∧(n*s≠0→zr=zv.cells)∧zi Λ.fid m S w (List.replicate n (cellsOf (zaU zv))).flatten ((Array.range (n*s)).map (fun x=>zr[x%zr.size]!)).toList:=by
    by_cases h0:n*s=0
    ·refine ⟨#[],fun _=>rfl,fun h=>(h h0).elim,?_⟩
     have:(List.replicate n (cellsOf (zaU zv))).flatten=[]:=by
      apply List.eq_nil_of_length_eq_zero;rw [zhD,←hzl];simp only [Array.length_toList];omega
     rw [this];simp [zi,h0]
    ·refine ⟨zv.cells,fun h=>(h0 h).elim,fun _=>rfl,?_⟩;rw [hns,zlY];exact zjU hzc n
   obtain ⟨zr,hk0,hk1,hk2⟩:=key;obtain ⟨out,h1,h2⟩:=zja hH ht (place:=fun i=>some (i*s,s)) parts.toList ps _ cs _ hps hk2 hf;have hl2:=zax _ _ h2
   refine zil (arr:=out) (t:=e) (us:=out.toList) hh ?_ h2 (fun j u hj=>by simpa using hj) (by rw [←hl2];simp) (fun _=>by rw [←hl2];simp) (fun h=>h) (u:= .slice (some ⟨w.heap.size,0,none⟩) n n) ?_
   ·have hn':¬(n*s>2^24):=by omega
    by_cases h0:n*s=0
    ·have:=hk0 h0
     subst this;simp only [h0] at h1;simp [execOp,ho,Instr.buildSlice,run_underlying hu,zaC hs,h0,newRow] at h1 ⊢;simp [h1]
    ·have:=hk1 h0
     subst this;simp [execOp,ho,Instr.buildSlice,run_underlying hu,zaC hs,h0,hn',hz1,newRow] at h1 ⊢;simp [h1]
   ·intro m' hi;simp only [zm];refine ⟨_,n,hi,by simp,Nat.le_refl _,?_⟩;simp only [Nat.zero_add];rw [←hlen,←hl2];simp
theorem zbZ:∀{a b:List AV},zn a=true→zn b=true→zn (a++b)=true
 | [],_,_,h=>h
 | c::r,b,h,k=>by
  simp only [zn,Bool.and_eq_true] at h;simp only [List.cons_append,zn,Bool.and_eq_true];exact ⟨h.1,zbZ h.2 k⟩
theorem zlN {z:List AV} (h:zn z=true):∀n,zn (List.replicate n z).flatten=true
 | 0=>by simp [zn]
 | n+1=>by rw [List.replicate_succ,List.flatten_cons];exact zbZ h (zlN h n)
theorem zyQ {o:Oper} {t e:TypeId} {s by':Nat} {z:AV} {l c:Operand} {v:AV} {b:Obj} (hH:zaM Λ H) (ht:zaB Λ m S w tm a.tmps) (hh:zR Λ m S w hp cq)
  (ho:o.op= .makeSlice t l c) (hu:Λ.P.underlying t=some (.slice e)) (hs:szT Λ.P e=some s) (hb:byT Λ.P e=some by') (hz:zea Λ.P e=some z)
  (hv:z5 tm hp ct (.mks s by' (cellsOf z) (opX H l) (opX H c))=some (v,b)):zjD Λ m S w a ct o v b:=by
 simp only [z5] at hv
 cases hl:zaE (zp tm (opX H l)) with
 | none=>simp [hl] at hv
 | some ln=>
  cases hc:zaE (zp tm (opX H c)) with
  | none=>simp [hl,hc] at hv
  | some cn=>
   simp only [hl,hc] at hv
   cases hk:(Nat.ble ln cn&&(Nat.ble cn zb1&&(Nat.ble (cn*by') zb1&&(Nat.beq (cellsOf z).length s&&zH (cellsOf z))))) with
   | false=>rw [hk] at hv;cases hv
   | true=>
    rw [hk] at hv;simp only [cond_true,Option.some.injEq,Prod.mk.injEq] at hv;obtain ⟨rfl,rfl⟩:=hv;simp only [Bool.and_eq_true] at hk;have h1:=Nat.le_of_ble_eq_true hk.1;have h2:=Nat.le_of_ble_eq_true hk.2.1;have h3:=Nat.le_of_ble_eq_true hk.2.2.1;have h4:=Nat.eq_of_beq_eq_true hk.2.2.2.1;simp only [zb1] at h2 h3;obtain ⟨kl,el⟩:=zdG (zad hH ht l) hl;obtain ⟨kc,ec⟩:=zdG (zad hH ht c) hc;obtain ⟨zv,hz1,rfl⟩:=zf0 (w:=w) hz;have hzc:zi Λ.fid m S w (cellsOf (zaU zv)) zv.cells.toList:=zbF zv;have hzl:=zax _ _ hzc;have hzs:zv.cells.size=s:=by rw [←h4,←hzl];simp
    have zy:∀k:Nat,k≤1099511627776→IntKind.i64.wrap (k:Int)=k:=fun k hk=>IntWalk.i64_in _ (by omega)
    obtain ⟨ti,hti,hsz,hby⟩:∃ti,Λ.P.info? e=some ti∧ti.size=s∧ti.bytes=by':=by
     unfold szT at hs;unfold byT at hb
     cases hi:Λ.P.info? e with
     | none=>simp [hi] at hs
     | some ti=>simp only [hi,Option.some.injEq] at hs hb;exact ⟨ti,rfl,hs,hb⟩
    have harr:((Array.range (cn*s)).map (zv.cells[·%zv.cells.size]!)).toList=(List.replicate ln zv.cells.toList).flatten++(List.replicate (cn-ln) zv.cells.toList).flatten:=by
     rw [←hzs,zlY,←List.flatten_append,List.replicate_append_replicate]
     congr 3
     omega
    have hcl:(List.replicate ln (cellsOf (zaU zv))).flatten.length=ln*s:=by rw [zhD,h4]
    have hmul:ln*s≤cn*s:=Nat.mul_le_mul_right _ h1
    refine zil (arr:=(Array.range (cn*s)).map (zv.cells[·%zv.cells.size]!)) (t:=e) (us:=(List.replicate ln zv.cells.toList).flatten) hh (u:= .slice (some ⟨w.heap.size,0,none⟩) ln cn) ?_
     (zjU hzc ln) ?_ ?_ ?_ (fun h=>?_) ?_
    ·have hby':by'*cn≤1099511627776:=by rw [Nat.mul_comm];exact h3
     have hbi:((by'*cn:Nat):Int)≤1099511627776:=by omega
     rw [Int.natCast_mul] at hbi;have hlc:(ln:Int)≤(cn:Int):=by omega
     have g1:¬(281474976710656<(by':Int)*(cn:Int)):=by omega
     have g2:¬(((ln:Int)<0)):=by omega
     have g3:¬(((cn:Int)<0)):=by omega
     have g4:¬((ln:Int)>(cn:Int)):=by omega
     by_cases h0:cn*s=0
     ·simp [execOp,ho,Instr.makeSlice,run_underlying hu,el,ec,asInt,asIntOf,typeInfo,hti,hby,zy ln (by omega),zy cn h2,g1,g2,g3,g4,zaC hs,h0,newRow,askRoom,roomBytes];rw [show Array.range 0=#[] from rfl,Array.map_empty,Array.map_empty]
     ·simp [execOp,ho,Instr.makeSlice,run_underlying hu,el,ec,asInt,asIntOf,typeInfo,hti,hby,zy ln (by omega),zy cn h2,g1,g2,g3,g4,zaC hs,h0,newRow,askRoom,roomBytes,hz1]
    ·intro j u hj
     have:((Array.range (cn*s)).map (zv.cells[·%zv.cells.size]!)).toList[j]? =some u:=by
      rw [harr,List.getElem?_append_left]
      ·exact hj
      ·exact (List.getElem?_eq_some_iff.1 hj).1
     rw [←Array.getElem?_toList];exact this
    ·rw [hcl];simpa using hmul
    ·intro hx
     have:=Nat.eq_of_beq_eq_true hx
     rw [hcl,this];simp
    ·exact zlN h ln
    ·intro m' hi;simp only [zm];refine ⟨_,cn,hi,by simp,h1,?_⟩
     simp
theorem zz3 {o:Oper} {k:Nat} {v:AV} {b:Obj} (hH:zaM Λ H) (ht:zaB Λ m S w tm a.tmps) (hh:zR Λ m S w hp cq)
  (hv:z5 tm hp ct (zt Λ.P H k o)=some (v,b)):zjD Λ m S w a ct o v b:=by
 cases ho:o.op with
 | call c=>
  obtain ⟨callee,args,ts⟩:=c;simp only [zt,ho] at hv
  repeat' split at hv
  all_goals first
   | (simp [z5,bad] at hv;done)
   | (revert hv;generalize Nat.beq _ _=bb;intro hv;cases bb<;>simp [z5,bad] at hv)
 | alloc t=>
  simp only [zt,ho] at hv
  split at hv
  ·rename_i s z hs hz;obtain ⟨zv,hz1,rfl⟩:=zf0 (w:=w) hz
   exact zm8 (x:=zv) (t:=t) hh (by simp [execOp,ho,Instr.alloc,hz1,newVar,newRow]) (zbF zv) (by simpa only [z5,zp] using hv)
  ·simp [z5,bad] at hv
 | box t x=>
  simp only [zt,ho] at hv
  split at hv
  ·rename_i s hs;simp only [z5] at hv
   cases hc:(Nat.beq (cellsOf (zp tm (opX H x))).length s&&zH (cellsOf (zp tm (opX H x)))) with
   | false=>rw [hc] at hv;cases hv
   | true=>
    have h1:=hc;simp only [Bool.and_eq_true] at h1
    exact zm8 (x:=a.eval x) (t:=t) hh (by simp [execOp,ho,Instr.box,newVar,newRow]) (zhH (zad hH ht x) h1.2) hv
  ·simp [z5,bad] at hv
 | buildSlice t n parts=>
  simp only [zt,ho] at hv
  split at hv
  ·rename_i e hu
   split at hv
   ·rename_i s z hs hz
    cases hc:Nat.ble (n*s) 16777216 with
    | false=>rw [hc] at hv;simp [z5,bad] at hv
    | true=>
     rw [hc] at hv;simp only [cond_true] at hv
     split at hv
     ·rename_i ps hps;exact zuJ hH ht hh ho hu hs hz (Nat.le_of_ble_eq_true hc) hps hv
     ·simp [z5,bad] at hv
   ·simp [z5,bad] at hv
  ·simp [z5,bad] at hv
 | makeSlice t l c=>
  simp only [zt,ho] at hv
  split at hv
  ·rename_i e hu
   split at hv
   ·rename_i s by' z hs hb hz
    exact zyQ hH ht hh ho hu hs hb hz hv
   ·simp [z5,bad] at hv
  ·simp [z5,bad] at hv
 | makeMap t r=>
  cases r with
  | some x=>simp [zt,ho,z5,bad] at hv
  | none=>
   simp only [zt,ho] at hv
   repeat' split at hv
   all_goals first
    | (simp [z5,bad] at hv;done)
    | (
      simp only [z5,Option.some.injEq,Prod.mk.injEq] at hv;obtain ⟨rfl,rfl⟩:=hv
      exact zyc hh ho rfl)
 | range t x=>
  simp only [zt,ho] at hv
  split at hv
  ·rename_i hu;simp only [z5] at hv;have rx:=zad hH ht x;cases hx:zp tm (opX H x)<;>rw [hx] at hv rx<;>simp only [reduceCtorEq] at hv
   simp only [Option.some.injEq,Prod.mk.injEq] at hv;obtain ⟨rfl,rfl⟩:=hv;exact ztz hh ho hu rx
  ·simp [z5,bad] at hv
 | next x b=>cases b<;>simp [zt,ho,z5,bad] at hv
 | binOp op t x y ty=>
  cases op<;>simp only [zt,ho,zeu,zdI] at hv
  case eql=>
        repeat' split at hv
        all_goals first
         | (simp [z5,bad] at hv;done)
         | (cases hb:(Λ.P.stoodInHeld t||Λ.P.eqGuardType Λ.P.depth t)<;>rw [hb] at hv<;>simp [z5,bad] at hv)
  case neq=>
        repeat' split at hv
        all_goals first
         | (simp [z5,bad] at hv;done)
         | (cases hb:(Λ.P.stoodInHeld t||Λ.P.eqGuardType Λ.P.depth t)<;>rw [hb] at hv<;>simp [z5,bad] at hv)
  all_goals simp [z5] at hv
 | _=>
  simp only [zt,ho] at hv
  (repeat' split at hv)
  all_goals first
   | contradiction
   | (simp [z5,bad] at hv;done)
end
end VE
end
section
namespace VE
open Go
theorem zbC {hp:Hp} {id i:Nat} {o:Obj}:zq (z7 hp id o) i=if id=i then (if (zq hp id).isSome then some o else none) else zq hp i:=by
 induction hp with
 | nil=>simp [z7,zq]
 | cons x r ih=>
  obtain ⟨j,q⟩:=x;simp only [z7];by_cases hj:j=id
  ·subst hj;simp only [Nat.beq_refl,cond_true,zq];by_cases hi:j=i
   ·subst hi;simp
   ·have:Nat.beq j i=false:=by
     cases hq:Nat.beq j i with
     | false=>rfl
     | true=>exact absurd (Nat.eq_of_beq_eq_true hq) hi
    simp [this,hi]
  ·have hb:Nat.beq j id=false:=by
    cases hq:Nat.beq j id with
    | false=>rfl
    | true=>exact absurd (Nat.eq_of_beq_eq_true hq) hj
   simp only [hb,cond_false];rw [show zq ((j,q)::z7 r id o) i=bif Nat.beq j i then some q else zq (z7 r id o) i from rfl,ih];by_cases hi:j=i
   ·subst hi
    have:¬id=j:=fun h=>hj h.symm
    simp [Nat.beq_refl,this,zq]
   ·have hbi:Nat.beq j i=false:=by
     cases hq:Nat.beq j i with
     | false=>rfl
     | true=>exact absurd (Nat.eq_of_beq_eq_true hq) hi
    simp [hbi,zq,hb]
def SameDom (hp hp':Hp):Prop:=∀id,(zq hp' id).isSome=(zq hp id).isSome
theorem SameDom.refl {hp:Hp}:SameDom hp hp:=fun _=>rfl
theorem SameDom.trans {a b c:Hp} (h:SameDom a b) (k:SameDom b c):SameDom a c:=fun id=>(k id).trans (h id)
theorem zmk {hp:Hp} {id:Nat} {o o':Obj} (h:zq hp id=some o) (hl:oLe o o'):HLe hp (z7 hp id o')∧SameDom hp (z7 hp id o'):=by
 constructor
 ·intro i q hq;rw [zbC];by_cases hi:id=i
  ·subst hi;rw [h] at hq;injection hq with hq
   subst hq;exact ⟨o',by simp [h],hl⟩
  ·exact ⟨q,by simp [hi,hq],oLe.refl q⟩
 ·intro i;rw [zbC];by_cases hi:id=i
  ·subst hi;simp [h]
  ·simp [hi]
theorem zme {hp H:Hp} {id:Nat} {pu ex:Bool} {sz:Nat} {cs:List AV} (hl:HLe hp H) (h:zq hp id=some (.cells false pu ex sz cs)):zq H id=some (.cells false pu ex sz cs):=by
 obtain ⟨o',h1,rw',rfl,h2⟩:=hl id _ h
 cases rw' with
 | false=>exact h1
 | true=>exact absurd (h2 rfl) (by simp)
section
variable {Λ:Link}
def zNL (Λ:Link) (m:Mp) (S:Nat→Prop) (w:World) (p:Pl) (ex:Bool) (sz:Nat) (cs:List AV):Prop:=
 p.z=sz∧cs.length≤p.e∧(ex=true→cs.length=p.e)∧S p.b∧zn cs=true∧zX Λ.fid m S w cs p.b p.o
def zL0 (Λ:Link) (hp':Hp) (v v':AV):Prop:=∀H m S w ct,HLe hp' H→zR Λ m S w H ct→(∀u,zm Λ.fid m S w v u→zm Λ.fid m S w v' u)∧zx v'=true
def zOU (Λ:Link) (hp':Hp) (vs vs':List AV):Prop:=∀H m S w ct,HLe hp' H→zR Λ m S w H ct→(∀us,zi Λ.fid m S w vs us→zi Λ.fid m S w vs' us)∧zn vs'=true
def zQN (Λ:Link) (hp':Hp) (id:Nat) (ex:Bool) (sz:Nat) (cs:List AV):Prop:=∀H m S w ct,HLe hp' H→zR Λ m S w H ct→∀p,m id=some p→zNL Λ m S w p ex sz cs
theorem zew {fid:Nat→Nat} {m:Mp} {S:Nat→Prop} {w:World} {b:Nat}:∀(cs:List AV) (us:List Value) (o:Nat),zi fid m S w cs us→
  (∀(j:Nat) (u:Value),us[j]? =some u→w.cell? ⟨b,o+j,none⟩=some u)→zX fid m S w cs b o
 | [],us,o,_,_=>by simp only [zX]
 | c::cs,us,o,h,hu=>by
  simp only [zi] at h;obtain ⟨u,r,rfl,h2,h3⟩:=h;simp only [zX];refine ⟨⟨u,by simpa using hu 0 u (by simp),h2⟩,zew cs r (o+1) h3 (fun j v hv=>?_)⟩;rw [show o+1+j=o+(j+1) by omega];exact hu (j+1) v (by simpa using hv)
theorem zOI {m:Mp} {S:Nat→Prop} {w:World} {cs cs':List AV} (h:∀us,zi Λ.fid m S w cs us→zi Λ.fid m S w cs' us) {b o:Nat} (hr:zX Λ.fid m S w cs b o):zX Λ.fid m S w cs' b o:=by
 obtain ⟨us,h1,_,h3⟩:=zbu cs b o hr;exact zew cs' us o (h us h1) h3
theorem zbW:∀(k:Nat) {cs:List AV},zn cs=true→zn (cs.take k)=true
 | 0,_,_=>by simp [zn]
 | k+1,[],_=>by simp [zn]
 | k+1,c::cs,h=>by
  simp only [zn,Bool.and_eq_true,List.take_succ_cons] at h ⊢;exact ⟨h.1,zbW k h.2⟩
theorem zwE {hp':Hp} {vs vs':List AV}:∀{n:Nat} {hp:Hp},zT n hp vs=some (vs',hp')→vs'.length=vs.length:=by
 intro n
 induction n generalizing vs vs' hp' with
 | zero=>intro hp h;simp [zT] at h
 | succ n ih=>
  intro hp h
  cases vs with
  | nil=>simp only [zT,Option.some.injEq,Prod.mk.injEq] at h;rw [←h.1]
  | cons v r=>
   simp only [zT] at h
   cases h1:zaf n hp v with
   | none=>simp [h1] at h
   | some q=>
    obtain ⟨v',hp1⟩:=q;simp only [h1] at h
    cases h2:zT n hp1 r with
    | none=>simp [h2] at h
    | some q2=>
     obtain ⟨r',hp2⟩:=q2;simp only [h2,Option.some.injEq,Prod.mk.injEq] at h;obtain ⟨rfl,rfl⟩:=h;simp [ih h2]
theorem zki:∀n:Nat,
  (∀hp v v' hp',zaf n hp v=some (v',hp')→HLe hp hp'∧SameDom hp hp'∧zL0 Λ hp' v v')∧
  (∀hp id ex sz cs hp',zbD n hp id=some (ex,sz,cs,hp')→HLe hp hp'∧SameDom hp hp'∧zQN Λ hp' id ex sz cs)∧
  (∀hp vs vs' hp',zT n hp vs=some (vs',hp')→HLe hp hp'∧SameDom hp hp'∧zOU Λ hp' vs vs'):=by
 intro n
 induction n with
 | zero=>refine ⟨?_,?_,?_⟩<;>intros<;>simp_all [zaf,zbD,zT]
 | succ n ih=>
  obtain ⟨ihV,ihB,ihL⟩:=ih;refine ⟨?_,?_,?_⟩
  ·intro hp v v' hp' h;have ziI:∀{v v':AV} {hp hp':Hp},(bif zx v then some (v,hp) else none)=some (v',hp')→HLe hp hp'∧SameDom hp hp'∧zL0 Λ hp' v v':=by
    intro v v' hp hp' h
    cases hc:zx v with
    | false=>rw [hc] at h;cases h
    | true=>
     rw [hc] at h;simp only [cond_true,Option.some.injEq,Prod.mk.injEq] at h;obtain ⟨rfl,rfl⟩:=h;exact ⟨HLe.refl,SameDom.refl,fun _ _ _ _ _ _ _=>⟨fun _ h=>h,hc⟩⟩
   cases v<;>simp only [zaf] at h<;>first | exact ziI h | skip
   case osl id o k=>
    cases hb:zbD n hp id with
    | none=>simp [hb] at h
    | some q=>
     obtain ⟨ex,sz,cs,hp1⟩:=q;simp only [hb] at h
     cases hc:Nat.ble (o+k*sz) cs.length with
     | false=>rw [hc] at h;cases h
     | true=>
      rw [hc] at h;simp only [cond_true,Option.some.injEq,Prod.mk.injEq] at h;obtain ⟨rfl,rfl⟩:=h;have hle:=Nat.le_of_ble_eq_true hc;obtain ⟨h1,h2,h3⟩:=ihB _ _ _ _ _ _ hb;refine ⟨h1,h2,fun H m S w ct hl hh=>⟨fun u hu=>?_,by simp only [zx]⟩⟩;simp only [zm] at hu ⊢;obtain ⟨p,c,hm,rfl,hkc,hoc⟩:=hu;obtain ⟨g1,g2,g3,g4,g5,g6⟩:=h3 H m S w ct hl hh p hm;refine .inl ⟨p.b,p.o+o,c,rfl,hkc,?_,.inr g4,zbW _ (zbU _ _ g5),zcg _ _ _ _ (zbh _ _ _ _ g6)⟩;intro hx;simp only [Bool.and_eq_true] at hx;have e1:=Nat.eq_of_beq_eq_true hx.2;have e2:0<sz:=by
       have:=hx.1.2
       simp only [Nat.blt,Nat.ble_eq] at this;omega
      have e3:=g3 hx.1.1;rw [g1] at hoc
      have:c*sz=k*sz:=by omega
      exact Nat.eq_of_mul_eq_mul_right e2 this
   case ptr id o=>
    cases hb:zbD n hp id with
    | none=>simp [hb] at h
    | some q=>
     obtain ⟨ex,sz,cs,hp1⟩:=q;simp only [hb,Option.some.injEq,Prod.mk.injEq] at h;obtain ⟨rfl,rfl⟩:=h;obtain ⟨h1,h2,h3⟩:=ihB _ _ _ _ _ _ hb;refine ⟨h1,h2,fun H m S w ct hl hh=>⟨fun u hu=>?_,by simp only [zx]⟩⟩;simp only [zm] at hu ⊢;obtain ⟨p,hm,rfl⟩:=hu;obtain ⟨g1,g2,g3,g4,g5,g6⟩:=h3 H m S w ct hl hh p hm;exact ⟨p.b,p.o+o,rfl,.inr g4,zbU _ _ g5,zbh _ _ _ _ g6⟩
   case map id=>
    cases hg:zq hp id with
    | none=>simp [hg] at h
    | some ob=>
     cases ob<;>simp only [hg,reduceCtorEq] at h
     rename_i rw ks vs
     cases hc:(zn ks&&zn vs) with
     | false=>rw [hc] at h;cases h
     | true=>
      rw [hc] at h;simp only [cond_true,Option.some.injEq,Prod.mk.injEq] at h;obtain ⟨rfl,rfl⟩:=h;simp only [Bool.and_eq_true] at hc;obtain ⟨h1,h2⟩:=zmk hg (o':= .mp false ks vs) ⟨false,rfl,by simp⟩;refine ⟨h1,h2,fun H m S w ct hl hh=>⟨fun u hu=>?_,by simp only [zx]⟩⟩;simp only [zm] at hu ⊢;obtain ⟨p,hm,rfl⟩:=hu;have hq:zq (z7 hp id (.mp false ks vs)) id=some (.mp false ks vs):=by rw [zbC];simp [hg]
      obtain ⟨o',h3,rw',rfl,h4⟩:=hl id _ hq;have hrw:rw'=false:=by cases rw' with | false=>rfl | true=>exact absurd (h4 rfl) (by simp)
      subst hrw;obtain ⟨p',es,clock,g1,g2,g3,g4,g5,g6⟩:=hh.obj id _ _ h3 hm;rw [hm] at g1;injection g1 with g1
      subst g1;exact ⟨p.b,es,clock,rfl,g6 rfl,hc.1,hc.2,g2,g3,g4⟩
   case fn f first cap=>
    cases f with
    | y l=>simp only [zx,cond_false,reduceCtorEq] at h
    | f g=>
     simp only at h
     cases h1:zT n hp first with
     | none=>simp [h1] at h
     | some q=>
      obtain ⟨first',hp1⟩:=q;simp only [h1] at h
      cases h2:zT n hp1 cap with
      | none=>simp [h2] at h
      | some q2=>
       obtain ⟨cap',hp2⟩:=q2;simp only [h2,Option.some.injEq,Prod.mk.injEq] at h;obtain ⟨rfl,rfl⟩:=h;obtain ⟨a1,a2,a3⟩:=ihL _ _ _ _ h1;obtain ⟨b1,b2,b3⟩:=ihL _ _ _ _ h2;refine ⟨a1.trans b1,a2.trans b2,fun H m S w ct hl hh=>?_⟩;obtain ⟨c1,c2⟩:=a3 H m S w ct (b1.trans hl) hh;obtain ⟨d1,d2⟩:=b3 H m S w ct hl hh;refine ⟨fun u hu=>?_,by simp [zx,c2,d2]⟩;simp only [zm] at hu ⊢;obtain ⟨fi,ca,rfl,e1,e2⟩:=hu;exact ⟨fi,ca,rfl,c1 _ e1,d1 _ e2⟩
   case agg cs=>
    cases h1:zT n hp cs with
    | none=>simp [h1] at h
    | some q=>
     obtain ⟨cs',hp1⟩:=q;simp only [h1,Option.some.injEq,Prod.mk.injEq] at h;obtain ⟨rfl,rfl⟩:=h;obtain ⟨a1,a2,a3⟩:=ihL _ _ _ _ h1;refine ⟨a1,a2,fun H m S w ct hl hh=>?_⟩;obtain ⟨c1,c2⟩:=a3 H m S w ct hl hh;refine ⟨fun u hu=>?_,by simpa [zx] using c2⟩;simp only [zm] at hu ⊢;obtain ⟨xs,rfl,e1⟩:=hu;exact ⟨xs,rfl,c1 _ e1⟩
   case tup cs=>
    cases h1:zT n hp cs with
    | none=>simp [h1] at h
    | some q=>
     obtain ⟨cs',hp1⟩:=q;simp only [h1,Option.some.injEq,Prod.mk.injEq] at h;obtain ⟨rfl,rfl⟩:=h;obtain ⟨a1,a2,a3⟩:=ihL _ _ _ _ h1;refine ⟨a1,a2,fun H m S w ct hl hh=>?_⟩;obtain ⟨c1,c2⟩:=a3 H m S w ct hl hh;refine ⟨fun u hu=>?_,by simpa [zx] using c2⟩;simp only [zm] at hu ⊢;obtain ⟨xs,rfl,e1⟩:=hu;exact ⟨xs,rfl,c1 _ e1⟩
  ·intro hp id ex sz cs' hp' h;simp only [zbD] at h
   cases hg:zq hp id with
   | none=>simp [hg] at h
   | some ob=>
    cases ob<;>simp only [hg,reduceCtorEq] at h
    rename_i rw pu ex0 sz0 cs
    cases pu with
    | true=>
     simp only [cond_true,Option.some.injEq,Prod.mk.injEq] at h;obtain ⟨rfl,rfl,rfl,rfl⟩:=h;have hq:HLe hp (bif rw then z7 hp id (.cells false true ex0 sz0 cs) else hp)∧SameDom hp (bif rw then z7 hp id (.cells false true ex0 sz0 cs) else hp)∧zq (bif rw then z7 hp id (.cells false true ex0 sz0 cs) else hp) id=some (.cells false true ex0 sz0 cs):=by
      cases rw with
      | true=>
       obtain ⟨h1,h2⟩:=zmk hg (o':= .cells false true ex0 sz0 cs) ⟨false,rfl,by simp⟩;exact ⟨h1,h2,by simp [zbC,hg]⟩
      | false=>exact ⟨HLe.refl,SameDom.refl,hg⟩
     refine ⟨hq.1,hq.2.1,fun H m S w ct hl hh p hm=>?_⟩;obtain ⟨p',arr,t,g1,g2,g3,g4,g5,g6,g7,g8,g9,g10⟩:=hh.obj id _ _ (zme hl hq.2.2) hm;rw [hm] at g1;injection g1 with g1
     subst g1;exact ⟨g3,g4,g6,g10 rfl,g8 rfl,g7⟩
    | false=>
     simp only [cond_false] at h
     cases h1:zT n hp cs with
     | none=>simp [h1] at h
     | some q=>
      obtain ⟨cs1,hp1⟩:=q;simp only [h1,Option.some.injEq,Prod.mk.injEq] at h;obtain ⟨rfl,rfl,rfl,rfl⟩:=h;obtain ⟨a1,a2,a3⟩:=ihL _ _ _ _ h1;obtain ⟨o1,hg1,rw1,rfl,_⟩:=a1 id _ hg;obtain ⟨b1,b2⟩:=zmk hg1 (o':= .cells false false ex0 sz0 cs) ⟨false,rfl,by simp⟩;refine ⟨a1.trans b1,a2.trans b2,fun H m S w ct hl hh p hm=>?_⟩;have hq:zq (z7 hp1 id (.cells false false ex0 sz0 cs)) id=some (.cells false false ex0 sz0 cs):=by simp [zbC,hg1]
      obtain ⟨p',arr,t,g1,g2,g3,g4,g5,g6,g7,g8,g9,g10⟩:=hh.obj id _ _ (zme hl hq) hm;rw [hm] at g1;injection g1 with g1
      subst g1;obtain ⟨c1,c2⟩:=a3 H m S w ct (b1.trans hl) hh;have hlen:=zwE h1
      exact ⟨g3,by omega,fun hx=>by have:=g6 hx;omega,g10 rfl,c2,zOI c1 g7⟩
  ·intro hp vs vs' hp' h
   cases vs with
   | nil=>
    simp only [zT,Option.some.injEq,Prod.mk.injEq] at h;obtain ⟨rfl,rfl⟩:=h;exact ⟨HLe.refl,SameDom.refl,fun _ _ _ _ _ _ _=>⟨fun _ h=>h,rfl⟩⟩
   | cons v r=>
    simp only [zT] at h
    cases h1:zaf n hp v with
    | none=>simp [h1] at h
    | some q=>
     obtain ⟨v1,hp1⟩:=q;simp only [h1] at h
     cases h2:zT n hp1 r with
     | none=>simp [h2] at h
     | some q2=>
      obtain ⟨r1,hp2⟩:=q2;simp only [h2,Option.some.injEq,Prod.mk.injEq] at h;obtain ⟨rfl,rfl⟩:=h;obtain ⟨a1,a2,a3⟩:=ihV _ _ _ _ h1;obtain ⟨b1,b2,b3⟩:=ihL _ _ _ _ h2;refine ⟨a1.trans b1,a2.trans b2,fun H m S w ct hl hh=>?_⟩;obtain ⟨c1,c2⟩:=a3 H m S w ct (b1.trans hl) hh;obtain ⟨d1,d2⟩:=b3 H m S w ct hl hh;refine ⟨fun us hu=>?_,by simp [zn,c2,d2]⟩;simp only [zi] at hu ⊢;obtain ⟨u,t,rfl,e1,e2⟩:=hu;exact ⟨u,t,rfl,c1 _ e1,d1 _ e2⟩
theorem zgG {n:Nat} {hp hp':Hp} {vs vs':List AV} (h:zT n hp vs=some (vs',hp')):HLe hp hp'∧SameDom hp hp'∧zOU Λ hp' vs vs':=(zki n).2.2 _ _ _ _ h
theorem zh1 {n:Nat} {hp hp':Hp} {v v':AV} (h:zaf n hp v=some (v',hp')):HLe hp hp'∧SameDom hp hp'∧zL0 Λ hp' v v':=(zki n).1 _ _ _ _ h
end
end VE
end
