import Derived.Laws.CopyOwn
import Derived.Test.YtkhmakhdoedjiaaGreatDoorTaf
set_option linter.all false
set_option maxRecDepth 100000
namespace VE
open Go
section
variable {Λ:Link} {H:zbH} {m:Mp} {S:Nat→Prop} {w:World} {tm:Env} {a:Act} {hp:Hp} {ct:Nat}
structure One (w w':World) (g:Nat):Prop where
 os:w'.os=w.os
 tape:w'.tape=w.tape
 output:w'.output=w.output
 size:w'.heap.size=w.heap.size
 other:∀b,b≠g→w'.heap[b]? =w.heap[b]?
theorem zgz (w:World) (g:Nat) (cs:Array Value):One w (w.setRow g cs) g:=
 ⟨rfl,rfl,rfl,by simp,fun b hb=>setRow_other w g b cs hb⟩
theorem zks {id:Nat} {o:Obj} {p:Pl} (h:zq hp id=some o) (hm:m id=some p):Own m hp p.b:=⟨id,o,p,h,hm,rfl⟩
theorem zxr {id:Nat} {o':Obj} {b:Nat} (h:Own m (z7 hp id o') b):Own m hp b:=by
 obtain ⟨i,o,p,h1,h2,h3⟩:=h;rw [zbC] at h1;by_cases hi:id=i
 ·subst hi;simp only [if_true] at h1
  cases hq:zq hp id with
  | none=>simp [hq] at h1
  | some q=>exact ⟨id,q,p,hq,h2,h3⟩
 ·simp only [hi,if_false] at h1;exact ⟨i,o,p,h1,h2,h3⟩
theorem zfJ (hh:zR Λ m S w hp ct) {id:Nat} {o o':Obj} {p:Pl} {w':World} (ho:zq hp id=some o) (hm:m id=some p) (hn:¬S p.b) (hw:One w w' p.b) (h':zcB Λ m S w' id o') (hk:∀r:Loop,w.heap[p.b]? =some (.loop r)→∃r':Loop,w'.heap[p.b]? =some (.loop r')):
  zR Λ m S w' (z7 hp id o') ct∧Fwd m S w hp m S w' (z7 hp id o') ct:=by
 have hst:zaP S w w':=fun b hb=>hw.other b (fun e=>hn (e▸hb))
 refine ⟨⟨?_,hh.lt,?_,?_,?_,hh.low,?_,?_,fun i q hq=>(by
  rw [zbC] at hq;by_cases hc:id=i
  ·subst hc;exact hh.hlt _ _ ho
  ·simp only [hc,if_false] at hq;exact hh.hlt _ _ hq)⟩,⟨hw.os,hw.tape,hw.output,by rw [hw.size];exact Nat.le_refl _,?_,fun _ h=>h,fun b hb=>hst b hb,fun b hb=> .inl hb,fun b hb=> .inl (zxr hb),fun _ _ _ h=>h,fun b r hb=>?_⟩⟩
 rotate_right
 ·by_cases hc:b=p.b
  ·subst hc;exact hk r hb
  ·exact ⟨r,(hw.other b hc).trans hb⟩
 ·intro i q pi hi hmi;rw [zbC] at hi;by_cases hc:id=i
  ·subst hc;simp only [if_true,ho,Option.isSome_some] at hi;injection hi with hi
   subst hi;exact h'
  ·simp only [hc,if_false] at hi;refine zbE (fun _ _ h=>h) (fun _ h=>h) hst (fun q' hq'=>?_) (fun _ _ h=>h) (hh.obj i q pi hi hmi);exact hw.other _ (fun e=>hc (hh.inj i id q o q' p hi ho hq' hm e).symm)
 ·intro i j oi oj pi pj hi hj hmi hmj e;have key:∀{i:Nat} {oi:Obj},zq (z7 hp id o') i=some oi→∃oi',zq hp i=some oi':=by
   intro i oi hi;rw [zbC] at hi;by_cases hc:id=i
   ·subst hc;exact ⟨o,ho⟩
   ·simp only [hc,if_false] at hi;exact ⟨oi,hi⟩
  obtain ⟨oi',hi'⟩:=key hi;obtain ⟨oj',hj'⟩:=key hj;exact hh.inj i j oi' oj' pi pj hi' hj' hmi hmj e
 ·intro b hb;rw [hw.size];exact hh.slt b hb
 ·intro i q hq;rw [hw.size];exact hh.blt i q hq
 ·intro b hb
  rw [hw.other b (fun e=>by have:=hh.low id p hm;omega)];exact hh.good b hb
 ·rw [hw.size];exact hh.goodS
 ·intro b _ hb;exact hw.other b (fun e=>hb (e▸zks ho hm))
def zhf (Λ:Link) (m:Mp) (S:Nat→Prop) (w:World) (a:Act) (hp:Hp) (ct:Nat) (o:Oper) (v:AV) (hp':Hp) (ct':Nat):Prop:=
 ∃n u w' m' S',(execOp a.eval o).run Λ.P w= .ok n w'∧(n= .value u∨(n= .skip∧u=undef))∧zR Λ m' S' w' hp' ct'∧zm Λ.fid m' S' w' v u∧MLe m m'∧Fwd m S w hp m' S' w' hp' ct
theorem zvM {fid:Nat→Nat} {v:AV} {u:Value} (h:zm fid m S w v u) (ho:z9 v=true):u.oneCell'=true:=by
 cases v with
 | fn f a b=>
  cases f with
  | f g=>simp only [zm] at h;obtain ⟨_,_,rfl,_⟩:=h;rfl
  | y l=>simp only [zm] at h;obtain ⟨_,_,rfl⟩:=h;rfl
 | int k n=>simp only [zm] at h;subst h;rfl
 | bool b=>simp only [zm] at h;subst h;rfl
 | flt k n=>simp only [zm] at h;subst h;rfl
 | str s=>simp only [zm] at h;obtain ⟨_,rfl,_⟩:=h;rfl
 | nilp=>simp only [zm] at h;subst h;rfl
 | ptr i k=>simp only [zm] at h;obtain ⟨_,_,rfl⟩:=h;rfl
 | vptr cs=>simp only [zm] at h;obtain ⟨_,_,rfl,_⟩:=h;rfl
 | nils=>simp only [zm] at h;subst h;rfl
 | vsl e n cs=>simp only [zm] at h;rcases h with ⟨_,_,_,rfl,_⟩ | ⟨_,rfl,_,_⟩<;>rfl
 | fsl _ _ _ _=>simp [z9] at ho
 | osl i k n=>simp only [zm] at h;obtain ⟨_,_,_,rfl,_⟩:=h;rfl
 | nilf=>simp only [zm] at h;subst h;rfl
 | nilm=>simp only [zm] at h;subst h;rfl
 | map i=>simp only [zm] at h;obtain ⟨_,_,rfl⟩:=h;rfl
 | vmap ks vs=>simp only [zm] at h;obtain ⟨_,_,_,rfl,_⟩:=h;rfl
 | it i=>simp only [zm] at h;obtain ⟨_,_,rfl⟩:=h;rfl
 | agg cs=>simp [z9] at ho
 | tup cs=>simp [z9] at ho
 | undef=>simp [z9] at ho
theorem zfR {fid:Nat→Nat}:∀{vs:List AV} {us:List Value},zi fid m S w vs us→zH vs=true→∀u∈us,u.oneCell'=true
 | [],us,h,_,u,hu=>by simp only [zi] at h;subst h;cases hu
 | v::r,us,h,ho,u,hu=>by
  simp only [zi] at h;obtain ⟨u',t,rfl,h1,h2⟩:=h;simp only [zH,Bool.and_eq_true] at ho;rcases List.mem_cons.1 hu with rfl | hu
  ·exact zvM h1 ho.1
  ·exact zfR h2 ho.2 u hu
theorem znD {arr:Array Value} {t:TypeId} {p:Pl} {cs new:List AV} {vs:List Value} {o:Nat} {S':Nat→Prop} {m':Mp} (hb:w.heap[p.b]? =some (.cells arr t (0,0))) (hr:zX Λ.fid m S w cs p.b p.o)
  (hv:zi Λ.fid m S w new vs) (hl:o+new.length≤cs.length) (hs:p.o+cs.length≤arr.size) {w':World} (hm:MLe m m') (hS:∀b,S b→S' b) (hst:zaP S w w')
  (hw:w'.heap[p.b]? =some (.cells (arr.toList.take (p.o+o)++vs++arr.toList.drop (p.o+o+vs.length)).toArray t (0,0))):zX Λ.fid m' S' w' (zb6 o new cs) p.b p.o:=by
 obtain ⟨us,h1,h2,h3⟩:=zbu cs p.b p.o hr;have hvl:=zax _ _ hv;have h4:zi Λ.fid m S w (zb6 o new cs) (us.take o++vs++us.drop (o+new.length)):=zar (zar (zdJ o h1) hv) (zeM _ h1);refine zew _ _ _ (zah hm hS hst _ _ h4) (fun j u hj=>?_);have hcell:∀k u,us[k]? =some u→arr[p.o+k]? =some u:=by
  intro k u hk
  have:=h3 k u hk
  simpa [World.cell?,hb] using this
 simp only [World.cell?,hw,Option.isSome_none,Bool.false_eq_true,if_false];rw [List.getElem?_toArray];have e1:(arr.toList.take (p.o+o)).length=p.o+o:=by rw [List.length_take,Array.length_toList];omega
 have e2:(us.take o).length=o:=by rw [List.length_take];omega
 by_cases c1:j<o
 ·have g1:(us.take o++vs++us.drop (o+new.length))[j]? =us[j]? :=by
   rw [List.append_assoc,List.getElem?_append_left (by omega),List.getElem?_take_of_lt c1]
  rw [g1] at hj;rw [List.append_assoc,List.getElem?_append_left (by omega),List.getElem?_take_of_lt (by omega)];simpa using hcell j u hj
 ·by_cases c2:j<o+vs.length
  ·have g1:(us.take o++vs++us.drop (o+new.length))[j]? =vs[j-o]? :=by
    rw [List.append_assoc,List.getElem?_append_right (by omega),e2,List.getElem?_append_left (by omega)]
   rw [g1] at hj;rw [List.append_assoc,List.getElem?_append_right (by omega),e1,List.getElem?_append_left (by omega),show p.o+j-(p.o+o)=j-o by omega];exact hj
  ·have g1:(us.take o++vs++us.drop (o+new.length))[j]? =us[j]? :=by
    rw [List.append_assoc,List.getElem?_append_right (by omega),e2,List.getElem?_append_right (by omega),List.getElem?_drop]
    congr 1
    omega
   rw [g1] at hj;rw [List.append_assoc,List.getElem?_append_right (by omega),e1,List.getElem?_append_right (by omega),List.getElem?_drop,show p.o+o+vs.length+(p.o+j-(p.o+o)-vs.length)=p.o+j by omega];simpa using hcell j u hj
theorem zhh {o:Nat} {new cs:List AV} (hl:o+new.length≤cs.length):(zb6 o new cs).length=cs.length:=by
 simp only [zb6,List.length_append,List.length_take,List.length_drop];omega
theorem zj5 {o:Nat} {new cs:List AV} (h:zn cs=true) (h':zn new=true):zn (zb6 o new cs)=true:=
 zbZ (zbZ (zbW _ h) h') (zbU _ _ h)
theorem zCp {o:Oper} {t:TypeId} {x y:Operand} {sz:Nat} {v:AV} {hp':Hp} {ct':Nat} (hH:zaM Λ H) (ht:zaB Λ m S w tm a.tmps) (hh:zR Λ m S w hp ct)
  (ho:o.op= .store t x y) (hz:szT Λ.P t=some sz) (hv:zV tm hp ct (.st sz (opX H x) (opX H y))=some (v,hp',ct')):zhf Λ m S w a hp ct o v hp' ct':=by
 simp only [zV] at hv;have rx:=zad hH ht x;cases hx:zp tm (opX H x)<;>rw [hx] at hv rx<;>simp only [reduceCtorEq] at hv
 rename_i id k;simp only [zm] at rx;obtain ⟨p,hm,ex⟩:=rx
 split at hv
 case h_2=>cases hv
 rename_i pu exb z cs hg
 cases hc:(Nat.beq (cellsOf (zp tm (opX H y))).length sz&&Nat.ble (k+sz) cs.length&&zH (cellsOf (zp tm (opX H y)))) with
 | false=>rw [hc] at hv;cases hv
 | true=>
  rw [hc] at hv;simp only [cond_true,Option.some.injEq,Prod.mk.injEq] at hv;obtain ⟨rfl,rfl,rfl⟩:=hv;simp only [Bool.and_eq_true] at hc;have c1:=Nat.eq_of_beq_eq_true hc.1.1;have c2:=Nat.le_of_ble_eq_true hc.1.2;have ry:=zhH (zad hH ht y) hc.2;have hl:=zax _ _ ry;obtain ⟨p',arr,t',g1,g2,g3,g4,g5,g6,g7,g8,g9,g10⟩:=hh.obj id _ _ hg hm;rw [hm] at g1;injection g1 with g1
  subst g1;have hone:=zfR ry hc.2;have hrun:=run_storeCells_at Λ.P p.b (p.o+k) t' (a.eval y).cells.toList 0 arr w g2 (by rw [hl];omega) hone;simp only [Nat.add_zero] at hrun;have hsize:(a.eval y).cells.size=sz:=by rw [←c1,←hl];simp
  have hor:zcB Λ m S (w.setRow p.b (arr.toList.take (p.o+k)++(a.eval y).cells.toList++arr.toList.drop (p.o+k+(a.eval y).cells.toList.length)).toArray) id
    (.cells true (pu&&zn (cellsOf (zp tm (opX H y)))) exb z (zb6 k (cellsOf (zp tm (opX H y))) cs)):=by
   refine ⟨p,_,t',hm,setRow_heap w p.b arr _ t' _ g2,g3,by rw [zhh (by omega)];exact g4,?_,fun h=>by rw [zhh (by omega)];exact g6 h,?_,?_,fun _=>g9 rfl,by simp⟩
   ·rw [List.size_toArray,List.length_append,List.length_append,List.length_take,List.length_drop,Array.length_toList,hl];omega
   ·exact znD g2 g7 ry (by omega) (by omega) MLe.refl (fun _ h=>h) (fun b hb=>setRow_other w p.b b _ (fun e=>g9 rfl (e▸hb))) (setRow_heap w p.b arr _ t' _ g2)
   ·intro h;simp only [Bool.and_eq_true] at h;exact zj5 (g8 h.1) h.2
  obtain ⟨e1,e2⟩:=zfJ hh hg hm (g9 rfl) (zgz w p.b _) hor (fun r hr=>by rw [g2] at hr;cases hr);refine ⟨.skip,undef,_,m,S,?_,.inr ⟨rfl,rfl⟩,e1,by simp [zm,zi,undef],MLe.refl,e2⟩;simp only [execOp,ho,Instr.storeAt,ex,Instr.sureAddr,Sem.run_bind,Sem.run_pure,Result.andThen_ok,storeVar,zaC hz,hsize,ne_eq,not_true_eq_false,if_false];simp [hrun]
theorem zjt {d:TypeDesc} {k k':Value} (h:Instr.sameNow d k k'=some true):k=k':=by
 unfold Instr.sameNow at h
 split at h
 ·split at h
  ·rename_i e;simp only [Option.some.injEq,beq_iff_eq] at h;rw [e,h]
  ·cases h
 ·rename_i p q;simp only [Option.some.injEq] at h;have h2:(p.data==q.data)=true:=by cases p;cases q;exact h
  rw [beq_iff_eq] at h2;cases p;cases q;simp only at h2;rw [h2]
 ·simp only [Option.some.injEq,beq_iff_eq] at h;rw [h]
 ·cases h
theorem zk7 {d:TypeDesc} {k k':Value} (h:Instr.sameNow d k k'=some true) (n:Nat):Instr.sameBits n k' k=true:=by
 have e:=zjt h;subst e;unfold Instr.sameNow at h
 split at h
 ·simp [Instr.sameBits]
 ·simp only [Option.some.injEq] at h;simp [Instr.sameBits,h]
 ·simp [Instr.sameBits]
 ·cases h
def Put (fid:Nat→Nat) (m:Mp) (S:Nat→Prop) (w:World) (d:TypeDesc) (k x:Value) (es:List MapEntry) (i:Nat) (ks' vs':List AV):Prop:=
 (Instr.findNow d k es i=some none∧zi fid m S w ks' (es.map (·.key)++[k])∧zi fid m S w vs' (es.map (·.val)++[x]))∨
 ∃(j:Nat) (e0:MapEntry),Instr.findNow d k es i=some (some (i+j,e0.val))∧es[j]? =some e0∧Instr.sameNow d k e0.key=some true∧zi fid m S w ks' (es.map (·.key))∧zi fid m S w vs' ((es.map (·.val)).set j x)
theorem zrA {fid:Nat→Nat} {vk vx:AV} {k x:Value} {d:TypeDesc} (hk:zm fid m S w vk k) (hx:zm fid m S w vx x) (hd:zka d vk=true):∀(ks vs:List AV) (es:List MapEntry) (i:Nat) (ks' vs':List AV),
  zi fid m S w ks (es.map (·.key))→zi fid m S w vs (es.map (·.val))→zms vk vx ks vs=some (ks',vs')→Put fid m S w d k x es i ks' vs'
 | [],[],es,i,ks',vs',h1,h2,h=>by
  simp only [zi,List.map_eq_nil_iff] at h1;subst h1;simp only [zms,Option.some.injEq,Prod.mk.injEq] at h;obtain ⟨rfl,rfl⟩:=h;exact .inl ⟨rfl,by simp [zi,hk],by simp [zi,hx]⟩
 | [],_::_,es,i,ks',vs',h1,h2,h=>by simp [zms] at h
 | _::_,[],es,i,ks',vs',h1,h2,h=>by simp [zms] at h
 | c::ks,v::vs,es,i,ks',vs',h1,h2,h=>by
  cases es with
  | nil=>simp [zi] at h1
  | cons e es=>
   simp only [List.map_cons,zi,List.cons.injEq] at h1 h2;obtain ⟨u,t,⟨rfl,rfl⟩,hc,hks⟩:=h1;obtain ⟨u',t',⟨rfl,rfl⟩,hv,hvs⟩:=h2;simp only [zms] at h
   cases hke:zll vk c with
   | none=>simp [hke] at h
   | some b=>
    have hs:=zoj (d:=d) hk hc hke hd
    cases b with
    | true=>
     simp only [hke,Option.some.injEq,Prod.mk.injEq] at h;obtain ⟨rfl,rfl⟩:=h;refine .inr ⟨0,e,by simp [Instr.findNow,hs],rfl,hs,?_,?_⟩
     ·simp only [List.map_cons,zi];exact ⟨_,_,rfl,hc,hks⟩
     ·simp only [List.map_cons,List.set_cons_zero,zi];exact ⟨_,_,rfl,hx,hvs⟩
    | false=>
     simp only [hke] at h
     cases hm:zms vk vx ks vs with
     | none=>simp [hm] at h
     | some q=>
      obtain ⟨k1,v1⟩:=q;simp only [hm,Option.some.injEq,Prod.mk.injEq] at h;obtain ⟨rfl,rfl⟩:=h;rcases zrA hk hx hd ks vs es (i+1) k1 v1 hks hvs hm with ⟨g1,g2,g3⟩ | ⟨j,e0,g1,g2,g3,g4,g5⟩
      ·refine .inl ⟨by simp [Instr.findNow,hs,g1],?_,?_⟩
       ·simp only [List.map_cons,List.cons_append,zi];exact ⟨_,_,rfl,hc,g2⟩
       ·simp only [List.map_cons,List.cons_append,zi];exact ⟨_,_,rfl,hv,g3⟩
      ·refine .inr ⟨j+1,e0,?_,by simpa using g2,g3,?_,?_⟩
       ·simp only [Instr.findNow,hs,g1];rw [show i+1+j=i+(j+1) by omega]
       ·simp only [List.map_cons,zi];exact ⟨_,_,rfl,hc,g4⟩
       ·simp only [List.map_cons,List.set_cons_succ,zi];exact ⟨_,_,rfl,hv,g5⟩
theorem zcY (w:World) (g:Nat) (o:Go.Obj):One w {w with heap:=w.heap.setIfInBounds g o} g:=
 ⟨rfl,rfl,rfl,by simp,fun b hb=>by simp [Array.getElem?_setIfInBounds_ne (fun e=>hb e.symm)]⟩
theorem zcU {g:Nat} {o q:Go.Obj} (h:w.heap[g]? =some q):({w with heap:=w.heap.setIfInBounds g o}:World).heap[g]? =some o:=by
 have:=(Array.getElem?_eq_some_iff.1 h).1
 simp [this]
theorem zn1 {o:Oper} {t kt e:TypeId} {x k y:Operand} {kk:Nat} {v:AV} {hp':Hp} {ct':Nat} (hH:zaM Λ H) (ht:zaB Λ m S w tm a.tmps) (hh:zR Λ m S w hp ct)
  (ho:o.op= .mapUpdate t x k y∨o.op= .insert t x k y) (hu:Λ.P.underlying t=some (.map kt e)) (hkk:VE.keyOf Λ.P kt=some kk) (hv:zV tm hp ct (.mup kk (opX H x) (opX H k) (opX H y))=some (v,hp',ct')):zhf Λ m S w a hp ct o v hp' ct':=by
 simp only [zV] at hv;have rx:=zad hH ht x;cases hx:zp tm (opX H x)<;>rw [hx] at hv rx<;>simp only [reduceCtorEq] at hv
 rename_i id;simp only [zm] at rx;obtain ⟨p,hm,ex⟩:=rx
 split at hv
 case h_2=>cases hv
 rename_i ks vs hg
 cases hc:zdF kk (zp tm (opX H k)) with
 | false=>simp [hc] at hv
 | true=>
  simp only [hc,Bool.not_true,cond_false] at hv
  cases hp1:zms (zp tm (opX H k)) (zp tm (opX H y)) ks vs with
  | none=>simp [hp1] at hv
  | some q=>
   obtain ⟨ks',vs'⟩:=q;simp only [hp1,Option.some.injEq,Prod.mk.injEq] at hv;obtain ⟨rfl,rfl,rfl⟩:=hv;obtain ⟨d,hd1,hd2,hd3⟩:=zjV hkk hc;obtain ⟨p',es,clock,g1,g2,g3,g4,g5,g6⟩:=hh.obj id _ _ hg hm;rw [hm] at g1;injection g1 with g1
   subst g1;have hput:=zrA (d:=d) (zad hH ht k) (zad hH ht y) hd3 ks vs es.toList 0 ks' vs' g3 g4 hp1
   have fin:∀(es':Array MapEntry) (c':Nat),(Instr.mapUpdate t (a.eval x) (a.eval k) (a.eval y)).run Λ.P w= .ok () {w with heap:=w.heap.setIfInBounds p.b (.map es' c')}→
     zi Λ.fid m S w ks' (es'.toList.map (·.key))→zi Λ.fid m S w vs' (es'.toList.map (·.val))→zhf Λ m S w a hp ct o (.tup []) (z7 hp id (.mp true ks' vs')) ct:=by
    intro es' c' hrun h1 h2
    have hst:zaP S w {w with heap:=w.heap.setIfInBounds p.b (.map es' c')}:=fun b hb=>(zcY w p.b _).other b (fun e=>g5 rfl (e▸hb))
    have hor:zcB Λ m S {w with heap:=w.heap.setIfInBounds p.b (.map es' c')} id (.mp true ks' vs'):=
     ⟨p,es',c',hm,zcU g2,zah (fun _ _ h=>h) (fun _ h=>h) hst _ _ h1,zah (fun _ _ h=>h) (fun _ h=>h) hst _ _ h2,fun _=>g5 rfl,by simp⟩
    obtain ⟨e1,e2⟩:=zfJ hh hg hm (g5 rfl) (zcY w p.b _) hor (fun r hr=>by rw [g2] at hr;cases hr);refine ⟨.skip,undef,_,m,S,?_,.inr ⟨rfl,rfl⟩,e1,by simp [zm,zi,undef],MLe.refl,e2⟩;rcases ho with ho | ho<;>simp [execOp,ho,hrun]
   have hck:=zbm (P:=Λ.P) (w:=w) hd1 hd2 false (a.eval k);rcases hput with ⟨h1,h2,h3⟩ | ⟨j,e0,h1,h2,h3,h4,h5⟩
   ·refine fin (es.push ⟨a.eval k,a.eval y,clock⟩) (clock+1) ?_ (by simpa using h2) (by simpa using h3);rw [ex];simp [Instr.mapUpdate,run_underlying hu,MapKept.run_getObj_map g2,hck,Instr.findKey,run_underlying hd1,h1,MapKept.run_setObj_map _ g2]
   ·have hj:es[j]? =some e0:=by simpa using h2
    simp only [Nat.zero_add] at h1;have hkey:=zjt h3
    refine fin (es.modify j fun e=>{e with key:=a.eval k,val:=a.eval y}) clock ?_ ?_ ?_
    ·rw [ex];have hsb:Instr.sameBits 10000 (a.eval k) (a.eval k)=true:=by have:=zk7 h3 10000;rwa [←hkey] at this
     simp [Instr.mapUpdate,run_underlying hu,MapKept.run_getObj_map g2,hck,Instr.findKey,run_underlying hd1,h1,MapKept.run_setObj_map _ g2,hj,Instr.keyThatStays,hsb,hkey.symm]
    ·have:(es.modify j fun e=>{e with key:=a.eval k,val:=a.eval y}).toList.map (·.key)=es.toList.map (·.key):=by
      apply List.ext_getElem?;intro n;simp only [List.getElem?_map,Array.getElem?_toList,Array.getElem?_modify];by_cases hn:j=n
      ·subst hn;simp [hj,hkey]
      ·simp [hn]
     rw [this];exact h4
    ·have:(es.modify j fun e=>{e with key:=a.eval k,val:=a.eval y}).toList.map (·.val)=(es.toList.map (·.val)).set j (a.eval y):=by
      apply List.ext_getElem?;intro n;simp only [List.getElem?_map,Array.getElem?_toList,Array.getElem?_modify,List.getElem?_set];by_cases hn:j=n
      ·subst hn
       have:=(Array.getElem?_eq_some_iff.1 hj).1
       simp [this]
      ·simp [hn]
     rw [this];exact h5
theorem zAa (t:ByteArray) (i:Nat):(t.get! i).toNat=(t.data.toList.map UInt8.toNat).getD i 0:=by
 have:t.get! i=t.data[i]! :=by cases t;rfl
 rw [this];by_cases h:i<t.data.size
 ·have h1:t.data[i]! =t.data[i]:=getElem!_pos t.data i h;have h2:t.data[i]? =some t.data[i]:=by simp []
  rw [h1,List.getD_eq_getElem?_getD,List.getElem?_map,Array.getElem?_toList,h2];rfl
 ·simp only [Array.getElem!_eq_getD,Array.getD_eq_getD_getElem?,List.getD_eq_getElem?_getD,List.getElem?_map,Array.getElem?_toList];rw [Array.getElem?_eq_none (by omega)];rfl
theorem zui (t:ByteArray) (i:Nat):zcH (t.data.toList.map UInt8.toNat) i=Utf8.decode t i:=by
 have hsz:(t.data.toList.map UInt8.toNat).length=t.size:=by simp
 simp only [zcH,Utf8.decode,zAa,hsz]
theorem zyU {o:Oper} {x:Operand} {v:AV} {hp':Hp} {ct':Nat} (hH:zaM Λ H) (ht:zaB Λ m S w tm a.tmps) (hh:zR Λ m S w hp ct)
  (ho:o.op= .next x true) (hv:zV tm hp ct (.nxt (opX H x))=some (v,hp',ct')):zhf Λ m S w a hp ct o v hp' ct':=by
 simp only [zV] at hv;have rx:=zad hH ht x;cases hx:zp tm (opX H x)<;>rw [hx] at hv rx<;>simp only [reduceCtorEq] at hv
 rename_i id;simp only [zm] at rx;obtain ⟨p,hm,ex⟩:=rx
 split at hv
 case h_2=>cases hv
 rename_i s pos hg;obtain ⟨p',t,g1,g2,g3,g4⟩:=hh.obj id _ _ hg hm;rw [hm] at g1;injection g1 with g1
 subst g1;have zq:(getObj p.b).run Λ.P w= .ok (.stringIter t pos) w:=by simp [getObj,Sem.run,g2]
 have hlen:s.length=t.size:=by rw [←g3];simp
 cases hc:Nat.blt pos s.length with
 | false=>
  rw [hc] at hv;simp only [cond_false,Option.some.injEq,Prod.mk.injEq] at hv;obtain ⟨rfl,rfl,rfl⟩:=hv;have hlt:¬pos<t.size:=by
   intro h
   have:Nat.blt pos s.length=true:=by simp [Nat.blt];omega
   rw [this] at hc;cases hc
  refine ⟨.value (.tuple #[.bool false]),.tuple #[.bool false],w,m,S,?_,.inl rfl,hh,by simp [zm,zi],MLe.refl,Fwd.refl⟩;simp [execOp,ho,ex,Instr.next,zq,hlt]
 | true=>
  rw [hc] at hv;simp only [cond_true] at hv;have hlt:pos<t.size:=by
   have:pos+1≤s.length:=by simpa [Nat.blt] using hc
   omega
  cases hdc:zcH s pos with | mk c wd=>
  rw [hdc] at hv;simp only [Option.some.injEq,Prod.mk.injEq] at hv;obtain ⟨rfl,rfl,rfl⟩:=hv;have hd:Utf8.decode t pos=(c,wd):=by rw [←zui,g3,hdc]
  have hor:zcB Λ m S {w with heap:=w.heap.setIfInBounds p.b (.stringIter t (pos+wd))} id (.si s (pos+wd)):=⟨p,t,hm,zcU g2,g3,g4⟩;obtain ⟨e1,e2⟩:=zfJ hh hg hm g4 (zcY w p.b _) hor (fun r hr=>by rw [g2] at hr;cases hr);refine ⟨.value (.tuple #[.bool true,goInt pos,.int .i32 c]),_,_,m,S,?_,.inl rfl,e1,by simp [zm,zi,goInt],MLe.refl,e2⟩
  have z7:(setObj p.b (.stringIter t (pos+wd))).run Λ.P w= .ok () {w with heap:=w.heap.setIfInBounds p.b (.stringIter t (pos+wd))}:=by simp [setObj,Sem.run,g2]
  simp [execOp,ho,ex,Instr.next,zq,hlt,hd,z7]
end
end VE
